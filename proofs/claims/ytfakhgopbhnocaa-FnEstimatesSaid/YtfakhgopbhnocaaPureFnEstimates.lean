/- The law FnEstimates over numbers and lists: it is true of every input. -/
import Derived.Test.YtfakhgopbhnocaaStatFnEstimates
import Derived.Test.YtfakhgopbhnocaaWMore
set_option linter.unusedVariables false
set_option linter.unusedSimpArgs false
namespace Go.Proofs.Ytfakhgopbhnocaa.Kit
open Go.RowKit Go.Proofs.YtfakhgopbhnocaaW.PrintWords Go.Proofs.YtfakhgopbhnocaaW.PrintMore

/-! ### Rounds -/
theorem Ev.all {α : Type} {g : Nat → Option α} {r : α} (h : ∀ k, g k = some r) : Ev g r := ⟨0, fun k _ => h k⟩
theorem Ev.of1 {α β : Type} {g : Nat → Option α} {f : Nat → Option β} {r : α} {b : β} (h : Ev f b) (k : ∀ k, f k = some b → g k = some r) : Ev g r := by
  obtain ⟨K, h⟩ := h; exact ⟨K, fun n hn => k n (h n hn)⟩
theorem Ev.of2 {α β γ : Type} {g : Nat → Option α} {f : Nat → Option β} {f' : Nat → Option γ} {r : α} {b : β} {c : γ} (h : Ev f b) (h' : Ev f' c) (k : ∀ k, f k = some b → f' k = some c → g k = some r) : Ev g r := by
  obtain ⟨K, h⟩ := h; obtain ⟨K', h'⟩ := h'; exact ⟨K + K', fun n hn => k n (h n (by omega)) (h' n (by omega))⟩
theorem Ev.next0 {α : Type} {g : Nat → Option α} {r : α} (h : ∀ k, g (k + 1) = some r) : Ev g r :=
  ⟨1, fun n hn => by obtain ⟨m, rfl⟩ : ∃ m, n = m + 1 := ⟨n - 1, by omega⟩; exact h m⟩
theorem Ev.next1 {α β : Type} {g : Nat → Option α} {f : Nat → Option β} {r : α} {b : β} (h : Ev f b) (k : ∀ k, f k = some b → g (k + 1) = some r) : Ev g r := by
  obtain ⟨K, h⟩ := h
  exact ⟨K + 1, fun n hn => by obtain ⟨m, rfl⟩ : ∃ m, n = m + 1 := ⟨n - 1, by omega⟩; exact k m (h m (by omega))⟩
theorem Ev.next2 {α β γ : Type} {g : Nat → Option α} {f : Nat → Option β} {f' : Nat → Option γ} {r : α} {b : β} {c : γ} (h : Ev f b) (h' : Ev f' c) (k : ∀ k, f k = some b → f' k = some c → g (k + 1) = some r) : Ev g r := by
  obtain ⟨K, h⟩ := h; obtain ⟨K', h'⟩ := h'
  exact ⟨K + K' + 1, fun n hn => by obtain ⟨m, rfl⟩ : ∃ m, n = m + 1 := ⟨n - 1, by omega⟩; exact k m (h m (by omega)) (h' m (by omega))⟩
/-- From some number of rounds on. -/
def Evt (p : Nat → Prop) : Prop := ∃ K, ∀ k, K ≤ k → p k
theorem ev_one {α : Type} {f : Nat → Option α} {a : α} (h : Ev f a) : Evt (fun k => f k = some a) := h
theorem ev_and {α : Type} {f : Nat → Option α} {a : α} {p : Nat → Prop} (h : Ev f a) (h' : Evt p) : Evt (fun k => f k = some a ∧ p k) := by
  obtain ⟨K, h⟩ := h; obtain ⟨K', h'⟩ := h'; exact ⟨K + K', fun n hn => ⟨h n (by omega), h' n (by omega)⟩⟩
theorem Evt.ev {α : Type} {g : Nat → Option α} {r : α} {p : Nat → Prop} (h : Evt p) (k : ∀ k, p k → g k = some r) : Ev g r := by
  obtain ⟨K, h⟩ := h; exact ⟨K, fun n hn => k n (h n hn)⟩
theorem Evt.next {α : Type} {g : Nat → Option α} {r : α} {p : Nat → Prop} (h : Evt p) (k : ∀ k, p k → g (k + 1) = some r) : Ev g r := by
  obtain ⟨K, h⟩ := h
  exact ⟨K + 1, fun n hn => by obtain ⟨m, rfl⟩ : ∃ m, n = m + 1 := ⟨n - 1, by omega⟩; exact k m (h m (by omega))⟩

/-! ### Whole numbers -/
theorem wrap_id {x : Int} (h0 : -9223372036854775808 ≤ x) (h1 : x ≤ 9223372036854775807) : wrap64 x = x := by unfold wrap64; omega
theorem wrap_succ {i n : Nat} (h : i < n) (hn : n ≤ 9223372036854775807) : wrap64 ((i : Int) + 1) = ((i + 1 : Nat) : Int) := by unfold wrap64; omega
theorem toNat_cast (i : Nat) : ((i : Int)).toNat = i := by omega

theorem mx_eq (a b : Int) : mx a b = max a b := by unfold mx; split <;> omega
/-! ### Lists from an index on -/
theorem drop_cons {α : Type} {xs ys : List α} {y : α} {i : Nat} (h : xs.drop i = y :: ys) : i < xs.length ∧ xs[i]? = some y ∧ xs.drop (i + 1) = ys := by
  have hlt : i < xs.length := by
    by_cases hlt : i < xs.length
    · exact hlt
    · rw [List.drop_of_length_le (by omega)] at h; cases h
  rw [List.drop_eq_getElem_cons hlt] at h
  injection h with h1 h2
  exact ⟨hlt, by rw [List.getElem?_eq_getElem hlt, h1], h2⟩
theorem drop_nil {α : Type} {xs : List α} {i : Nat} (h : xs.drop i = []) : xs.length ≤ i := by simpa using h
theorem getD_drop {α : Type} {xs ys : List α} {y d : α} {i : Nat} (h : xs.drop i = y :: ys) : xs.getD ((i : Int)).toNat d = y := by
  rw [toNat_cast, List.getD_eq_getElem?_getD, (drop_cons h).2.1]; rfl
theorem rd_drop {xs ys : List Int} {y : Int} {i : Nat} (h : xs.drop i = y :: ys) : rd xs (i : Int) = y := getD_drop h
theorem getD_get {α : Type} {xs : List α} {y d : α} {i : Nat} (h : xs[i]? = some y) : xs.getD ((i : Int)).toNat d = y := by
  rw [toNat_cast, List.getD_eq_getElem?_getD, h]; rfl
theorem rd_get {xs : List Int} {y : Int} {i : Nat} (h : xs[i]? = some y) : rd xs (i : Int) = y := getD_get h
/-! ### A list that is copied, element for element -/
theorem copy_step {α : Type} {m x : List α} {y : α} {i : Nat} (hm : m[i]? = some y) (hl : x.length = m.length) (ht : x.take i = m.take i) : (x.set i y).length = m.length ∧ (x.set i y).take (i + 1) = m.take (i + 1) := by
  obtain ⟨hi, rfl⟩ := List.getElem?_eq_some_iff.1 hm
  refine ⟨by simpa using hl, ?_⟩
  apply List.ext_getElem?
  intro j
  have hj : (x.take i)[j]? = (m.take i)[j]? := by rw [ht]
  rw [List.getElem?_take, List.getElem?_take] at *
  by_cases h1 : j < i + 1
  · rw [if_pos h1, if_pos h1]
    by_cases h2 : j = i
    · subst h2
      rw [List.getElem?_set_self (by omega), List.getElem?_eq_getElem hi]
    · rw [List.getElem?_set_ne (by omega)]
      rw [if_pos (by omega), if_pos (by omega)] at hj
      exact hj
  · rw [if_neg h1, if_neg h1]
theorem copy_end {α : Type} {m x : List α} {i : Nat} (hl : x.length = m.length) (ht : x.take i = m.take i) (hi : m.length ≤ i) : x = m := by
  rw [List.take_of_length_le (by omega), List.take_of_length_le hi] at ht; exact ht

/-! ### Strictly increasing lists of 0..n-1 -/
/-! ### Numbers marked and held -/
end Go.Proofs.Ytfakhgopbhnocaa.Kit
namespace Go.Proofs.Ytfakhgopbhnocaa.Model
open Go.RowKit Go.Proofs.YtfakhgopbhnocaaW.PrintWords Go.Proofs.Ytfakhgopbhnocaa.Kit

/-- Numbers within bounds, all of them. -/
def allIn (lo hi : Int) : List Int → Bool
  | [] => true
  | y :: ys => decide (lo ≤ y ∧ y ≤ hi) && allIn lo hi ys
theorem allIn_mem {lo hi : Int} : ∀ {ys : List Int}, allIn lo hi ys = true → ∀ y ∈ ys, lo ≤ y ∧ y ≤ hi
  | [], _, y, hy => by cases hy
  | z :: zs, h, y, hy => by
    simp only [allIn, Bool.and_eq_true, decide_eq_true_eq] at h
    rcases List.mem_cons.1 hy with rfl | hy
    · exact h.1
    · exact allIn_mem h.2 y hy
theorem allIn_get {lo hi : Int} {ys : List Int} (h : allIn lo hi ys = true) {i : Nat} {y : Int} (hy : ys[i]? = some y) : lo ≤ y ∧ y ≤ hi := allIn_mem h y (List.mem_of_getElem? hy)
theorem allIn_of {lo hi : Int} : ∀ {ys : List Int}, (∀ y ∈ ys, lo ≤ y ∧ y ≤ hi) → allIn lo hi ys = true
  | [], _ => rfl
  | z :: zs, h => by simp only [allIn, Bool.and_eq_true, decide_eq_true_eq]; exact ⟨h z (by simp), allIn_of fun y hy => h y (by simp [hy])⟩

def gridOk (x y z : Int) : Bool := decide (1 ≤ x ∧ x ≤ 8 ∧ 1 ≤ y ∧ y ≤ 6 ∧ 1 ≤ z ∧ z ≤ 5 ∧ x * y * z ≤ 120)
theorem grid_prod {x y z : Int} (hx : 1 ≤ x ∧ x ≤ 8) (hy : 1 ≤ y ∧ y ≤ 6) (hz : 1 ≤ z ∧ z ≤ 5) : 1 ≤ x * y ∧ x * y ≤ 48 ∧ 1 ≤ x * y * z ∧ x * y * z ≤ 240 := by
  rcases (by omega : x = 1 ∨ x = 2 ∨ x = 3 ∨ x = 4 ∨ x = 5 ∨ x = 6 ∨ x = 7 ∨ x = 8) with rfl | rfl | rfl | rfl | rfl | rfl | rfl | rfl <;>
    rcases (by omega : z = 1 ∨ z = 2 ∨ z = 3 ∨ z = 4 ∨ z = 5) with rfl | rfl | rfl | rfl | rfl <;> omega
theorem grid_ok {x y z : Int} (h : gridOk x y z = true) : (1 ≤ x ∧ x ≤ 8) ∧ (1 ≤ y ∧ y ≤ 6) ∧ (1 ≤ z ∧ z ≤ 5) ∧ 1 ≤ x * y ∧ x * y ≤ 48 ∧ 1 ≤ x * y * z ∧ x * y * z ≤ 120 := by
  simp only [gridOk, decide_eq_true_eq] at h
  have := grid_prod (x := x) (y := y) (z := z) (by omega) (by omega) (by omega)
  omega
theorem grid_wrap {x y z : Int} (hx : 1 ≤ x ∧ x ≤ 8) (hy : 1 ≤ y ∧ y ≤ 6) (hz : 1 ≤ z ∧ z ≤ 5) : wrap64 (wrap64 (x * y) * z) = x * y * z := by
  have := grid_prod hx hy hz
  rw [wrap_id (x := x * y) (by omega) (by omega), wrap_id (by omega) (by omega)]
def holeOk (gx gy gz x y z t g : Int) : Bool := decide (0 ≤ x ∧ x < 10 * gx ∧ 0 ≤ y ∧ y < 10 * gy ∧ 0 ≤ z ∧ z < 10 * gz ∧ 1 ≤ t ∧ t ≤ 1000 ∧ 0 ≤ g ∧ g ≤ 1000)
def modelOk (x y z : Int) (t g r : List Int) : Bool := gridOk x y z && decide ((t.length : Int) = x * y * z ∧ (g.length : Int) = x * y * z ∧ (r.length : Int) = x * y * z) && (allIn 0 10000 t && (allIn 0 1000 g && allIn 0 4 r))
theorem sq_bd {d : Int} (h : -1000 ≤ d ∧ d ≤ 1000) : 0 ≤ d * d ∧ d * d ≤ 1000000 := by
  rcases Int.le_total 0 d with h0 | h0
  · exact ⟨Int.mul_nonneg h0 h0, Int.mul_le_mul h.2 h.2 h0 (by omega)⟩
  · rw [← Int.neg_mul_neg]
    exact ⟨Int.mul_nonneg (by omega) (by omega), Int.mul_le_mul (a := -d) (b := -d) (c := 1000) (d := 1000) (by omega) (by omega) (by omega) (by omega)⟩
/-- The square of the distance of a place from the middle of a block's place. -/
def farOf (px py pz x y z : Int) : Int := (x - 10 * px - 5) * (x - 10 * px - 5) + (y - 10 * py - 5) * (y - 10 * py - 5) + (z - 10 * pz - 5) * (z - 10 * pz - 5)
theorem far_nonneg (px py pz x y z : Int) : 0 ≤ farOf px py pz x y z := by
  have h : ∀ d : Int, 0 ≤ d * d := fun d => by
    rcases Int.le_total 0 d with h0 | h0
    · exact Int.mul_nonneg h0 h0
    · rw [← Int.neg_mul_neg]; exact Int.mul_nonneg (by omega) (by omega)
  have a := h (x - 10 * px - 5); have b := h (y - 10 * py - 5); have c := h (z - 10 * pz - 5)
  unfold farOf; omega
theorem far_wrap {px py pz x y z : Int} (hx : 0 ≤ px ∧ px ≤ 10) (hy : 0 ≤ py ∧ py ≤ 10) (hz : 0 ≤ pz ∧ pz ≤ 10) (kx : 0 ≤ x ∧ x ≤ 100) (ky : 0 ≤ y ∧ y ≤ 100) (kz : 0 ≤ z ∧ z ≤ 100) :
    wrap64 ((wrap64 ((wrap64 ((wrap64 ((wrap64 (x - (wrap64 (10 * px)))) - 5)) * (wrap64 ((wrap64 (x - (wrap64 (10 * px)))) - 5)))) + (wrap64 ((wrap64 ((wrap64 (y - (wrap64 (10 * py)))) - 5)) * (wrap64 ((wrap64 (y - (wrap64 (10 * py)))) - 5)))))) + (wrap64 ((wrap64 ((wrap64 (z - (wrap64 (10 * pz)))) - 5)) * (wrap64 ((wrap64 (z - (wrap64 (10 * pz)))) - 5))))) = farOf px py pz x y z := by
  have a := sq_bd (d := x - 10 * px - 5) (by omega)
  have b := sq_bd (d := y - 10 * py - 5) (by omega)
  have c := sq_bd (d := z - 10 * pz - 5) (by omega)
  rw [wrap_id (x := 10 * px) (by omega) (by omega), wrap_id (x := 10 * py) (by omega) (by omega), wrap_id (x := 10 * pz) (by omega) (by omega),
    wrap_id (x := x - 10 * px) (by omega) (by omega), wrap_id (x := y - 10 * py) (by omega) (by omega), wrap_id (x := z - 10 * pz) (by omega) (by omega),
    wrap_id (x := x - 10 * px - 5) (by omega) (by omega), wrap_id (x := y - 10 * py - 5) (by omega) (by omega), wrap_id (x := z - 10 * pz - 5) (by omega) (by omega),
    wrap_id (x := (x - 10 * px - 5) * (x - 10 * px - 5)) (by omega) (by omega), wrap_id (x := (y - 10 * py - 5) * (y - 10 * py - 5)) (by omega) (by omega), wrap_id (x := (z - 10 * pz - 5) * (z - 10 * pz - 5)) (by omega) (by omega),
    wrap_id (x := (x - 10 * px - 5) * (x - 10 * px - 5) + (y - 10 * py - 5) * (y - 10 * py - 5)) (by omega) (by omega), wrap_id (by omega) (by omega)]
  rfl
def near {α : Type} (far : α → Int) : List α → Int → Int → Int → Int
  | [], _, best, _ => best
  | h :: hs, i, best, least => if least < 0 ∨ far h < least then near far hs (i + 1) i (far h) else near far hs (i + 1) best least
def hasBlock (x y z i : Int) : Bool := gridOk x y z && decide (0 ≤ i ∧ i < x * y * z)
theorem place_of {x y z i : Int} (h : hasBlock x y z i = true) : (0 ≤ i % x ∧ i % x < x) ∧ (0 ≤ i / x % y ∧ i / x % y < y) ∧ (0 ≤ i / x / y ∧ i / x / y < z) ∧ 0 ≤ i / x ∧ i / x ≤ 120 := by
  simp only [hasBlock, Bool.and_eq_true, decide_eq_true_eq] at h
  have hb := grid_ok h.1
  have hi := h.2
  have h1 : 0 ≤ i / x := Int.ediv_nonneg (by omega) (by omega)
  have h2 : i / x < y * z := by
    apply Int.ediv_lt_of_lt_mul (by omega)
    rw [Int.mul_comm (y * z) x, ← Int.mul_assoc]; exact hi.2
  have h3 : i / x / y < z := by
    apply Int.ediv_lt_of_lt_mul (by omega)
    rw [Int.mul_comm z y]; exact h2
  have h4 : i / x ≤ i := Int.ediv_le_self _ (by omega)
  exact ⟨⟨Int.emod_nonneg _ (by omega), Int.emod_lt_of_pos _ (by omega)⟩, ⟨Int.emod_nonneg _ (by omega), Int.emod_lt_of_pos _ (by omega)⟩, ⟨Int.ediv_nonneg h1 (by omega), h3⟩, h1, by omega⟩
/-- A fraction in lowest terms, of numbers that are not negative. -/
def low (a b : Int) : Int × Int := (a / (Nat.gcd a.natAbs b.natAbs : Int), b / (Nat.gcd a.natAbs b.natAbs : Int))
theorem low_bd {a b : Int} (ha : 0 ≤ a) (hb : 0 < b) : 1 ≤ (Nat.gcd a.natAbs b.natAbs : Int) ∧ 0 ≤ (low a b).1 ∧ (low a b).1 ≤ a ∧ 1 ≤ (low a b).2 ∧ (low a b).2 ≤ b ∧ a = (low a b).1 * (Nat.gcd a.natAbs b.natAbs : Int) ∧ b = (low a b).2 * (Nat.gcd a.natAbs b.natAbs : Int) := by
  have hg : 0 < Nat.gcd a.natAbs b.natAbs := Nat.gcd_pos_of_pos_right _ (by omega)
  have d1 : (Nat.gcd a.natAbs b.natAbs : Int) ∣ a := Int.natAbs_dvd_natAbs.1 (by simpa using Nat.gcd_dvd_left a.natAbs b.natAbs)
  have d2 : (Nat.gcd a.natAbs b.natAbs : Int) ∣ b := Int.natAbs_dvd_natAbs.1 (by simpa using Nat.gcd_dvd_right a.natAbs b.natAbs)
  have e1 := Int.ediv_mul_cancel d1
  have e2 := Int.ediv_mul_cancel d2
  have h1 : 0 ≤ a / (Nat.gcd a.natAbs b.natAbs : Int) := Int.ediv_nonneg ha (by omega)
  have h2 : a / (Nat.gcd a.natAbs b.natAbs : Int) ≤ a := Int.ediv_le_self _ ha
  have h3 : 0 ≤ b / (Nat.gcd a.natAbs b.natAbs : Int) := Int.ediv_nonneg (by omega) (by omega)
  have h4 : b / (Nat.gcd a.natAbs b.natAbs : Int) ≤ b := Int.ediv_le_self _ (by omega)
  refine ⟨by omega, h1, h2, ?_, h4, e1.symm, e2.symm⟩
  by_cases h5 : b / (Nat.gcd a.natAbs b.natAbs : Int) = 0
  · rw [h5] at e2; omega
  · show 1 ≤ b / (Nat.gcd a.natAbs b.natAbs : Int); omega
end Go.Proofs.Ytfakhgopbhnocaa.Model
namespace Go.Proofs.Ytfakhgopbhnocaa.PureFnEstimates
open Go.RowKit Go.Proofs.Ytfakhgopbhnocaa.PFnEstimates Go.Proofs.YtfakhgopbhnocaaW.PrintWords Go.Proofs.YtfakhgopbhnocaaW.PrintLast Go.Proofs.YtfakhgopbhnocaaW.PrintMore Go.Proofs.Ytfakhgopbhnocaa.Kit Go.Proofs.Ytfakhgopbhnocaa.Model
theorem impl_IsGrid_eq (x y z : Int) : impl_IsGrid.f x y z = some (gridOk x y z) := by
  simp only [impl_IsGrid.f, gridOk]
  by_cases hx : 1 ≤ x ∧ x ≤ 8
  · rw [if_pos (by omega), if_pos (by omega)]
    by_cases hy : 1 ≤ y ∧ y ≤ 6
    · rw [if_pos (by omega), if_pos (by omega)]
      by_cases hz : 1 ≤ z ∧ z ≤ 5
      · rw [if_pos (by omega), if_pos (by omega), grid_wrap hx hy hz]; congr 1; simp [hx, hy, hz]
      · have e : decide (1 ≤ x ∧ x ≤ 8 ∧ 1 ≤ y ∧ y ≤ 6 ∧ 1 ≤ z ∧ z ≤ 5 ∧ x * y * z ≤ 120) = false := by simp; omega
        rw [e]; split
        · rw [if_neg (by omega)]
        · rfl
    · have e : decide (1 ≤ x ∧ x ≤ 8 ∧ 1 ≤ y ∧ y ≤ 6 ∧ 1 ≤ z ∧ z ≤ 5 ∧ x * y * z ≤ 120) = false := by simp; omega
      rw [e]; split
      · rw [if_neg (by omega)]
      · rfl
  · have e : decide (1 ≤ x ∧ x ≤ 8 ∧ 1 ≤ y ∧ y ≤ 6 ∧ 1 ≤ z ∧ z ≤ 5 ∧ x * y * z ≤ 120) = false := by simp; omega
    rw [e]; split
    · rw [if_neg (by omega)]
    · rfl
theorem impl_blocksOf_eq (x y z : Int) (h : gridOk x y z = true) : impl_blocksOf.f x y z = some (x * y * z) := by
  have hb := grid_ok h
  simp only [impl_blocksOf.f]
  rw [grid_wrap hb.1 hb.2.1 hb.2.2.1]
theorem impl_IsModel_l0 (x y z : Int) (t g r : List Int) (n : Nat) (hn : n ≤ 1048576) (ht : t.length = n) (hg : g.length = n) (hr : r.length = n) : ∀ (ts gs rs : List Int) (i : Nat), t.drop i = ts → g.drop i = gs → r.drop i = rs → Ev (fun k => impl_IsModel.l0 k (n : Int) i x y z t g r) (allIn 0 10000 ts && (allIn 0 1000 gs && allIn 0 4 rs))
  | [], gs, rs, i, h, hg', hr' => Ev.next0 fun k => by
      have h0 := drop_nil h
      have e1 : gs = [] := by rw [← hg']; exact List.drop_of_length_le (by omega)
      have e2 : rs = [] := by rw [← hr']; exact List.drop_of_length_le (by omega)
      subst e1 e2
      simp only [impl_IsModel.l0, allIn]
      rw [if_neg (by omega)]; rfl
  | a :: ts, [], rs, i, h, hg', hr' => by have h1 := (drop_cons h).1; have h2 := drop_nil hg'; omega
  | a :: ts, b :: gs, [], i, h, hg', hr' => by have h1 := (drop_cons h).1; have h2 := drop_nil hr'; omega
  | a :: ts, b :: gs, c :: rs, i, h, hg', hr' => by
      obtain ⟨h1, h2, h3⟩ := drop_cons h
      obtain ⟨g1, g2, g3⟩ := drop_cons hg'
      obtain ⟨r1, r2, r3⟩ := drop_cons hr'
      have ea := rd_drop h
      have eb := rd_drop hg'
      have ec := rd_drop hr'
      refine Ev.next1 (impl_IsModel_l0 x y z t g r n hn ht hg hr ts gs rs (i + 1) h3 g3 r3) fun k hk => ?_
      simp only [impl_IsModel.l0, ea, eb, ec]
      rw [if_pos (by omega), if_pos (by omega), if_pos (by omega)]
      by_cases ka : 0 ≤ a ∧ a ≤ 10000
      · rw [if_neg (by omega), if_neg (by omega), if_pos (by omega)]
        by_cases kb : 0 ≤ b ∧ b ≤ 1000
        · rw [if_neg (by omega), if_neg (by omega), if_pos (by omega)]
          by_cases kc : 0 ≤ c ∧ c ≤ 4
          · rw [if_neg (by omega), if_neg (by omega), wrap_succ h1 (by omega), hk]
            simp [allIn, ka, kb, kc]
          · have e : (allIn 0 10000 (a :: ts) && (allIn 0 1000 (b :: gs) && allIn 0 4 (c :: rs))) = false := by simp [allIn, kc]
            rw [e]; split
            · rfl
            · rw [if_pos (by omega)]
        · have e : (allIn 0 10000 (a :: ts) && (allIn 0 1000 (b :: gs) && allIn 0 4 (c :: rs))) = false := by simp [allIn, kb]
          rw [e]; split
          · rfl
          · rw [if_pos (by omega)]
      · have e : (allIn 0 10000 (a :: ts) && (allIn 0 1000 (b :: gs) && allIn 0 4 (c :: rs))) = false := by simp [allIn, ka]
        rw [e]; split
        · rfl
        · rw [if_pos (by omega)]
theorem impl_IsModel_ev (x y z : Int) (t g r : List Int) (ht : t.length ≤ 1048576) (hg : g.length ≤ 1048576) (hr : r.length ≤ 1048576) : Ev (fun k => impl_IsModel.f k x y z t g r) (modelOk x y z t g r) := by
  by_cases h : gridOk x y z = true
  · have no : ∀ n : Int, Ev (fun k => impl_IsModel.j0 k n true x y z t g r) false := fun n => Ev.next0 fun k => by simp [impl_IsModel.j0]
    by_cases e : (t.length : Int) = x * y * z ∧ (g.length : Int) = x * y * z ∧ (r.length : Int) = x * y * z
    · obtain ⟨e1, e2, e3⟩ := e
      have h1 : Ev (fun k => impl_IsModel.j0 k (x * y * z) false x y z t g r) (allIn 0 10000 t && (allIn 0 1000 g && allIn 0 4 r)) := by
        refine Ev.next1 (impl_IsModel_l0 x y z t g r t.length ht rfl (by omega) (by omega) t g r 0 rfl rfl rfl) fun k hk => ?_
        simp only [impl_IsModel.j0]
        rw [if_neg (by simp), ← e1]; exact hk
      refine Ev.of1 h1 fun k hk => ?_
      simp only [impl_IsModel.f, impl_IsGrid_eq, Option.bind_some, impl_blocksOf_eq x y z h]
      rw [if_pos h, if_pos e1, if_pos e2, show ((r.length : Int) != x * y * z) = false by simp [e3], hk]
      simp [modelOk, h, e1, e2, e3]
    · refine Ev.of1 (no (x * y * z)) fun k hk => ?_
      have em : modelOk x y z t g r = false := by
        simp only [modelOk, decide_eq_false e, Bool.and_false, Bool.false_and]
      simp only [impl_IsModel.f, impl_IsGrid_eq, Option.bind_some, impl_blocksOf_eq x y z h]
      rw [if_pos h, em]
      by_cases e1 : (t.length : Int) = x * y * z
      · rw [if_pos e1]
        by_cases e2 : (g.length : Int) = x * y * z
        · rw [if_pos e2, show ((r.length : Int) != x * y * z) = true by
            have e3 : ¬ (r.length : Int) = x * y * z := fun e3 => e ⟨e1, e2, e3⟩
            simpa using e3, hk]
        · rw [if_neg e2, hk]
      · rw [if_neg e1, hk]
  · refine Ev.all fun k => ?_
    simp only [impl_IsModel.f, impl_IsGrid_eq, Option.bind_some]
    rw [if_neg h]; simp [modelOk, h]
theorem laws_big_eq (l m : List Int) : ∃ b, laws_big.f l m = some b := by
  simp only [laws_big.f]
  split <;> exact ⟨_, rfl⟩
theorem wf_u8 {n : Int} (h : (Lit.int .u8 n).wf = true) : 0 ≤ n ∧ n ≤ 255 := by
  simp [Lit.wf, IntKind.min, IntKind.max, IntKind.signed, IntKind.bits] at h
  omega
theorem laws_sameInts_l0 (l : List Int) (hn : l.length ≤ 4611686018427387904) : ∀ (ys : List Int) (i : Nat), l.drop i = ys → Ev (fun k => laws_sameInts.l0 k l l (l.length : Int) i) true
  | [], i, h => Ev.next0 fun k => by
      have h0 := drop_nil h
      simp only [laws_sameInts.l0]
      rw [if_neg (by omega)]
  | y :: ys, i, h => by
      obtain ⟨h1, h2, h3⟩ := drop_cons h
      refine Ev.next1 (laws_sameInts_l0 l hn ys (i + 1) h3) fun k hk => ?_
      simp only [laws_sameInts.l0]
      rw [if_pos (by omega), if_pos (by omega), if_pos (by omega), if_pos (by omega), if_pos trivial, wrap_succ h1 (by omega)]
      exact hk
theorem laws_sameInts_ev (l : List Int) (hn : l.length ≤ 4611686018427387904) : Ev (fun k => laws_sameInts.f k l l) true :=
  Ev.of1 (laws_sameInts_l0 l hn l 0 rfl) fun k hk => by
    simp only [laws_sameInts.f]
    rw [if_pos trivial]
    exact hk
theorem laws_pSameModel_ev (x y z : Int) (t g r : List Int) (ht : t.length ≤ 1048576) (hg : g.length ≤ 1048576) (hr : r.length ≤ 1048576) : Ev (fun k => laws_pSameModel.f k x y z t g r x y z t g r) true :=
  (ev_and (laws_sameInts_ev t (by omega)) <| ev_and (laws_sameInts_ev g (by omega)) <| ev_one (laws_sameInts_ev r (by omega))).ev fun k ⟨h1, h2, h3⟩ => by
    simp only [laws_pSameModel.f, h1, h2, h3, Option.bind_some]
    simp
theorem impl_areTwins_ev (x y z : Int) (t g r : List Int) (x' y' z' : Int) (t' g' r' : List Int) (ht : t.length ≤ 1048576) (hg : g.length ≤ 1048576) (hr : r.length ≤ 1048576) (ht' : t'.length ≤ 1048576) (hg' : g'.length ≤ 1048576) (hr' : r'.length ≤ 1048576) : Ev (fun k => impl_areTwins.f k x y z t g r x' y' z' t' g' r') (modelOk x y z t g r && (modelOk x' y' z' t' g' r' && (x == x' && (y == y' && (z == z'))))) :=
  (ev_and (impl_IsModel_ev x y z t g r ht hg hr) <| ev_one (impl_IsModel_ev x' y' z' t' g' r' ht' hg' hr')).ev fun k ⟨h1, h2⟩ => by
    simp only [impl_areTwins.f, h1, h2, Option.bind_some]
    by_cases h : modelOk x y z t g r = true
    · rw [if_pos h, h]
      by_cases h' : modelOk x' y' z' t' g' r' = true
      · rw [if_pos h', h']; rfl
      · rw [if_neg h']; simp [h']
    · rw [if_neg h]; simp [h]
/-- The lists of a model that is good: their lengths and bounds. -/
theorem model_ok {x y z : Int} {t g r : List Int} (h : modelOk x y z t g r = true) : gridOk x y z = true ∧ ((t.length : Int) = x * y * z ∧ (g.length : Int) = x * y * z ∧ (r.length : Int) = x * y * z) ∧ allIn 0 10000 t = true ∧ allIn 0 1000 g = true ∧ allIn 0 4 r = true := by
  simp only [modelOk, Bool.and_eq_true, decide_eq_true_eq] at h
  exact ⟨h.1.1, h.1.2, h.2.1, h.2.2.1, h.2.2.2⟩
theorem spec_grCount_eq (x y z : Int) (h : gridOk x y z = true) : spec_grCount.f x y z = some (x * y * z) := by
  have hb := grid_ok h
  simp only [spec_grCount.f]
  rw [grid_wrap hb.1 hb.2.1 hb.2.2.1]
theorem spec_l1In_eq (a lo hi : Int) : spec_l1In.f a lo hi = some (decide (lo ≤ a ∧ a ≤ hi)) := by
  unfold spec_l1In.f
  split
  · congr 1; simp; omega
  · congr 1; simp; omega
theorem spec_grGood_eq (x y z : Int) : spec_grGood.f x y z = some (gridOk x y z) := by
  simp only [spec_grGood.f, spec_l1In_eq, Option.bind_some, decide_eq_true_eq, gridOk]
  by_cases hx : 1 ≤ x ∧ x ≤ 8
  · rw [if_pos hx]
    by_cases hy : 1 ≤ y ∧ y ≤ 6
    · rw [if_pos hy]
      by_cases hz : 1 ≤ z ∧ z ≤ 5
      · rw [if_pos hz, grid_wrap hx hy hz]; congr 1; simp [hx, hy, hz]
      · rw [if_neg hz]; congr 1; symm; simp; omega
    · rw [if_neg hy]; congr 1; symm; simp; omega
  · rw [if_neg hx]; congr 1; symm; simp; omega
theorem spec_l1All_l0 (lo hi : Int) (l : List Int) (hn : l.length ≤ 9223372036854775807) : ∀ (ys : List Int) (i : Nat), l.drop i = ys → Ev (fun k => spec_l1All.l0 k lo hi l (l.length : Int) i) (allIn lo hi ys)
  | [], i, h => Ev.next0 fun k => by
      have h0 := drop_nil h
      simp only [spec_l1All.l0, allIn]
      rw [if_neg (by omega)]
  | y :: ys, i, h => by
      obtain ⟨h1, h2, h3⟩ := drop_cons h
      refine Ev.next1 (spec_l1All_l0 lo hi l hn ys (i + 1) h3) fun k hk => ?_
      have e := rd_drop h
      simp only [spec_l1All.l0, e, spec_l1In_eq, Option.bind_some]
      rw [if_pos (by omega), if_pos (by omega), if_pos (by omega), wrap_succ h1 hn]
      by_cases hy : lo ≤ y ∧ y ≤ hi
      · rw [if_pos (decide_eq_true hy), hk]; simp [allIn, hy]
      · rw [if_neg (by simp; omega)]; simp [allIn, hy]
theorem spec_l1All_ev (l : List Int) (lo hi : Int) (hn : l.length ≤ 9223372036854775807) : Ev (fun k => spec_l1All.f k l lo hi) (allIn lo hi l) :=
  Ev.of1 (spec_l1All_l0 lo hi l hn l 0 rfl) fun k hk => by simp only [spec_l1All.f]; exact hk
theorem spec_moGood_ev (x y z : Int) (t g r : List Int) (ht : t.length ≤ 1048576) (hg : g.length ≤ 1048576) (hr : r.length ≤ 1048576) : Ev (fun k => spec_moGood.f k x y z t g r) (modelOk x y z t g r) :=
  (ev_and (spec_l1All_ev t 0 10000 (by omega)) <| ev_and (spec_l1All_ev g 0 1000 (by omega)) <| ev_one (spec_l1All_ev r 0 4 (by omega))).ev fun k ⟨h1, h2, h3⟩ => by
    simp only [spec_moGood.f, spec_grGood_eq, Option.bind_some, modelOk]
    by_cases h : gridOk x y z = true
    · rw [if_pos h, spec_grCount_eq x y z h, Option.bind_some, h1, h2, h3]
      simp only [Option.bind_some, h, Bool.true_and]
      by_cases e1 : (t.length : Int) = x * y * z
      · rw [if_pos e1]
        by_cases e2 : (g.length : Int) = x * y * z
        · rw [if_pos e2]
          by_cases e3 : (r.length : Int) = x * y * z
          · rw [if_pos e3, decide_eq_true ⟨e1, e2, e3⟩]
            cases allIn 0 10000 t <;> cases allIn 0 1000 g <;> simp
          · rw [if_neg e3, decide_eq_false (fun h => e3 h.2.2)]; rfl
        · rw [if_neg e2, decide_eq_false (fun h => e2 h.2.1)]; rfl
      · rw [if_neg e1, decide_eq_false (fun h => e1 h.1)]; rfl
    · rw [if_neg h]; simp [h]
theorem spec_bhTwo_ev (x y z : Int) (t g r : List Int) (x' y' z' : Int) (t' g' r' : List Int) (ht : t.length ≤ 1048576) (hg : g.length ≤ 1048576) (hr : r.length ≤ 1048576) (ht' : t'.length ≤ 1048576) (hg' : g'.length ≤ 1048576) (hr' : r'.length ≤ 1048576) : Ev (fun k => spec_bhTwo.f k x y z t g r x' y' z' t' g' r') (modelOk x y z t g r && (modelOk x' y' z' t' g' r' && (x == x' && (y == y' && (z == z'))))) :=
  (ev_and (spec_moGood_ev x y z t g r ht hg hr) <| ev_one (spec_moGood_ev x' y' z' t' g' r' ht' hg' hr')).ev fun k ⟨h1, h2⟩ => by
    simp only [spec_bhTwo.f, h1, h2, Option.bind_some]
    by_cases h : modelOk x y z t g r = true
    · rw [if_pos h, h]
      by_cases h' : modelOk x' y' z' t' g' r' = true
      · rw [if_pos h', h']; rfl
      · rw [if_neg h']; simp [h']
    · rw [if_neg h]; simp [h]
-- needs: model_facts
/-- The blocks, from i on, in which the lists differ. -/
def chg (t g r t' g' r' : List Int) : Nat → Nat → List Int → List Int
  | 0, _, o => o
  | m + 1, i, o => chg t g r t' g' r' m (i + 1) (if rd t i = rd t' i ∧ rd g i = rd g' i ∧ rd r i = rd r' i then o else o ++ [(i : Int)])
theorem chg_len (t g r t' g' r' : List Int) : ∀ (m i : Nat) (o : List Int), (chg t g r t' g' r' m i o).length ≤ o.length + m
  | 0, i, o => by simp [chg]
  | m + 1, i, o => by
    have h := chg_len t g r t' g' r' m (i + 1) (if rd t i = rd t' i ∧ rd g i = rd g' i ∧ rd r i = rd r' i then o else o ++ [(i : Int)])
    simp only [chg]
    split at h <;> rename_i hc
    · rw [if_pos hc]; omega
    · rw [if_neg hc]; rw [List.length_append] at h; simp only [List.length_cons, List.length_nil] at h; omega
def changed (x y z : Int) (t g r : List Int) (x' y' z' : Int) (t' g' r' : List Int) : List Int × Bool := if modelOk x y z t g r = true ∧ modelOk x' y' z' t' g' r' = true ∧ x = x' ∧ y = y' ∧ z = z' then (chg t g r t' g' r' t.length 0 [], true) else ([], false)
theorem two_len {x y z : Int} {t g r : List Int} {x' y' z' : Int} {t' g' r' : List Int} (h : modelOk x y z t g r = true ∧ modelOk x' y' z' t' g' r' = true ∧ x = x' ∧ y = y' ∧ z = z') : g.length = t.length ∧ r.length = t.length ∧ t'.length = t.length ∧ g'.length = t.length ∧ r'.length = t.length := by
  obtain ⟨_, l1, _⟩ := model_ok h.1
  obtain ⟨_, l2, _⟩ := model_ok h.2.1
  rw [← h.2.2.1, ← h.2.2.2.1, ← h.2.2.2.2] at l2
  generalize x * y * z = p at l1 l2
  omega
theorem changed_len (x y z : Int) (t g r : List Int) (x' y' z' : Int) (t' g' r' : List Int) (ht : t.length ≤ 1048576) (hg : g.length ≤ 1048576) (hr : r.length ≤ 1048576) (ht' : t'.length ≤ 1048576) (hg' : g'.length ≤ 1048576) (hr' : r'.length ≤ 1048576) : (changed x y z t g r x' y' z' t' g' r').1.length ≤ 1048576 := by
  unfold changed
  split
  · have := chg_len t g r t' g' r' t.length 0 []; simp only [List.length_nil] at this; simp only; omega
  · simp
theorem spec_ChangedBlocks_l0 (x y z : Int) (t g r : List Int) (x' y' z' : Int) (t' g' r' : List Int) (hn : t.length ≤ 1048576) (hg : g.length = t.length) (hr : r.length = t.length) (ht' : t'.length = t.length) (hg' : g'.length = t.length) (hr' : r'.length = t.length) : ∀ (m i : Nat) (o : List Int), i + m = t.length → o.length ≤ i →
    Ev (fun k => spec_ChangedBlocks.l0 k o (t.length : Int) i x y z t g r x' y' z' t' g' r') (chg t g r t' g' r' m i o, true)
  | 0, i, o, h, ho => Ev.next0 fun k => by
      simp only [spec_ChangedBlocks.l0, chg]
      rw [if_neg (by omega)]
  | m + 1, i, o, h, ho => by
      have ew := wrap_succ (i := i) (n := t.length) (by omega) (by omega)
      have hl : o.length < 17592186044416 := by omega
      have b0 : (i : Int) < (t.length : Int) := by omega
      have b1 : 0 ≤ (i : Int) := by omega
      have b2 : (i : Int) < (t'.length : Int) := by omega
      have b3 : (i : Int) < (g.length : Int) := by omega
      have b4 : (i : Int) < (g'.length : Int) := by omega
      have b5 : (i : Int) < (r.length : Int) := by omega
      have b6 : (i : Int) < (r'.length : Int) := by omega
      by_cases e : rd t i = rd t' i ∧ rd g i = rd g' i ∧ rd r i = rd r' i
      · refine Ev.next1 (spec_ChangedBlocks_l0 x y z t g r x' y' z' t' g' r' hn hg hr ht' hg' hr' m (i + 1) o (by omega) (by omega)) fun k hk => ?_
        simp only [spec_ChangedBlocks.l0, chg]
        rw [if_pos b0, if_pos b1, if_pos b0, if_pos b2, if_pos e.1, if_pos b3, if_pos b4, if_pos e.2.1, if_pos b5, if_pos b6, if_pos e.2.2, ew, if_pos e]
        exact hk
      · refine Ev.next1 (spec_ChangedBlocks_l0 x y z t g r x' y' z' t' g' r' hn hg hr ht' hg' hr' m (i + 1) (o ++ [(i : Int)]) (by omega) (by simp; omega)) fun k hk => ?_
        simp only [spec_ChangedBlocks.l0, chg]
        rw [if_pos b0, if_pos b1, if_pos b0, if_pos b2, if_neg e]
        by_cases e1 : rd t i = rd t' i
        · rw [if_pos e1, if_pos b3, if_pos b4]
          by_cases e2 : rd g i = rd g' i
          · rw [if_pos e2, if_pos b5, if_pos b6, if_neg (fun e3 => e ⟨e1, e2, e3⟩), if_pos hl, ew]; exact hk
          · rw [if_neg e2, if_pos hl, ew]; exact hk
        · rw [if_neg e1, if_pos hl, ew]; exact hk
theorem spec_ChangedBlocks_ev (x y z : Int) (t g r : List Int) (x' y' z' : Int) (t' g' r' : List Int) (ht : t.length ≤ 1048576) (hg : g.length ≤ 1048576) (hr : r.length ≤ 1048576) (ht' : t'.length ≤ 1048576) (hg' : g'.length ≤ 1048576) (hr' : r'.length ≤ 1048576) : Ev (fun k => spec_ChangedBlocks.f k x y z t g r x' y' z' t' g' r') (changed x y z t g r x' y' z' t' g' r') := by
  have h0 := spec_bhTwo_ev x y z t g r x' y' z' t' g' r' ht hg hr ht' hg' hr'
  by_cases h : modelOk x y z t g r = true ∧ modelOk x' y' z' t' g' r' = true ∧ x = x' ∧ y = y' ∧ z = z'
  · obtain ⟨q1, q2, q3, q4, q5⟩ := two_len h
    refine (ev_and h0 <| ev_one (spec_ChangedBlocks_l0 x y z t g r x' y' z' t' g' r' ht q1 q2 q3 q4 q5 t.length 0 [] (by omega) (by simp))).ev fun k ⟨k1, k2⟩ => ?_
    simp only [spec_ChangedBlocks.f, k1, Option.bind_some]
    rw [if_pos (by simp only [h.1, h.2.1, Bool.true_and]; simp [h.2.2]), changed, if_pos h]; exact k2
  · refine (ev_one h0).ev fun k k1 => ?_
    simp only [spec_ChangedBlocks.f, k1, Option.bind_some]
    rw [if_neg (by simpa using h), changed, if_neg h]
-- needs: spec_ChangedBlocks
theorem impl_ChangedBlocks_l0 (x y z : Int) (t g r : List Int) (x' y' z' : Int) (t' g' r' : List Int) (hn : t.length ≤ 1048576) (hg : g.length = t.length) (hr : r.length = t.length) (ht' : t'.length = t.length) (hg' : g'.length = t.length) (hr' : r'.length = t.length) : ∀ (m i : Nat) (o : List Int), i + m = t.length → o.length ≤ i →
    Ev (fun k => impl_ChangedBlocks.l0 k o (t.length : Int) i x y z t g r x' y' z' t' g' r') (chg t g r t' g' r' m i o, true)
  | 0, i, o, h, ho => Ev.next0 fun k => by
      simp only [impl_ChangedBlocks.l0, chg]
      rw [if_neg (by omega)]
  | m + 1, i, o, h, ho => by
      have ew := wrap_succ (i := i) (n := t.length) (by omega) (by omega)
      have hl : o.length < 17592186044416 := by omega
      have b0 : (i : Int) < (t.length : Int) := by omega
      have b1 : 0 ≤ (i : Int) := by omega
      have b2 : (i : Int) < (t'.length : Int) := by omega
      have b3 : (i : Int) < (g.length : Int) := by omega
      have b4 : (i : Int) < (g'.length : Int) := by omega
      have b5 : (i : Int) < (r.length : Int) := by omega
      have b6 : (i : Int) < (r'.length : Int) := by omega
      by_cases e : rd t i = rd t' i ∧ rd g i = rd g' i ∧ rd r i = rd r' i
      · refine Ev.next1 (impl_ChangedBlocks_l0 x y z t g r x' y' z' t' g' r' hn hg hr ht' hg' hr' m (i + 1) o (by omega) (by omega)) fun k hk => ?_
        simp only [impl_ChangedBlocks.l0, chg]
        rw [if_pos b0, if_pos b1, if_pos b0, if_pos b2, if_pos e.1, if_pos b3, if_pos b4, if_pos e.2.1, if_pos b5, if_pos b6, if_pos e.2.2, ew, if_pos e]
        exact hk
      · refine Ev.next1 (impl_ChangedBlocks_l0 x y z t g r x' y' z' t' g' r' hn hg hr ht' hg' hr' m (i + 1) (o ++ [(i : Int)]) (by omega) (by simp; omega)) fun k hk => ?_
        simp only [impl_ChangedBlocks.l0, chg]
        rw [if_pos b0, if_pos b1, if_pos b0, if_pos b2, if_neg e]
        by_cases e1 : rd t i = rd t' i
        · rw [if_pos e1, if_pos b3, if_pos b4]
          by_cases e2 : rd g i = rd g' i
          · rw [if_pos e2, if_pos b5, if_pos b6, if_neg (fun e3 => e ⟨e1, e2, e3⟩), if_pos hl, ew]; exact hk
          · rw [if_neg e2, if_pos hl, ew]; exact hk
        · rw [if_neg e1, if_pos hl, ew]; exact hk
theorem impl_ChangedBlocks_ev (x y z : Int) (t g r : List Int) (x' y' z' : Int) (t' g' r' : List Int) (ht : t.length ≤ 1048576) (hg : g.length ≤ 1048576) (hr : r.length ≤ 1048576) (ht' : t'.length ≤ 1048576) (hg' : g'.length ≤ 1048576) (hr' : r'.length ≤ 1048576) : Ev (fun k => impl_ChangedBlocks.f k x y z t g r x' y' z' t' g' r') (changed x y z t g r x' y' z' t' g' r') := by
  have h0 := impl_areTwins_ev x y z t g r x' y' z' t' g' r' ht hg hr ht' hg' hr'
  by_cases h : modelOk x y z t g r = true ∧ modelOk x' y' z' t' g' r' = true ∧ x = x' ∧ y = y' ∧ z = z'
  · obtain ⟨q1, q2, q3, q4, q5⟩ := two_len h
    refine (ev_and h0 <| ev_one (impl_ChangedBlocks_l0 x y z t g r x' y' z' t' g' r' ht q1 q2 q3 q4 q5 t.length 0 [] (by omega) (by simp))).ev fun k ⟨k1, k2⟩ => ?_
    simp only [impl_ChangedBlocks.f, k1, Option.bind_some]
    rw [if_pos (by simp only [h.1, h.2.1, Bool.true_and]; simp [h.2.2]), changed, if_pos h]; exact k2
  · refine (ev_one h0).ev fun k k1 => ?_
    simp only [impl_ChangedBlocks.f, k1, Option.bind_some]
    rw [if_neg (by simpa using h), changed, if_neg h]
theorem wrap_u64' (n : Int) : IntKind.u64.wrap n = n % 18446744073709551616 := by simp [IntKind.wrap, IntKind.bits, IntKind.signed]
theorem and255 (x : Int) (h0 : 0 ≤ x) (h1 : x < 16777216) : Go.bits .and .u64 x 255 = x % 256 := bits_mask .u64 24 (by decide) (fun n a b => by rw [wrap_u64']; omega) 8 (by decide) x h0 h1
theorem tail_bd (y : Int) : 0 ≤ wrap64 (Go.bits .and .u64 (IntKind.u64.wrap y / 1099511627776) 255) ∧ wrap64 (Go.bits .and .u64 (IntKind.u64.wrap y / 1099511627776) 255) ≤ 255 := by
  rw [wrap_u64', and255 _ (by omega) (by omega), wrap_id (by omega) (by omega)]
  omega
theorem byte_bd {l : List Int} (hl : ∀ x ∈ l, 0 ≤ x ∧ x ≤ 255) {p : Int} (h0 : 0 ≤ p) (h1 : p < (l.length : Int)) : 0 ≤ rd l p ∧ rd l p ≤ 255 := by
  obtain ⟨i, rfl⟩ := Int.eq_ofNat_of_zero_le h0
  have hi : i < l.length := by omega
  have e : l[i]? = some l[i] := List.getElem?_eq_getElem hi
  have r : rd l ((i : Nat) : Int) = l[i] := rd_get e
  show 0 ≤ rd l ((i : Nat) : Int) ∧ rd l ((i : Nat) : Int) ≤ 255
  rw [r]
  exact hl _ (List.getElem_mem hi)
theorem spec_l1Cur_next_some (l : List Int) (hl : ∀ x ∈ l, 0 ≤ x ∧ x ≤ 255) (hn : l.length ≤ 9223372036854775807) (p s : Int) (h0 : 0 ≤ p) (h1 : p ≤ 1000000) : ∃ r s', spec_l1Cur_next.f l p s = some (r, p + 1, s') ∧ 0 ≤ r ∧ r ≤ 255 := by
  have ew : wrap64 (p + 1) = p + 1 := wrap_id (by omega) (by omega)
  simp only [spec_l1Cur_next.f, ew]
  by_cases c : p < (l.length : Int)
  · rw [if_pos c, if_pos h0, if_pos (by omega)]
    have b := byte_bd hl h0 c
    exact ⟨_, _, rfl, by rw [wrap_id (by omega) (by omega)]; exact b⟩
  · rw [if_neg c, if_neg (by omega)]
    exact ⟨_, _, rfl, tail_bd _⟩
theorem spec_l1Cur_pick_some (l : List Int) (hl : ∀ x ∈ l, 0 ≤ x ∧ x ≤ 255) (hn : l.length ≤ 9223372036854775807) (p s : Int) (h0 : 0 ≤ p) (h1 : p ≤ 900000) (n : Int) : ∃ r p' s', spec_l1Cur_pick.f l p s n = some (r, p', s') ∧ (0 ≤ r ∧ (1 ≤ n → r < n)) ∧ p ≤ p' ∧ p' ≤ p + 2 := by
  by_cases c : n ≤ 1
  · refine ⟨0, p, s, ?_, by omega, by omega, by omega⟩
    simp only [spec_l1Cur_pick.f]
    rw [if_pos c]
  · obtain ⟨x, s1, e1, b1⟩ := spec_l1Cur_next_some l hl hn p s h0 (by omega)
    have tm : ∀ v : Int, 0 ≤ v → 0 ≤ Int.tmod v n ∧ Int.tmod v n < n := fun v hv => by
      rw [Int.tmod_eq_emod_of_nonneg hv]
      exact ⟨Int.emod_nonneg v (by omega), Int.emod_lt_of_pos v (by omega)⟩
    by_cases d : n > 200
    · obtain ⟨y, s2, e2, b2⟩ := spec_l1Cur_next_some l hl hn (p + 1) s1 (by omega) (by omega)
      have t := tm (x * 256 + y) (by omega)
      refine ⟨Int.tmod (x * 256 + y) n, p + 1 + 1, s2, ?_, ⟨t.1, fun _ => t.2⟩, by omega, by omega⟩
      simp only [spec_l1Cur_pick.f, e1, e2, Option.bind_some]
      rw [if_neg c, if_pos d, if_neg (by omega), wrap_id (x := x * 256) (by omega) (by omega), wrap_id (x := x * 256 + y) (by omega) (by omega)]
    · have t := tm x b1.1
      refine ⟨Int.tmod x n, p + 1, s1, ?_, ⟨t.1, fun _ => t.2⟩, by omega, by omega⟩
      simp only [spec_l1Cur_pick.f, e1, Option.bind_some]
      rw [if_neg c, if_neg d, if_neg (by omega)]
theorem spec_l1Cur_among_some (l : List Int) (hl : ∀ x ∈ l, 0 ≤ x ∧ x ≤ 255) (hn : l.length ≤ 9223372036854775807) (p s : Int) (h0 : 0 ≤ p) (h1 : p ≤ 900000) (xs : List Int) (hx : 1 ≤ xs.length) : ∃ r p' s', spec_l1Cur_among.f l p s xs = some (r, p', s') ∧ p ≤ p' ∧ p' ≤ p + 2 := by
  obtain ⟨r, p', s', e, b, c⟩ := spec_l1Cur_pick_some l hl hn p s h0 h1 (xs.length : Int)
  have d := b.2 (by omega)
  refine ⟨rd xs r, p', s', ?_, c⟩
  simp only [spec_l1Cur_among.f, e, Option.bind_some]
  rw [if_pos b.1, if_pos d]
theorem spec_bhHole_eq (gx gy gz x y z t g : Int) (hg : gridOk gx gy gz = true) : spec_bhHole.f gx gy gz x y z t g = some (holeOk gx gy gz x y z t g) := by
  have hb := grid_ok hg
  simp only [spec_bhHole.f, spec_l1In_eq, Option.bind_some, decide_eq_true_eq, holeOk]
  rw [wrap_id (x := 10 * gx) (by omega) (by omega), wrap_id (x := 10 * gx - 1) (by omega) (by omega), wrap_id (x := 10 * gy) (by omega) (by omega), wrap_id (x := 10 * gy - 1) (by omega) (by omega), wrap_id (x := 10 * gz) (by omega) (by omega), wrap_id (x := 10 * gz - 1) (by omega) (by omega)]
  repeat' split
  all_goals first | (congr 1; rw [decide_eq_decide]; omega) | (congr 1; symm; simp; omega)
def holesOk (gx gy gz : Int) : List S68 → Bool
  | [] => true
  | h :: hs => holeOk gx gy gz h.f0 h.f1 h.f2 h.f3 h.f4 && holesOk gx gy gz hs
theorem holesOk_mem {gx gy gz : Int} : ∀ {l : List S68}, holesOk gx gy gz l = true → ∀ h ∈ l, holeOk gx gy gz h.f0 h.f1 h.f2 h.f3 h.f4 = true
  | q :: qs, h, y, hy => by
    simp only [holesOk, Bool.and_eq_true] at h
    rcases List.mem_cons.1 hy with rfl | hy
    · exact h.1
    · exact holesOk_mem h.2 y hy
theorem impl_areHoles_l0 (gx gy gz : Int) (hg : gridOk gx gy gz = true) (l : List S68) (hn : l.length ≤ 9223372036854775807) : ∀ (ys : List S68) (i : Nat), l.drop i = ys → Ev (fun k => impl_areHoles.l0 k l (l.length : Int) i gx gy gz) (holesOk gx gy gz ys)
  | [], i, h => Ev.next0 fun k => by
      have h0 := drop_nil h
      simp only [impl_areHoles.l0, holesOk]
      rw [if_neg (by omega)]
  | y :: ys, i, h => by
      obtain ⟨h1, h2, h3⟩ := drop_cons h
      have hb := grid_ok hg
      refine Ev.next1 (impl_areHoles_l0 gx gy gz hg l hn ys (i + 1) h3) fun k hk => ?_
      have e : rd_T68 l i = y := getD_drop h
      simp only [impl_areHoles.l0, e]
      rw [if_pos (by omega), if_pos (by omega), if_pos (by omega), wrap_succ h1 hn, wrap_id (x := 10 * gx) (by omega) (by omega), wrap_id (x := 10 * gy) (by omega) (by omega), wrap_id (x := 10 * gz) (by omega) (by omega)]
      by_cases hy : 0 ≤ y.f0 ∧ y.f0 < 10 * gx ∧ 0 ≤ y.f1 ∧ y.f1 < 10 * gy ∧ 0 ≤ y.f2 ∧ y.f2 < 10 * gz ∧ 1 ≤ y.f3 ∧ y.f3 ≤ 1000 ∧ 0 ≤ y.f4 ∧ y.f4 ≤ 1000
      · rw [if_neg (by omega), if_neg (by omega), if_neg (by omega), if_neg (by omega), if_neg (by omega), if_neg (by omega), if_neg (by omega), if_neg (by omega), if_neg (by omega), if_neg (by omega), hk]
        simp [holesOk, holeOk, hy]
      · have e2 : holesOk gx gy gz (y :: ys) = false := by
          have : holeOk gx gy gz y.f0 y.f1 y.f2 y.f3 y.f4 = false := decide_eq_false hy
          simp [holesOk, this]
        rw [e2]
        repeat' split
        all_goals first | rfl | (exfalso; omega)
theorem impl_areHoles_ev (gx gy gz : Int) (hg : gridOk gx gy gz = true) (l : List S68) (hn : l.length ≤ 9223372036854775807) : Ev (fun k => impl_areHoles.f k gx gy gz l) (decide (l.length ≤ 40) && holesOk gx gy gz l) :=
  Ev.of1 (impl_areHoles_l0 gx gy gz hg l hn l 0 rfl) fun k hk => by
    simp only [impl_areHoles.f]
    by_cases h : l.length ≤ 40
    · rw [if_neg (by omega)]; simpa [h] using hk
    · rw [if_pos (by omega)]; simp [h]
-- needs: impl_areHoles spec_bhHole
theorem spec_bhList_l0 (gx gy gz : Int) (hg : gridOk gx gy gz = true) (l : List S68) (hn : l.length ≤ 9223372036854775807) : ∀ (ys : List S68) (i : Nat), l.drop i = ys → Ev (fun k => spec_bhList.l0 k l l (l.length : Int) i gx gy gz) (decide (l.length ≤ 40) && holesOk gx gy gz ys)
  | [], i, h => Ev.next0 fun k => by
      have h0 := drop_nil h
      simp only [spec_bhList.l0, holesOk]
      rw [if_neg (by omega)]; congr 1; simp; omega
  | y :: ys, i, h => by
      obtain ⟨h1, h2, h3⟩ := drop_cons h
      refine Ev.next1 (spec_bhList_l0 gx gy gz hg l hn ys (i + 1) h3) fun k hk => ?_
      have e : rd_T68 l i = y := getD_drop h
      simp only [spec_bhList.l0, e, spec_bhHole_eq gx gy gz _ _ _ _ _ hg, Option.bind_some]
      rw [if_pos (by omega), if_pos (by omega), if_pos (by omega), wrap_succ h1 hn]
      by_cases hy : holeOk gx gy gz y.f0 y.f1 y.f2 y.f3 y.f4 = true
      · rw [if_pos hy, hk]; simp [holesOk, hy]
      · rw [if_neg hy]; simp [holesOk, hy]
theorem spec_bhList_ev (gx gy gz : Int) (hg : gridOk gx gy gz = true) (l : List S68) (hn : l.length ≤ 9223372036854775807) : Ev (fun k => spec_bhList.f k gx gy gz l) (decide (l.length ≤ 40) && holesOk gx gy gz l) :=
  Ev.of1 (spec_bhList_l0 gx gy gz hg l hn l 0 rfl) fun k hk => by simp only [spec_bhList.f]; exact hk
theorem least_eq (a b : Int) : spec_l1Least.f a b = some (if a < b then a else b) := by
  simp only [spec_l1Least.f]
  by_cases h : a < b
  · rw [if_pos h, if_pos h]
  · rw [if_neg h, if_neg h]
theorem spec_l1Most_eq (a b : Int) : spec_l1Most.f a b = some (max a b) := by
  unfold spec_l1Most.f
  split <;> (congr 1; omega)
theorem spec_l1Cur_hole_some (l : List Int) (hl : ∀ x ∈ l, 0 ≤ x ∧ x ≤ 255) (hn : l.length ≤ 9223372036854775807) (p s : Int) (h0 : 0 ≤ p) (h1 : p ≤ 800000) (gx gy gz : Int) : ∃ x y z t g p' s', spec_l1Cur_hole.f l p s gx gy gz = some (x, y, z, t, g, p', s') ∧ p ≤ p' ∧ p' ≤ p + 20 := by
  obtain ⟨x, p1, s1, e1, _, b1⟩ := spec_l1Cur_pick_some l hl hn p s h0 (by omega) (max (wrap64 (10 * (if gx < 8 then gx else 8))) 1)
  obtain ⟨y, p2, s2, e2, _, b2⟩ := spec_l1Cur_pick_some l hl hn p1 s1 (by omega) (by omega) (max (wrap64 (10 * (if gy < 8 then gy else 8))) 1)
  obtain ⟨z, p3, s3, e3, _, b3⟩ := spec_l1Cur_pick_some l hl hn p2 s2 (by omega) (by omega) (max (wrap64 (10 * (if gz < 8 then gz else 8))) 1)
  obtain ⟨t, p4, s4, e4, b4⟩ := spec_l1Cur_among_some l hl hn p3 s3 (by omega) (by omega) [1, 10, 100, 300, 1000] (by simp)
  obtain ⟨q, p5, s5, e5, _, b5⟩ := spec_l1Cur_pick_some l hl hn p4 s4 (by omega) (by omega) 100
  obtain ⟨g, p6, s6, e6, b6⟩ := spec_l1Cur_among_some l hl hn p5 s5 (by omega) (by omega) [0, 5, 10, 20, 50, 1000, q] (by simp)
  obtain ⟨w, p7, s7, e7, _, b7⟩ := spec_l1Cur_pick_some l hl hn p6 s6 (by omega) (by omega) 80
  by_cases w0 : w = 0
  · obtain ⟨v, p8, s8, e8, b8⟩ := spec_l1Cur_among_some l hl hn p7 s7 (by omega) (by omega) [(-1), wrap64 (10 * (if gx < 8 then gx else 8))] (by simp)
    refine ⟨v, y, z, t, g, p8, s8, ?_, by omega, by omega⟩
    simp only [spec_l1Cur_hole.f, least_eq, spec_l1Most_eq, e1, e2, e3, e4, e5, e6, e7, e8, Option.bind_some]
    rw [if_pos w0]
  by_cases w1 : w = 1
  · obtain ⟨v, p8, s8, e8, b8⟩ := spec_l1Cur_among_some l hl hn p7 s7 (by omega) (by omega) [0, 1001] (by simp)
    refine ⟨x, y, z, v, g, p8, s8, ?_, by omega, by omega⟩
    simp only [spec_l1Cur_hole.f, least_eq, spec_l1Most_eq, e1, e2, e3, e4, e5, e6, e7, e8, Option.bind_some]
    rw [if_neg w0, if_pos w1]
  by_cases w2 : w = 2
  · obtain ⟨v, p8, s8, e8, b8⟩ := spec_l1Cur_among_some l hl hn p7 s7 (by omega) (by omega) [(-1), 1001] (by simp)
    refine ⟨x, y, z, t, v, p8, s8, ?_, by omega, by omega⟩
    simp only [spec_l1Cur_hole.f, least_eq, spec_l1Most_eq, e1, e2, e3, e4, e5, e6, e7, e8, Option.bind_some]
    rw [if_neg w0, if_neg w1, if_pos w2]
  · refine ⟨x, y, z, t, g, p7, s7, ?_, by omega, by omega⟩
    simp only [spec_l1Cur_hole.f, least_eq, spec_l1Most_eq, e1, e2, e3, e4, e5, e6, e7, Option.bind_some]
    rw [if_neg w0, if_neg w1, if_neg w2]
theorem spec_l1Cur_one_some (l : List Int) (hl : ∀ x ∈ l, 0 ≤ x ∧ x ≤ 255) (hn : l.length ≤ 9223372036854775807) (p s : Int) (h0 : 0 ≤ p) (h1 : p ≤ 900000) (n : Int) : ∃ r p' s', spec_l1Cur_one.f l p s n = some (r, p', s') ∧ p ≤ p' ∧ p' ≤ p + 2 := by
  obtain ⟨r, p', s', e, _, c⟩ := spec_l1Cur_pick_some l hl hn p s h0 h1 n
  exact ⟨(r == 0), p', s', by simp only [spec_l1Cur_one.f, e, Option.bind_some], c⟩
theorem spec_l1Cur_holes_l0 (l : List Int) (hl : ∀ x ∈ l, 0 ≤ x ∧ x ≤ 255) (hn : l.length ≤ 9223372036854775807) (gx gy gz : Int) : ∀ (d : Nat) (v : List S68) (p s : Int), v.length + d ≤ 100 → 0 ≤ p → p + 20 * (d : Int) ≤ 700000 →
    ∃ v' p' s', Ev (fun k => spec_l1Cur_holes.l0 k v (d : Int) l p s gx gy gz) (v', p', s') ∧ v'.length ≤ 100 ∧ p ≤ p' ∧ p' ≤ p + 20 * (d : Int)
  | 0, v, p, s, h1, h2, h3 => by
      refine ⟨v, p, s, Ev.next0 fun k => ?_, by omega, by omega, by omega⟩
      simp only [spec_l1Cur_holes.l0]
      rw [if_neg (by omega)]
  | d + 1, v, p, s, h1, h2, h3 => by
      obtain ⟨x, y, z, t, g, p1, s1, e1, b1⟩ := spec_l1Cur_hole_some l hl hn p s h2 (by omega) gx gy gz
      obtain ⟨v', p', s', h, g1, g2, g3⟩ := spec_l1Cur_holes_l0 l hl hn gx gy gz d (v ++ [⟨x, y, z, t, g⟩]) p1 s1 (by simp; omega) (by omega) (by push_cast at h3; omega)
      refine ⟨v', p', s', Ev.next1 h fun k hk => ?_, g1, by omega, by push_cast; omega⟩
      simp only [spec_l1Cur_holes.l0, e1, Option.bind_some]
      rw [if_pos (by omega), if_pos (by omega), wrap_id (x := ((d + 1 : Nat) : Int) - 1) (by omega) (by omega), show ((d + 1 : Nat) : Int) - 1 = (d : Int) by omega]
      exact hk
theorem spec_l1Cur_holes_some (l : List Int) (hl : ∀ x ∈ l, 0 ≤ x ∧ x ≤ 255) (hn : l.length ≤ 9223372036854775807) (p s : Int) (h0 : 0 ≤ p) (h1 : p ≤ 600000) (gx gy gz : Int) : ∃ v p' s', Ev (fun k => spec_l1Cur_holes.f k l p s gx gy gz) (v, p', s') ∧ v.length ≤ 100 ∧ p ≤ p' ∧ p' ≤ p + 1000 := by
  obtain ⟨q, p1, s1, e1, c1, b1⟩ := spec_l1Cur_pick_some l hl hn p s h0 (by omega) 9
  obtain ⟨o, p2, s2, e2, b2⟩ := spec_l1Cur_one_some l hl hn p1 s1 (by omega) (by omega) 24
  have c1' := c1.2 (by omega)
  by_cases c : o = true
  · obtain ⟨r, p3, s3, e3, c3, b3⟩ := spec_l1Cur_pick_some l hl hn p2 s2 (by omega) (by omega) 2
    have c3' := c3.2 (by omega)
    obtain ⟨d, hd⟩ := Int.eq_ofNat_of_zero_le (show 0 ≤ 40 + r by omega)
    obtain ⟨v', p', s', h, g1, g2, g3⟩ := spec_l1Cur_holes_l0 l hl hn gx gy gz d [] p3 s3 (by simp; omega) (by omega) (by omega)
    refine ⟨v', p', s', Ev.of1 (Ev.next1 (g := fun k => spec_l1Cur_holes.j0 k [] (d : Int) l p3 s3 gx gy gz) (r := (v', p', s')) h fun k hk => ?_) fun k hk => ?_, g1, by omega, by omega⟩
    · simp only [spec_l1Cur_holes.j0]; exact hk
    · simp only [spec_l1Cur_holes.f, e1, e2, e3, Option.bind_some]
      rw [if_pos c, wrap_id (x := 40 + r) (by omega) (by omega), hd]
      exact hk
  · obtain ⟨d, hd⟩ := Int.eq_ofNat_of_zero_le (show 0 ≤ q by omega)
    obtain ⟨v', p', s', h, g1, g2, g3⟩ := spec_l1Cur_holes_l0 l hl hn gx gy gz d [] p2 s2 (by simp; omega) (by omega) (by omega)
    refine ⟨v', p', s', Ev.of1 (Ev.next1 (g := fun k => spec_l1Cur_holes.j0 k [] (d : Int) l p2 s2 gx gy gz) (r := (v', p', s')) h fun k hk => ?_) fun k hk => ?_, g1, by omega, by omega⟩
    · simp only [spec_l1Cur_holes.j0]; exact hk
    · simp only [spec_l1Cur_holes.f, e1, e2, Option.bind_some]
      rw [if_neg c, hd]
      exact hk
theorem spec_l1Cur_grid_some (l : List Int) (hl : ∀ x ∈ l, 0 ≤ x ∧ x ≤ 255) (hn : l.length ≤ 9223372036854775807) (p s : Int) (h0 : 0 ≤ p) (h1 : p ≤ 800000) : ∃ x y z p' s', spec_l1Cur_grid.f l p s = some (x, y, z, p', s') ∧ ((1 ≤ x ∧ x ≤ 8) ∧ (1 ≤ y ∧ y ≤ 6) ∧ (1 ≤ z ∧ z ≤ 5) ∧ x * y * z ≤ 120) ∧ p ≤ p' ∧ p' ≤ p + 8 := by
  obtain ⟨o, p1, s1, e1, b1⟩ := spec_l1Cur_one_some l hl hn p s h0 (by omega) 24
  obtain ⟨q, p2, s2, e2, c2, b2⟩ := spec_l1Cur_pick_some l hl hn p1 s1 (by omega) (by omega) 4
  have c2' := c2.2 (by omega)
  by_cases c : o = true
  · obtain ⟨x, y, z, hq, hb⟩ : ∃ x y z : Int, rd_T24 [(⟨8, 5, 3⟩ : S24), ⟨8, 3, 5⟩, ⟨4, 6, 5⟩, ⟨1, 1, 1⟩] q = ⟨x, y, z⟩ ∧ ((1 ≤ x ∧ x ≤ 8) ∧ (1 ≤ y ∧ y ≤ 6) ∧ (1 ≤ z ∧ z ≤ 5) ∧ x * y * z ≤ 120) := by
      obtain h | h | h | h : q = 0 ∨ q = 1 ∨ q = 2 ∨ q = 3 := by omega
      · subst h; exact ⟨8, 5, 3, rfl, by decide⟩
      · subst h; exact ⟨8, 3, 5, rfl, by decide⟩
      · subst h; exact ⟨4, 6, 5, rfl, by decide⟩
      · subst h; exact ⟨1, 1, 1, rfl, by decide⟩
    refine ⟨x, y, z, p2, s2, ?_, hb, by omega, by omega⟩
    simp only [spec_l1Cur_grid.f, e1, e2, Option.bind_some]
    rw [if_pos c, if_pos c2.1, if_pos (by simpa using c2'), hq]
  · obtain ⟨r, p3, s3, e3, c3, b3⟩ := spec_l1Cur_pick_some l hl hn p2 s2 (by omega) (by omega) 3
    obtain ⟨t, p4, s4, e4, c4, b4⟩ := spec_l1Cur_pick_some l hl hn p3 s3 (by omega) (by omega) 3
    have c3' := c3.2 (by omega)
    have c4' := c4.2 (by omega)
    have m0 : (1 + q) * (1 + r) ≤ 4 * 3 := Int.mul_le_mul (by omega) (by omega) (by omega) (by omega)
    have m1 : 1 ≤ (1 + q) * (1 + r) := Int.mul_pos (by omega) (by omega)
    have m2 : (1 + q) * (1 + r) * (1 + t) ≤ 12 * 3 := Int.mul_le_mul m0 (by omega) (by omega) (by omega)
    refine ⟨1 + q, 1 + r, 1 + t, p4, s4, ?_, ⟨by omega, by omega, by omega, by omega⟩, by omega, by omega⟩
    simp only [spec_l1Cur_grid.f, e1, e2, e3, e4, Option.bind_some]
    rw [if_neg c, wrap_id (x := 1 + q) (by omega) (by omega), wrap_id (x := 1 + r) (by omega) (by omega), wrap_id (x := 1 + t) (by omega) (by omega)]
theorem spec_l1Cur_anyGrid_some (l : List Int) (hl : ∀ x ∈ l, 0 ≤ x ∧ x ≤ 255) (hn : l.length ≤ 9223372036854775807) (p s : Int) (h0 : 0 ≤ p) (h1 : p ≤ 700000) : ∃ x y z p' s', spec_l1Cur_anyGrid.f l p s = some (x, y, z, p', s') ∧ p ≤ p' ∧ p' ≤ p + 12 := by
  obtain ⟨x, y, z, p1, s1, e1, _, b1⟩ := spec_l1Cur_grid_some l hl hn p s h0 (by omega)
  obtain ⟨q, p2, s2, e2, _, b2⟩ := spec_l1Cur_pick_some l hl hn p1 s1 (by omega) (by omega) 30
  by_cases c0 : q = 0
  · obtain ⟨r, p3, s3, e3, b3⟩ := spec_l1Cur_among_some l hl hn p2 s2 (by omega) (by omega) [0, 8, 9, (-1)] (by simp)
    refine ⟨r, y, z, p3, s3, ?_, by omega, by omega⟩
    simp only [spec_l1Cur_anyGrid.f, e1, e2, e3, Option.bind_some]
    rw [if_pos c0]
  by_cases c1 : q = 1
  · obtain ⟨r, p3, s3, e3, b3⟩ := spec_l1Cur_among_some l hl hn p2 s2 (by omega) (by omega) [0, 6, 7, (-1)] (by simp)
    refine ⟨x, r, z, p3, s3, ?_, by omega, by omega⟩
    simp only [spec_l1Cur_anyGrid.f, e1, e2, e3, Option.bind_some]
    rw [if_neg c0, if_pos c1]
  by_cases c2 : q = 2
  · obtain ⟨r, p3, s3, e3, b3⟩ := spec_l1Cur_among_some l hl hn p2 s2 (by omega) (by omega) [0, 5, 6, (-1)] (by simp)
    refine ⟨x, y, r, p3, s3, ?_, by omega, by omega⟩
    simp only [spec_l1Cur_anyGrid.f, e1, e2, e3, Option.bind_some]
    rw [if_neg c0, if_neg c1, if_pos c2]
  by_cases c3 : q = 3
  · obtain ⟨r, p3, s3, e3, b3⟩ := spec_l1Cur_among_some l hl hn p2 s2 (by omega) (by omega) [2, 3] (by simp)
    refine ⟨8, 6, r, p3, s3, ?_, by omega, by omega⟩
    simp only [spec_l1Cur_anyGrid.f, e1, e2, e3, Option.bind_some]
    rw [if_neg c0, if_neg c1, if_neg c2, if_pos c3]
  by_cases c4 : q = 4
  · refine ⟨1, 1, 4611686018427387904, p2, s2, ?_, by omega, by omega⟩
    simp only [spec_l1Cur_anyGrid.f, e1, e2, Option.bind_some]
    rw [if_neg c0, if_neg c1, if_neg c2, if_neg c3, if_pos c4]
  · refine ⟨x, y, z, p2, s2, ?_, by omega, by omega⟩
    simp only [spec_l1Cur_anyGrid.f, e1, e2, Option.bind_some]
    rw [if_neg c0, if_neg c1, if_neg c2, if_neg c3, if_neg c4]
def atOf (gx gy x y z : Int) : Int := wrap64 (wrap64 (wrap64 (wrap64 (z * gy) + y) * gx) + x)
theorem spec_grAt_eq (gx gy gz x y z : Int) (hg : gridOk gx gy gz = true) (hx : 0 ≤ x ∧ x < gx) (hy : 0 ≤ y ∧ y < gy) (hz : 0 ≤ z ∧ z < gz) : spec_grAt.f gx gy gz x y z = some (atOf gx gy x y z) := by
  have hb := grid_ok hg
  simp only [spec_grAt.f, spec_l1In_eq, Option.bind_some, decide_eq_true_eq]
  rw [wrap_id (x := gx - 1) (by omega) (by omega), wrap_id (x := gy - 1) (by omega) (by omega), wrap_id (x := gz - 1) (by omega) (by omega), if_pos (by omega), if_pos (by omega), if_pos (by omega)]
  rfl
def holeAt (gx gy x y z : Int) : Int := atOf gx gy (Int.tdiv x 10) (Int.tdiv y 10) (Int.tdiv z 10)
theorem tdiv10 {x : Int} (h : 0 ≤ x) : Int.tdiv x 10 = x / 10 := Int.tdiv_eq_ediv_of_nonneg h
theorem spec_bhBlock_eq (gx gy gz x y z t g : Int) (hg : gridOk gx gy gz = true) (hh : holeOk gx gy gz x y z t g = true) : spec_bhBlock.f gx gy gz x y z t g = some (holeAt gx gy x y z) := by
  have hb := grid_ok hg
  simp only [holeOk, decide_eq_true_eq] at hh
  have h1 := tdiv10 (x := x) (by omega)
  have h2 := tdiv10 (x := y) (by omega)
  have h3 := tdiv10 (x := z) (by omega)
  simp only [spec_bhBlock.f, holeAt, h1, h2, h3]
  rw [wrap_id (x := x / 10) (by omega) (by omega), wrap_id (x := y / 10) (by omega) (by omega), wrap_id (x := z / 10) (by omega) (by omega), spec_grAt_eq gx gy gz _ _ _ hg (by omega) (by omega) (by omega)]
  rfl
theorem spec_l1Cur_block_some (l : List Int) (hl : ∀ x ∈ l, 0 ≤ x ∧ x ≤ 255) (hn : l.length ≤ 9223372036854775807) (p s : Int) (h0 : 0 ≤ p) (h1 : p ≤ 600000) (gx gy gz : Int) : ∃ v p' s', spec_l1Cur_block.f l p s gx gy gz = some (v, p', s') ∧ p ≤ p' ∧ p' ≤ p + 4 := by
  have eg := spec_grGood_eq gx gy gz
  by_cases c : gridOk gx gy gz = true
  · obtain ⟨o, p2, s2, e2, b2⟩ := spec_l1Cur_one_some l hl hn p s (by omega) (by omega) 24
    have ec : spec_grCount.f gx gy gz = some (wrap64 (wrap64 (gx * gy) * gz)) := rfl
    by_cases d : o = true
    · obtain ⟨v, p3, s3, e3, b3⟩ := spec_l1Cur_among_some l hl hn p2 s2 (by omega) (by omega) [(-1), wrap64 (wrap64 (gx * gy) * gz)] (by simp)
      refine ⟨v, p3, s3, ?_, by omega, by omega⟩
      simp only [spec_l1Cur_block.f, eg, e2, ec, e3, Option.bind_some]
      rw [if_pos c, if_pos d]
    · obtain ⟨v, p3, s3, e3, _, b3⟩ := spec_l1Cur_pick_some l hl hn p2 s2 (by omega) (by omega) (wrap64 (wrap64 (gx * gy) * gz))
      refine ⟨v, p3, s3, ?_, by omega, by omega⟩
      simp only [spec_l1Cur_block.f, eg, e2, ec, e3, Option.bind_some]
      rw [if_pos c, if_neg d]
  · refine ⟨0, p, s, ?_, by omega, by omega⟩
    simp only [spec_l1Cur_block.f, eg, Option.bind_some]
    rw [if_neg c]
theorem spec_DrawHolesIn_some (l : List Int) (hl : ∀ x ∈ l, 0 ≤ x ∧ x ≤ 255) (hn : l.length ≤ 9223372036854775807) : ∃ x y z v i, Ev (fun k => spec_DrawHolesIn.f k l) (x, y, z, v, i) ∧ v.length ≤ 100 := by
  obtain ⟨x, y, z, p1, s1, e1, b1⟩ := spec_l1Cur_anyGrid_some l hl hn 0 0 (by omega) (by omega)
  obtain ⟨v, p2, s2, e2, g2, b2⟩ := spec_l1Cur_holes_some l hl hn p1 s1 (by omega) (by omega) x y z
  obtain ⟨i, p3, s3, e3, b3⟩ := spec_l1Cur_block_some l hl hn p2 s2 (by omega) (by omega) x y z
  have eg := spec_grGood_eq x y z
  by_cases c : gridOk x y z = true
  · have eh := spec_bhList_ev x y z c v (by omega)
    by_cases d : (decide (v.length ≤ 40) && holesOk x y z v) = true
    · by_cases n0 : (v.length : Int) > 0
      · obtain ⟨o, p4, s4, e4, b4⟩ := spec_l1Cur_one_some l hl hn p3 s3 (by omega) (by omega) 2
        by_cases q : o = true
        · obtain ⟨h, tl, rfl⟩ : ∃ h tl, v = h :: tl := by
            cases v with
            | nil => simp at n0
            | cons h tl => exact ⟨h, tl, rfl⟩
          have hh : holeOk x y z h.f0 h.f1 h.f2 h.f3 h.f4 = true := by
            simp only [Bool.and_eq_true, holesOk] at d
            exact d.2.1
          have ez : rd_T68 (h :: tl) 0 = h := rfl
          have eb := spec_bhBlock_eq x y z h.f0 h.f1 h.f2 h.f3 h.f4 c hh
          refine ⟨x, y, z, h :: tl, holeAt x y h.f0 h.f1 h.f2, Ev.of2 e2 eh fun k k2 k3 => ?_, g2⟩
          simp only [spec_DrawHolesIn.f, e1, k2, e3, eg, k3, e4, ez, eb, Option.bind_some]
          rw [if_pos c, if_pos d, if_pos n0, if_pos q, if_pos n0]
        · refine ⟨x, y, z, v, i, Ev.of2 e2 eh fun k k2 k3 => ?_, g2⟩
          simp only [spec_DrawHolesIn.f, e1, k2, e3, eg, k3, e4, Option.bind_some]
          rw [if_pos c, if_pos d, if_pos n0, if_neg q]
      · refine ⟨x, y, z, v, i, Ev.of2 e2 eh fun k k2 k3 => ?_, g2⟩
        simp only [spec_DrawHolesIn.f, e1, k2, e3, eg, k3, Option.bind_some]
        rw [if_pos c, if_pos d, if_neg n0]
    · refine ⟨x, y, z, v, i, Ev.of2 e2 eh fun k k2 k3 => ?_, g2⟩
      simp only [spec_DrawHolesIn.f, e1, k2, e3, eg, k3, Option.bind_some]
      rw [if_pos c, if_neg d]
  · refine ⟨x, y, z, v, i, Ev.of1 e2 fun k k2 => ?_, g2⟩
    simp only [spec_DrawHolesIn.f, e1, k2, e3, eg, Option.bind_some]
    rw [if_neg c]
theorem spec_DrawEstimateBlock_some (l : List Int) (hl : ∀ x ∈ l, 0 ≤ x ∧ x ≤ 255) (hn : l.length ≤ 9223372036854775807) : ∃ x y z v i c, Ev (fun k => spec_DrawEstimateBlock.f k l) (x, y, z, v, i, c) ∧ v.length ≤ 100 := by
  obtain ⟨x, y, z, v, i, e, g⟩ := spec_DrawHolesIn_some l hl hn
  obtain ⟨w, p2, s2, e2, b2⟩ := spec_l1Cur_among_some l hl hn 0 0 (by omega) (by omega) [0, 1, 2, 5, 6, (-1)] (by simp)
  refine ⟨x, y, z, v, i, w, Ev.of1 e fun k hk => ?_, g⟩
  simp only [spec_DrawEstimateBlock.f, hk, e2, Option.bind_some]
theorem impl_hasBlock_eq (x y z i : Int) : impl_hasBlock.f x y z i = some (hasBlock x y z i) := by
  simp only [impl_hasBlock.f, impl_IsGrid_eq, Option.bind_some, hasBlock]
  by_cases h : gridOk x y z = true
  · rw [if_pos h, impl_blocksOf_eq x y z h, Option.bind_some]
    simp only [h, Bool.true_and]
    split
    · congr 1; rw [decide_eq_decide]; omega
    · congr 1; symm; simp; omega
  · rw [if_neg h]; simp [h]
theorem impl_abs_eq (a : Int) (h0 : -9223372036854775807 ≤ a) (h1 : a ≤ 9223372036854775807) : impl_abs.f a = some (max a (-a)) := by
  simp only [impl_abs.f, mx_eq]
  rw [wrap_id (by omega) (by omega)]
theorem impl_lowest_l0 (x y : Int) : ∀ (n b a : Nat), b ≤ n → 0 < a + b → Ev (fun k => impl_lowest.l0 k x y (a : Int) (b : Int)) (wrap64 (Int.tdiv x (Nat.gcd a b : Int)), wrap64 (Int.tdiv y (Nat.gcd a b : Int)))
  | n, 0, a, hn, h => Ev.next0 fun k => by
      simp only [impl_lowest.l0, Nat.gcd_zero_right]
      rw [if_pos (by omega), if_neg (by omega)]
  | 0, b + 1, a, hn, h => by omega
  | n + 1, b + 1, a, hn, h => by
      have hlt := Nat.mod_lt a (show 0 < b + 1 by omega)
      refine Ev.next1 (impl_lowest_l0 x y n (a % (b + 1)) (b + 1) (by omega) (by omega)) fun k hk => ?_
      have em : Int.tmod (a : Int) ((b + 1 : Nat) : Int) = ((a % (b + 1) : Nat) : Int) := by
        rw [Int.tmod_eq_emod_of_nonneg (by omega)]; exact (Int.natCast_emod a (b + 1)).symm
      have eg : Nat.gcd a (b + 1) = Nat.gcd (b + 1) (a % (b + 1)) := by
        rw [Nat.gcd_comm a (b + 1), Nat.gcd_rec (b + 1) a, Nat.gcd_comm]
      simp only [impl_lowest.l0]
      rw [if_neg (by omega), em]
      rw [eg]; exact hk
theorem impl_lowest_ev (a b : Int) (ha : 0 ≤ a) (hb : 0 < b) (ha' : a ≤ 4611686018427387904) (hb' : b ≤ 4611686018427387904) : Ev (fun k => impl_lowest.f k a b) (low a b) := by
  have hl := low_bd ha hb
  have h := impl_lowest_l0 a b b.natAbs b.natAbs a.natAbs (by omega) (by omega)
  rw [Int.tdiv_eq_ediv_of_nonneg ha, Int.tdiv_eq_ediv_of_nonneg (by omega)] at h
  have e : (wrap64 (a / (Nat.gcd a.natAbs b.natAbs : Int)), wrap64 (b / (Nat.gcd a.natAbs b.natAbs : Int))) = low a b := by
    rw [show a / (Nat.gcd a.natAbs b.natAbs : Int) = (low a b).1 from rfl, show b / (Nat.gcd a.natAbs b.natAbs : Int) = (low a b).2 from rfl, wrap_id (by omega) (by omega), wrap_id (by omega) (by omega)]
  rw [e] at h
  refine Ev.of1 h fun k hk => ?_
  simp only [impl_lowest.f, impl_abs_eq a (by omega) (by omega), Option.bind_some]
  rw [show ((a.natAbs : Nat) : Int) = max a (-a) by omega, show ((b.natAbs : Nat) : Int) = b by omega] at hk
  exact hk
-- needs: spec_grAt
theorem impl_blockAt_eq (gx gy gz x y z : Int) : impl_blockAt.f gx gy gz x y z = some (atOf gx gy x y z) := rfl
-- needs: spec_bhBlock
theorem impl_blockOfHole_eq (gx gy gz x y z t g : Int) (hg : gridOk gx gy gz = true) (hh : holeOk gx gy gz x y z t g = true) : impl_blockOfHole.f gx gy gz x y z t g = some (holeAt gx gy x y z) := by
  have hb := grid_ok hg
  simp only [holeOk, decide_eq_true_eq] at hh
  have h1 := tdiv10 (x := x) (by omega)
  have h2 := tdiv10 (x := y) (by omega)
  have h3 := tdiv10 (x := z) (by omega)
  simp only [impl_blockOfHole.f, holeAt, h1, h2, h3]
  rw [wrap_id (x := x / 10) (by omega) (by omega), wrap_id (x := y / 10) (by omega) (by omega), wrap_id (x := z / 10) (by omega) (by omega), impl_blockAt_eq]
  rfl
theorem impl_placeOf_eq (x y z i : Int) (h : hasBlock x y z i = true) : impl_placeOf.f x y z i = some (i % x, i / x % y, i / x / y) := by
  have hp := place_of h
  simp only [hasBlock, Bool.and_eq_true, decide_eq_true_eq] at h
  have hb := grid_ok h.1
  have e1 : Int.tdiv i x = i / x := Int.tdiv_eq_ediv_of_nonneg (by omega)
  have e2 : Int.tmod i x = i % x := Int.tmod_eq_emod_of_nonneg (by omega)
  have e3 : wrap64 (i / x) = i / x := wrap_id (by omega) (by omega)
  have e4 : Int.tmod (i / x) y = i / x % y := Int.tmod_eq_emod_of_nonneg (by omega)
  have e5 : Int.tdiv (i / x) y = i / x / y := Int.tdiv_eq_ediv_of_nonneg (by omega)
  have e6 : wrap64 (i / x / y) = i / x / y := wrap_id (by omega) (by omega)
  simp only [impl_placeOf.f, e1, e2, e3, e4, e5, e6]
  rw [if_neg (by omega), if_neg (by omega)]
theorem spec_grX_eq (x y z i : Int) (h : hasBlock x y z i = true) : spec_grX.f x y z i = some (i % x) := by
  have hp := place_of h
  simp only [hasBlock, Bool.and_eq_true, decide_eq_true_eq] at h
  have hb := grid_ok h.1
  simp only [spec_grX.f]
  rw [if_neg (by omega), Int.tmod_eq_emod_of_nonneg (by omega)]
theorem spec_grY_eq (x y z i : Int) (h : hasBlock x y z i = true) : spec_grY.f x y z i = some (i / x % y) := by
  have hp := place_of h
  simp only [hasBlock, Bool.and_eq_true, decide_eq_true_eq] at h
  have hb := grid_ok h.1
  simp only [spec_grY.f]
  rw [if_neg (by omega), if_neg (by omega), Int.tdiv_eq_ediv_of_nonneg (by omega), wrap_id (by omega) (by omega), Int.tmod_eq_emod_of_nonneg (by omega)]
theorem spec_grZ_eq (x y z i : Int) (h : hasBlock x y z i = true) : spec_grZ.f x y z i = some (i / x / y) := by
  have hp := place_of h
  simp only [hasBlock, Bool.and_eq_true, decide_eq_true_eq] at h
  have hb := grid_ok h.1
  have e1 : Int.tdiv i x = i / x := Int.tdiv_eq_ediv_of_nonneg (by omega)
  have e3 : wrap64 (i / x) = i / x := wrap_id (by omega) (by omega)
  have e5 : Int.tdiv (i / x) y = i / x / y := Int.tdiv_eq_ediv_of_nonneg (by omega)
  have e6 : wrap64 (i / x / y) = i / x / y := wrap_id (by omega) (by omega)
  simp only [spec_grZ.f, e1, e3, e5, e6]
  rw [if_neg (by omega), if_neg (by omega)]
theorem spec_l1Abs_eq (a : Int) (h0 : -9223372036854775807 ≤ a) (h1 : a ≤ 9223372036854775807) : spec_l1Abs.f a = some (max a (-a)) := by
  simp only [spec_l1Abs.f, spec_l1Most_eq, Option.bind_some]
  rw [wrap_id (by omega) (by omega)]
/-- How many steps lie between two blocks. -/
def stepsOf (gx gy a b : Int) : Int := max (a % gx - b % gx) (-(a % gx - b % gx)) + max (a / gx % gy - b / gx % gy) (-(a / gx % gy - b / gx % gy)) + max (a / gx / gy - b / gx / gy) (-(a / gx / gy - b / gx / gy))
theorem steps_bd {gx gy gz a b : Int} (ha : hasBlock gx gy gz a = true) (hb : hasBlock gx gy gz b = true) : 0 ≤ stepsOf gx gy a b ∧ stepsOf gx gy a b ≤ 20 := by
  have p := place_of ha; have q := place_of hb
  have hg : gridOk gx gy gz = true := by simp only [hasBlock, Bool.and_eq_true] at ha; exact ha.1
  have hg := grid_ok hg
  unfold stepsOf
  generalize a % gx = a1 at *; generalize b % gx = b1 at *; generalize a / gx % gy = a2 at *; generalize b / gx % gy = b2 at *; generalize a / gx / gy = a3 at *; generalize b / gx / gy = b3 at *
  omega
theorem spec_grSteps_eq (gx gy gz a b : Int) (ha : hasBlock gx gy gz a = true) (hb : hasBlock gx gy gz b = true) : spec_grSteps.f gx gy gz a b = some (stepsOf gx gy a b) := by
  have p := place_of ha; have q := place_of hb
  have hg : gridOk gx gy gz = true := by have h1 := ha; simp only [hasBlock, Bool.and_eq_true] at h1; exact h1.1
  have hg := grid_ok hg
  simp only [spec_grSteps.f, spec_grX_eq gx gy gz a ha, spec_grX_eq gx gy gz b hb, spec_grY_eq gx gy gz a ha, spec_grY_eq gx gy gz b hb, spec_grZ_eq gx gy gz a ha, spec_grZ_eq gx gy gz b hb, Option.bind_some, stepsOf]
  generalize a % gx = a1 at *; generalize b % gx = b1 at *; generalize a / gx % gy = a2 at *; generalize b / gx % gy = b2 at *; generalize a / gx / gy = a3 at *; generalize b / gx / gy = b3 at *
  rw [wrap_id (x := a1 - b1) (by omega) (by omega), wrap_id (x := a2 - b2) (by omega) (by omega), wrap_id (x := a3 - b3) (by omega) (by omega), spec_l1Abs_eq _ (by omega) (by omega), spec_l1Abs_eq _ (by omega) (by omega), spec_l1Abs_eq _ (by omega) (by omega)]
  simp only [Option.bind_some]
  rw [wrap_id (x := max (a1 - b1) (-(a1 - b1)) + max (a2 - b2) (-(a2 - b2))) (by omega) (by omega), wrap_id (by omega) (by omega)]
-- needs: spec_grSteps
theorem impl_stepsBetween_eq (gx gy gz a b : Int) (ha : hasBlock gx gy gz a = true) (hb : hasBlock gx gy gz b = true) : impl_stepsBetween.f gx gy gz a b = some (stepsOf gx gy a b) := by
  have p := place_of ha; have q := place_of hb
  have hg : gridOk gx gy gz = true := by have h1 := ha; simp only [hasBlock, Bool.and_eq_true] at h1; exact h1.1
  have hg := grid_ok hg
  simp only [impl_stepsBetween.f, impl_placeOf_eq gx gy gz a ha, impl_placeOf_eq gx gy gz b hb, Option.bind_some, stepsOf]
  generalize a % gx = a1 at *; generalize b % gx = b1 at *; generalize a / gx % gy = a2 at *; generalize b / gx % gy = b2 at *; generalize a / gx / gy = a3 at *; generalize b / gx / gy = b3 at *
  rw [wrap_id (x := b1 - a1) (by omega) (by omega), wrap_id (x := b2 - a2) (by omega) (by omega), wrap_id (x := b3 - a3) (by omega) (by omega), impl_abs_eq _ (by omega) (by omega), impl_abs_eq _ (by omega) (by omega), impl_abs_eq _ (by omega) (by omega)]
  simp only [Option.bind_some]
  rw [show max (b1 - a1) (-(b1 - a1)) = max (a1 - b1) (-(a1 - b1)) by omega, show max (b2 - a2) (-(b2 - a2)) = max (a2 - b2) (-(a2 - b2)) by omega, show max (b3 - a3) (-(b3 - a3)) = max (a3 - b3) (-(a3 - b3)) by omega]
  rw [wrap_id (x := max (a1 - b1) (-(a1 - b1)) + max (a2 - b2) (-(a2 - b2))) (by omega) (by omega), wrap_id (by omega) (by omega)]
def meanRes (t tg : Int) : Int × Int × Bool := if t = 0 then (0, 0, false) else ((low tg t).1, (low tg t).2, true)
theorem spec_moPart_l0 (x y : Int) : ∀ (n b a : Nat), b ≤ n → 0 < a + b → Ev (fun k => spec_moPart.l0 k x y (a : Int) (b : Int)) (wrap64 (Int.tdiv x (Nat.gcd a b : Int)), wrap64 (Int.tdiv y (Nat.gcd a b : Int)))
  | n, 0, a, hn, h => Ev.next0 fun k => by
      simp only [spec_moPart.l0, Nat.gcd_zero_right]
      rw [if_neg (by omega), if_neg (by omega)]
  | 0, b + 1, a, hn, h => by omega
  | n + 1, b + 1, a, hn, h => by
      have hlt := Nat.mod_lt a (show 0 < b + 1 by omega)
      refine Ev.next1 (spec_moPart_l0 x y n (a % (b + 1)) (b + 1) (by omega) (by omega)) fun k hk => ?_
      have em : Int.tmod (a : Int) ((b + 1 : Nat) : Int) = ((a % (b + 1) : Nat) : Int) := by
        rw [Int.tmod_eq_emod_of_nonneg (by omega)]; exact (Int.natCast_emod a (b + 1)).symm
      have eg : Nat.gcd a (b + 1) = Nat.gcd (b + 1) (a % (b + 1)) := by
        rw [Nat.gcd_comm a (b + 1), Nat.gcd_rec (b + 1) a, Nat.gcd_comm]
      simp only [spec_moPart.l0]
      rw [if_pos (by omega), if_neg (by omega), em]
      rw [eg]; exact hk
theorem spec_moPart_ev (a b : Int) (ha : 0 ≤ a) (hb : 0 < b) (ha' : a ≤ 4611686018427387904) (hb' : b ≤ 4611686018427387904) : Ev (fun k => spec_moPart.f k a b) (low a b) := by
  have hl := low_bd ha hb
  have h := spec_moPart_l0 a b b.natAbs b.natAbs a.natAbs (by omega) (by omega)
  rw [Int.tdiv_eq_ediv_of_nonneg ha, Int.tdiv_eq_ediv_of_nonneg (by omega)] at h
  have e : (wrap64 (a / (Nat.gcd a.natAbs b.natAbs : Int)), wrap64 (b / (Nat.gcd a.natAbs b.natAbs : Int))) = low a b := by
    rw [show a / (Nat.gcd a.natAbs b.natAbs : Int) = (low a b).1 from rfl, show b / (Nat.gcd a.natAbs b.natAbs : Int) = (low a b).2 from rfl, wrap_id (by omega) (by omega), wrap_id (by omega) (by omega)]
  rw [e] at h
  refine Ev.of1 h fun k hk => ?_
  simp only [spec_moPart.f]
  rw [show ((a.natAbs : Nat) : Int) = a by omega, show ((b.natAbs : Nat) : Int) = b by omega] at hk
  exact hk
theorem atOf_has {gx gy gz x y z : Int} (hg : gridOk gx gy gz = true) (hx : 0 ≤ x ∧ x < gx) (hy : 0 ≤ y ∧ y < gy) (hz : 0 ≤ z ∧ z < gz) : hasBlock gx gy gz (atOf gx gy x y z) = true := by
  have hb := grid_ok hg
  have a1 : 0 ≤ z * gy := Int.mul_nonneg (by omega) (by omega)
  have a2 : (z + 1) * gy ≤ gz * gy := Int.mul_le_mul_of_nonneg_right (by omega) (by omega)
  have a3 : (z + 1) * gy = z * gy + gy := by rw [Int.add_mul, Int.one_mul]
  have a4 : gz * gy ≤ 5 * 6 := Int.mul_le_mul (by omega) (by omega) (by omega) (by omega)
  have b1 : 0 ≤ (z * gy + y) * gx := Int.mul_nonneg (by omega) (by omega)
  have b2 : (z * gy + y + 1) * gx ≤ gz * gy * gx := Int.mul_le_mul_of_nonneg_right (by omega) (by omega)
  have b3 : (z * gy + y + 1) * gx = (z * gy + y) * gx + gx := by rw [Int.add_mul (z * gy + y) 1, Int.one_mul]
  have b4 : gz * gy * gx = gx * gy * gz := by rw [Int.mul_comm (gz * gy) gx, Int.mul_comm gz gy, ← Int.mul_assoc]
  have e : atOf gx gy x y z = (z * gy + y) * gx + x := by
    unfold atOf
    rw [wrap_id (x := z * gy) (by omega) (by omega), wrap_id (x := z * gy + y) (by omega) (by omega), wrap_id (x := (z * gy + y) * gx) (by omega) (by omega), wrap_id (by omega) (by omega)]
  rw [e]
  simp only [hasBlock, hg, Bool.true_and, decide_eq_true_eq]; omega
theorem holeAt_has {gx gy gz x y z t g : Int} (hg : gridOk gx gy gz = true) (hh : holeOk gx gy gz x y z t g = true) : hasBlock gx gy gz (holeAt gx gy x y z) = true := by
  simp only [holeOk, decide_eq_true_eq] at hh
  unfold holeAt
  rw [tdiv10 (by omega), tdiv10 (by omega), tdiv10 (by omega)]
  exact atOf_has hg (by omega) (by omega) (by omega)
/-- The weight of a hole for block i. -/
def wOf (gx gy i : Int) (h : S68) : Int := 60 / (stepsOf gx gy (holeAt gx gy h.f0 h.f1 h.f2) i + 1)
def estW (gx gy i reach : Int) : List S68 → Int
  | [] => 0
  | h :: hs => (if stepsOf gx gy (holeAt gx gy h.f0 h.f1 h.f2) i ≤ reach then wOf gx gy i h else 0) + estW gx gy i reach hs
def estG (gx gy i reach : Int) : List S68 → Int
  | [] => 0
  | h :: hs => (if stepsOf gx gy (holeAt gx gy h.f0 h.f1 h.f2) i ≤ reach then wOf gx gy i h * h.f4 else 0) + estG gx gy i reach hs
theorem w_bd {gx gy gz i : Int} {h : S68} (hg : gridOk gx gy gz = true) (hi : hasBlock gx gy gz i = true) (hh : holeOk gx gy gz h.f0 h.f1 h.f2 h.f3 h.f4 = true) : (0 ≤ wOf gx gy i h ∧ wOf gx gy i h ≤ 60) ∧ 0 ≤ wOf gx gy i h * h.f4 ∧ wOf gx gy i h * h.f4 ≤ 60000 := by
  have hs := steps_bd (holeAt_has hg hh) hi
  have h1 : 0 ≤ wOf gx gy i h := Int.ediv_nonneg (by omega) (by omega)
  have h2 : wOf gx gy i h ≤ 60 := Int.ediv_le_self _ (by omega)
  simp only [holeOk, decide_eq_true_eq] at hh
  exact ⟨⟨h1, h2⟩, Int.mul_nonneg h1 (by omega), Int.mul_le_mul (a := wOf gx gy i h) (b := h.f4) (c := 60) (d := 1000) h2 (by omega) (by omega) (by omega)⟩
def estBlock (gx gy gz i reach : Int) (l : List S68) : Int × Int × Bool := if hasBlock gx gy gz i = true ∧ (l.length ≤ 40 ∧ holesOk gx gy gz l = true) ∧ (0 ≤ reach ∧ reach ≤ 5) then meanRes (estW gx gy i reach l) (estG gx gy i reach l) else (0, 0, false)
theorem impl_estimateBlock_l0 (gx gy gz i reach : Int) (hg : gridOk gx gy gz = true) (hi : hasBlock gx gy gz i = true) (l : List S68) (hn : l.length ≤ 1048576) (hl : holesOk gx gy gz l = true) : ∀ (ys : List S68) (j : Nat) (g w : Int), l.drop j = ys → j + ys.length = l.length →
    (0 ≤ w ∧ w ≤ 60 * (j : Int)) → (0 ≤ g ∧ g ≤ 60000 * (j : Int)) → Ev (fun k => impl_estimateBlock.l0 k i reach g w l (l.length : Int) j gx gy gz) (meanRes (w + estW gx gy i reach ys) (g + estG gx gy i reach ys))
  | [], j, g, w, h, hj, hw, hgr => by
      have h0 := drop_nil h
      simp only [List.length_nil] at hj
      by_cases hz : w = 0
      · refine Ev.next0 fun k => ?_
        simp only [impl_estimateBlock.l0, estW, estG, meanRes, Int.add_zero]
        rw [if_neg (by omega), if_pos hz, if_pos hz]
      · refine Ev.next1 (impl_lowest_ev g w hgr.1 (by omega) (by omega) (by omega)) fun k hk => ?_
        simp only [impl_estimateBlock.l0, estW, estG, meanRes, Int.add_zero, hk, Option.bind_some]
        rw [if_neg (by omega), if_neg hz, if_neg hz]
  | y :: ys, j, g, w, h, hj, hw, hgr => by
      obtain ⟨h1, h2, h3⟩ := drop_cons h
      simp only [List.length_cons] at hj
      have oh := holesOk_mem hl y (List.mem_of_getElem? h2)
      have oy := w_bd hg hi oh
      have e : rd_T68 l j = y := getD_drop h
      have eb := impl_blockOfHole_eq gx gy gz y.f0 y.f1 y.f2 y.f3 y.f4 hg oh
      have es := impl_stepsBetween_eq gx gy gz _ i (holeAt_has hg oh) hi
      have hs := steps_bd (holeAt_has hg oh) hi
      have ed : (60 : Int) / (stepsOf gx gy (holeAt gx gy y.f0 y.f1 y.f2) i + 1) = wOf gx gy i y := rfl
      by_cases hc : stepsOf gx gy (holeAt gx gy y.f0 y.f1 y.f2) i ≤ reach
      · refine Ev.next1 (impl_estimateBlock_l0 gx gy gz i reach hg hi l hn hl ys (j + 1) (g + wOf gx gy i y * y.f4) (w + wOf gx gy i y) h3 (by omega) (by omega) (by omega)) fun k hk => ?_
        simp only [impl_estimateBlock.l0, e, eb, es, Option.bind_some, estW, estG, if_pos hc]
        rw [if_pos (by omega), if_pos (by omega), if_pos (by omega), wrap_id (x := stepsOf gx gy (holeAt gx gy y.f0 y.f1 y.f2) i + 1) (by omega) (by omega), if_neg (by omega), wrap_succ h1 (by omega), ed, wrap_id (x := wOf gx gy i y) (by omega) (by omega), wrap_id (x := wOf gx gy i y * y.f4) (by omega) (by omega), wrap_id (x := g + wOf gx gy i y * y.f4) (by omega) (by omega), wrap_id (x := w + wOf gx gy i y) (by omega) (by omega), ← Int.add_assoc, ← Int.add_assoc]
        exact hk
      · refine Ev.next1 (impl_estimateBlock_l0 gx gy gz i reach hg hi l hn hl ys (j + 1) g w h3 (by omega) (by omega) (by omega)) fun k hk => ?_
        simp only [impl_estimateBlock.l0, e, eb, es, Option.bind_some, estW, estG, if_neg hc]
        rw [if_pos (by omega), if_pos (by omega), if_pos (by omega), wrap_succ h1 (by omega), Int.zero_add, Int.zero_add]
        exact hk
theorem impl_estimateBlock_ev (gx gy gz i reach : Int) (hg : gridOk gx gy gz = true) (hi : hasBlock gx gy gz i = true) (l : List S68) (hn : l.length ≤ 1048576) (hl : holesOk gx gy gz l = true) : Ev (fun k => impl_estimateBlock.f k gx gy gz l i reach) (meanRes (estW gx gy i reach l) (estG gx gy i reach l)) := by
  have h0 := impl_estimateBlock_l0 gx gy gz i reach hg hi l hn hl l 0 0 0 rfl (by omega) (by omega) (by omega)
  rw [Int.zero_add, Int.zero_add] at h0
  exact Ev.of1 h0 fun k hk => by simp only [impl_estimateBlock.f]; exact hk
theorem impl_EstimateBlock_ev (gx gy gz i reach : Int) (l : List S68) (hn : l.length ≤ 1048576) : Ev (fun k => impl_EstimateBlock.f k gx gy gz l i reach) (estBlock gx gy gz i reach l) := by
  by_cases hb : hasBlock gx gy gz i = true
  · have hg : gridOk gx gy gz = true := by have h1 := hb; simp only [hasBlock, Bool.and_eq_true] at h1; exact h1.1
    have ha := impl_areHoles_ev gx gy gz hg l (by omega)
    by_cases h : l.length ≤ 40 ∧ holesOk gx gy gz l = true
    · refine (ev_and ha <| ev_one (impl_estimateBlock_ev gx gy gz i reach hg hb l hn h.2)).ev fun k ⟨h1, h2⟩ => ?_
      simp only [impl_EstimateBlock.f, impl_hasBlock_eq, h1, h2, Option.bind_some]
      rw [if_pos hb, if_pos (by simp [h]), estBlock]
      by_cases hr : 0 ≤ reach ∧ reach ≤ 5
      · rw [if_neg (by omega), if_neg (by omega), if_pos ⟨hb, h, hr⟩]
      · have e2 : ¬ (hasBlock gx gy gz i = true ∧ (l.length ≤ 40 ∧ holesOk gx gy gz l = true) ∧ (0 ≤ reach ∧ reach ≤ 5)) := fun q => hr q.2.2
        by_cases h0 : reach < 0
        · rw [if_pos h0, if_neg e2]
        · rw [if_neg h0, if_pos (by omega), if_neg e2]
    · refine (ev_one ha).ev fun k h1 => ?_
      simp only [impl_EstimateBlock.f, impl_hasBlock_eq, h1, Option.bind_some]
      rw [if_pos hb, if_neg (by simpa using h), estBlock, if_neg (fun q => h q.2.1)]
  · refine Ev.all fun k => ?_
    simp only [impl_EstimateBlock.f, impl_hasBlock_eq, Option.bind_some]
    rw [if_neg hb, estBlock, if_neg (fun q => hb q.1)]
theorem spec_grHas_eq (x y z i : Int) : spec_grHas.f x y z i = some (hasBlock x y z i) := by
  simp only [spec_grHas.f, spec_grGood_eq, Option.bind_some, hasBlock]
  by_cases h : gridOk x y z = true
  · have hb := grid_ok h
    rw [if_pos h, spec_grCount_eq x y z h, Option.bind_some, wrap_id (by omega) (by omega), spec_l1In_eq, Option.bind_some]
    simp only [h, Bool.true_and]; congr 1; rw [decide_eq_decide]; omega
  · rw [if_neg h]; simp [h]
theorem spec_bhAsked_ev (x y z i : Int) (l : List S68) (hn : l.length ≤ 9223372036854775807) : Ev (fun k => spec_bhAsked.f k x y z l i) (hasBlock x y z i && (decide (l.length ≤ 40) && holesOk x y z l)) := by
  by_cases h : hasBlock x y z i = true
  · have hg : gridOk x y z = true := by simp only [hasBlock, Bool.and_eq_true] at h; exact h.1
    refine Ev.of1 (spec_bhList_ev x y z hg l hn) fun k hk => ?_
    simp only [spec_bhAsked.f, spec_grHas_eq, Option.bind_some, hk]
    rw [if_pos h]; simp [h]
  · refine Ev.all fun k => ?_
    simp only [spec_bhAsked.f, spec_grHas_eq, Option.bind_some]
    rw [if_neg h]; simp [h]
theorem spec_bhReach_eq (a : Int) : spec_bhReach.f a = some (decide (0 ≤ a ∧ a ≤ 5)) := by
  simp only [spec_bhReach.f, spec_l1In_eq, Option.bind_some]
-- needs: impl_areHoles est_model
theorem spec_bhEstimate_l0 (gx gy gz i reach : Int) (hg : gridOk gx gy gz = true) (hi : hasBlock gx gy gz i = true) (l : List S68) (hn : l.length ≤ 1048576) (hl : holesOk gx gy gz l = true) : ∀ (ys : List S68) (j : Nat) (g w : Int), l.drop j = ys → j + ys.length = l.length →
    (0 ≤ w ∧ w ≤ 60 * (j : Int)) → (0 ≤ g ∧ g ≤ 60000 * (j : Int)) → Ev (fun k => spec_bhEstimate.l0 k i reach g w l (l.length : Int) j gx gy gz) (meanRes (w + estW gx gy i reach ys) (g + estG gx gy i reach ys))
  | [], j, g, w, h, hj, hw, hgr => by
      have h0 := drop_nil h
      simp only [List.length_nil] at hj
      by_cases hz : w = 0
      · refine Ev.next0 fun k => ?_
        simp only [spec_bhEstimate.l0, estW, estG, meanRes, Int.add_zero]
        rw [if_neg (by omega), if_pos hz, if_pos hz]
      · refine Ev.next1 (spec_moPart_ev g w hgr.1 (by omega) (by omega) (by omega)) fun k hk => ?_
        simp only [spec_bhEstimate.l0, estW, estG, meanRes, Int.add_zero, hk, Option.bind_some]
        rw [if_neg (by omega), if_neg hz, if_neg hz]
  | y :: ys, j, g, w, h, hj, hw, hgr => by
      obtain ⟨h1, h2, h3⟩ := drop_cons h
      simp only [List.length_cons] at hj
      have oh := holesOk_mem hl y (List.mem_of_getElem? h2)
      have oy := w_bd hg hi oh
      have e : rd_T68 l j = y := getD_drop h
      have eb := spec_bhBlock_eq gx gy gz y.f0 y.f1 y.f2 y.f3 y.f4 hg oh
      have es := spec_grSteps_eq gx gy gz _ i (holeAt_has hg oh) hi
      have hs := steps_bd (holeAt_has hg oh) hi
      have ed : (60 : Int) / (stepsOf gx gy (holeAt gx gy y.f0 y.f1 y.f2) i + 1) = wOf gx gy i y := rfl
      by_cases hc : stepsOf gx gy (holeAt gx gy y.f0 y.f1 y.f2) i ≤ reach
      · refine Ev.next1 (spec_bhEstimate_l0 gx gy gz i reach hg hi l hn hl ys (j + 1) (g + wOf gx gy i y * y.f4) (w + wOf gx gy i y) h3 (by omega) (by omega) (by omega)) fun k hk => ?_
        simp only [spec_bhEstimate.l0, e, eb, es, Option.bind_some, estW, estG, if_pos hc]
        rw [if_pos (by omega), if_pos (by omega), if_pos (by omega), wrap_id (x := stepsOf gx gy (holeAt gx gy y.f0 y.f1 y.f2) i + 1) (by omega) (by omega), if_neg (by omega), wrap_succ h1 (by omega), ed, wrap_id (x := wOf gx gy i y) (by omega) (by omega), wrap_id (x := wOf gx gy i y * y.f4) (by omega) (by omega), wrap_id (x := g + wOf gx gy i y * y.f4) (by omega) (by omega), wrap_id (x := w + wOf gx gy i y) (by omega) (by omega), ← Int.add_assoc, ← Int.add_assoc]
        exact hk
      · refine Ev.next1 (spec_bhEstimate_l0 gx gy gz i reach hg hi l hn hl ys (j + 1) g w h3 (by omega) (by omega) (by omega)) fun k hk => ?_
        simp only [spec_bhEstimate.l0, e, eb, es, Option.bind_some, estW, estG, if_neg hc]
        rw [if_pos (by omega), if_pos (by omega), if_pos (by omega), wrap_succ h1 (by omega), Int.zero_add, Int.zero_add]
        exact hk
theorem spec_bhEstimate_ev (gx gy gz i reach : Int) (hg : gridOk gx gy gz = true) (hi : hasBlock gx gy gz i = true) (l : List S68) (hn : l.length ≤ 1048576) (hl : holesOk gx gy gz l = true) : Ev (fun k => spec_bhEstimate.f k gx gy gz l i reach) (meanRes (estW gx gy i reach l) (estG gx gy i reach l)) := by
  have h0 := spec_bhEstimate_l0 gx gy gz i reach hg hi l hn hl l 0 0 0 rfl (by omega) (by omega) (by omega)
  rw [Int.zero_add, Int.zero_add] at h0
  exact Ev.of1 h0 fun k hk => by simp only [spec_bhEstimate.f]; exact hk
theorem spec_EstimateBlock_ev (gx gy gz i reach : Int) (l : List S68) (hn : l.length ≤ 1048576) : Ev (fun k => spec_EstimateBlock.f k gx gy gz l i reach) (estBlock gx gy gz i reach l) := by
  have ha := spec_bhAsked_ev gx gy gz i l (by omega)
  by_cases h : hasBlock gx gy gz i = true ∧ l.length ≤ 40 ∧ holesOk gx gy gz l = true
  · have hg : gridOk gx gy gz = true := by have h1 := h.1; simp only [hasBlock, Bool.and_eq_true] at h1; exact h1.1
    refine (ev_and ha <| ev_one (spec_bhEstimate_ev gx gy gz i reach hg h.1 l hn h.2.2)).ev fun k ⟨h1, h2⟩ => ?_
    simp only [spec_EstimateBlock.f, spec_bhReach_eq, h1, h2, Option.bind_some]
    rw [if_pos (by simp [h]), estBlock]
    by_cases hr : 0 ≤ reach ∧ reach ≤ 5
    · rw [if_pos (by simpa using hr), if_pos ⟨h.1, h.2, hr⟩]
    · rw [if_neg (by simpa using hr), if_neg (fun q => hr q.2.2)]
  · refine (ev_one ha).ev fun k h1 => ?_
    simp only [spec_EstimateBlock.f, h1, Option.bind_some]
    rw [if_neg (by simpa using h), estBlock, if_neg (fun q => h ⟨q.1, q.2.1⟩)]
theorem spec_DrawNearestHole_some (l : List Int) (hl : ∀ x ∈ l, 0 ≤ x ∧ x ≤ 255) (hn : l.length ≤ 9223372036854775807) : ∃ x y z v i, Ev (fun k => spec_DrawNearestHole.f k l) (x, y, z, v, i) ∧ v.length ≤ 100 := by
  obtain ⟨x, y, z, v, i, e, g⟩ := spec_DrawHolesIn_some l hl hn
  refine ⟨x, y, z, v, i, Ev.of1 e fun k hk => ?_, g⟩
  simp only [spec_DrawNearestHole.f, hk, Option.bind_some]
-- needs: impl_areHoles spec_grX spec_grY spec_grZ
theorem spec_bhFar_eq (gx gy gz x y z t g i : Int) (h : hasBlock gx gy gz i = true) (hh : holeOk gx gy gz x y z t g = true) : spec_bhFar.f gx gy gz x y z t g i = some (farOf (i % gx) (i / gx % gy) (i / gx / gy) x y z) := by
  have hp := place_of h
  have hb : gridOk gx gy gz = true := by simp only [hasBlock, Bool.and_eq_true] at h; exact h.1
  have hb := grid_ok hb
  simp only [holeOk, decide_eq_true_eq] at hh
  simp only [spec_bhFar.f, spec_grX_eq gx gy gz i h, spec_grY_eq gx gy gz i h, spec_grZ_eq gx gy gz i h, Option.bind_some]
  rw [far_wrap (by omega) (by omega) (by omega) (by omega) (by omega) (by omega)]
def farH (gx gy i : Int) (h : S68) : Int := farOf (i % gx) (i / gx % gy) (i / gx / gy) h.f0 h.f1 h.f2
def nearestOf (gx gy gz i : Int) (l : List S68) : Int × Bool := if hasBlock gx gy gz i = true ∧ (l.length ≤ 40 ∧ holesOk gx gy gz l = true) ∧ l ≠ [] then (near (farH gx gy i) l 0 0 (-1), true) else (0, false)
theorem spec_NearestHole_l0 (gx gy gz i : Int) (hb : hasBlock gx gy gz i = true) (l : List S68) (hn : l.length ≤ 1048576) (hl : holesOk gx gy gz l = true) : ∀ (ys : List S68) (j b : Nat) (hbest : S68), l.drop j = ys → l[b]? = some hbest →
    Ev (fun k => spec_NearestHole.l0 k l i b l (l.length : Int) j gx gy gz) (near (farH gx gy i) ys j b (farH gx gy i hbest), true)
  | [], j, b, hbest, h, hq => Ev.next0 fun k => by
      have h0 := drop_nil h
      simp only [spec_NearestHole.l0, near]
      rw [if_neg (by omega)]
  | y :: ys, j, b, hbest, h, hq => by
      obtain ⟨h1, h2, h3⟩ := drop_cons h
      have hbl : b < l.length := (List.getElem?_eq_some_iff.1 hq).1
      have oy := holesOk_mem hl y (List.mem_of_getElem? h2)
      have ob := holesOk_mem hl hbest (List.mem_of_getElem? hq)
      have e : rd_T68 l j = y := getD_drop h
      have e' : rd_T68 l b = hbest := getD_get hq
      have f1 : spec_bhFar.f gx gy gz y.f0 y.f1 y.f2 y.f3 y.f4 i = some (farH gx gy i y) := spec_bhFar_eq gx gy gz y.f0 y.f1 y.f2 y.f3 y.f4 i hb oy
      have f2 : spec_bhFar.f gx gy gz hbest.f0 hbest.f1 hbest.f2 hbest.f3 hbest.f4 i = some (farH gx gy i hbest) := spec_bhFar_eq gx gy gz hbest.f0 hbest.f1 hbest.f2 hbest.f3 hbest.f4 i hb ob
      have hnn : 0 ≤ farH gx gy i hbest := far_nonneg _ _ _ _ _ _
      by_cases hc : farH gx gy i y < farH gx gy i hbest
      · refine Ev.next1 (spec_NearestHole_l0 gx gy gz i hb l hn hl ys (j + 1) j y h3 h2) fun k hk => ?_
        simp only [spec_NearestHole.l0, e, e', f1, f2, Option.bind_some, near]
        rw [if_pos (by omega), if_pos (by omega), if_pos (by omega), if_pos (by omega), if_pos (by omega), if_pos hc, if_pos (Or.inr hc), wrap_succ h1 (by omega)]
        exact hk
      · refine Ev.next1 (spec_NearestHole_l0 gx gy gz i hb l hn hl ys (j + 1) b hbest h3 hq) fun k hk => ?_
        simp only [spec_NearestHole.l0, e, e', f1, f2, Option.bind_some, near]
        rw [if_pos (by omega), if_pos (by omega), if_pos (by omega), if_pos (by omega), if_pos (by omega), if_neg hc, if_neg (by omega), wrap_succ h1 (by omega)]
        exact hk
theorem spec_NearestHole_no (l : List S68) (gx gy gz i : Int) : Ev (fun k => spec_NearestHole.j0 k l i true gx gy gz) (0, false) := Ev.next0 fun k => by simp [spec_NearestHole.j0]
theorem spec_NearestHole_ev (gx gy gz i : Int) (l : List S68) (hn : l.length ≤ 1048576) : Ev (fun k => spec_NearestHole.f k gx gy gz l i) (nearestOf gx gy gz i l) := by
  have ha := spec_bhAsked_ev gx gy gz i l (by omega)
  by_cases h : hasBlock gx gy gz i = true ∧ (l.length ≤ 40 ∧ holesOk gx gy gz l = true)
  · have e1 : (hasBlock gx gy gz i && (decide (l.length ≤ 40) && holesOk gx gy gz l)) = true := by simp [h]
    cases l with
    | nil =>
      refine (ev_and ha <| ev_one (spec_NearestHole_no [] gx gy gz i)).ev fun k ⟨h1, h2⟩ => ?_
      simp only [spec_NearestHole.f, h1, Option.bind_some]
      rw [if_pos e1, nearestOf, if_neg (by simp)]; exact h2
    | cons q qs =>
      have hj : Ev (fun k => spec_NearestHole.j0 k (q :: qs) i false gx gy gz) (near (farH gx gy i) (q :: qs) 0 0 (-1), true) := by
        refine Ev.next1 (spec_NearestHole_l0 gx gy gz i h.1 (q :: qs) hn h.2.2 (q :: qs) 0 0 q rfl rfl) fun k hk => ?_
        simp only [spec_NearestHole.j0]
        rw [if_neg (by simp)]
        refine hk.trans ?_
        simp only [near]
        rw [if_neg (by have : 0 ≤ farH gx gy i q := far_nonneg _ _ _ _ _ _; omega), if_pos (by omega)]; rfl
      refine (ev_and ha <| ev_one hj).ev fun k ⟨h1, h2⟩ => ?_
      simp only [spec_NearestHole.f, h1, Option.bind_some]
      rw [if_pos e1, nearestOf, if_pos ⟨h.1, h.2, by simp⟩, show ((((q :: qs).length : Nat) : Int) == 0) = false by simp; omega]
      exact h2
  · refine (ev_and ha <| ev_one (spec_NearestHole_no l gx gy gz i)).ev fun k ⟨h1, h2⟩ => ?_
    simp only [spec_NearestHole.f, h1, Option.bind_some]
    rw [if_neg (by simpa using h), nearestOf, if_neg (fun q => h ⟨q.1, q.2.1⟩)]; exact h2
-- needs: spec_NearestHole
theorem impl_NearestHole_l0 (gx gy gz i : Int) (hb : hasBlock gx gy gz i = true) (l : List S68) (hn : l.length ≤ 1048576) (hl : holesOk gx gy gz l = true) : ∀ (ys : List S68) (j : Nat) (b d : Int), l.drop j = ys →
    Ev (fun k => impl_NearestHole.l0 k (i % gx) (i / gx % gy) (i / gx / gy) b d l (l.length : Int) j) (near (farH gx gy i) ys j b d, true)
  | [], j, b, d, h => Ev.next0 fun k => by
      have h0 := drop_nil h
      simp only [impl_NearestHole.l0, near]
      rw [if_neg (by omega)]
  | y :: ys, j, b, d, h => by
      obtain ⟨h1, h2, h3⟩ := drop_cons h
      have hp := place_of hb
      have hg : gridOk gx gy gz = true := by simp only [hasBlock, Bool.and_eq_true] at hb; exact hb.1
      have hg := grid_ok hg
      have oy := holesOk_mem hl y (List.mem_of_getElem? h2)
      simp only [holeOk, decide_eq_true_eq] at oy
      have e : rd_T68 l j = y := getD_drop h
      have f1 := far_wrap (px := i % gx) (py := i / gx % gy) (pz := i / gx / gy) (x := y.f0) (y := y.f1) (z := y.f2) (by omega) (by omega) (by omega) (by omega) (by omega) (by omega)
      have ff : farOf (i % gx) (i / gx % gy) (i / gx / gy) y.f0 y.f1 y.f2 = farH gx gy i y := rfl
      by_cases hc : d < 0 ∨ farH gx gy i y < d
      · refine Ev.next1 (impl_NearestHole_l0 gx gy gz i hb l hn hl ys (j + 1) j (farH gx gy i y) h3) fun k hk => ?_
        simp only [impl_NearestHole.l0, e, f1, near]
        simp only [ff]
        rw [if_pos (by omega), if_pos (by omega), if_pos (by omega), wrap_succ h1 (by omega), if_pos hc]
        by_cases hd : d < 0
        · rw [if_pos hd]; exact hk
        · rw [if_neg hd, if_pos (by rcases hc with hc | hc; exact absurd hc hd; exact hc)]; exact hk
      · refine Ev.next1 (impl_NearestHole_l0 gx gy gz i hb l hn hl ys (j + 1) b d h3) fun k hk => ?_
        simp only [impl_NearestHole.l0, e, f1, near]
        simp only [ff]
        rw [if_pos (by omega), if_pos (by omega), if_pos (by omega), wrap_succ h1 (by omega), if_neg hc, if_neg (fun q => hc (Or.inl q)), if_neg (fun q => hc (Or.inr q))]
        exact hk
theorem impl_NearestHole_no (l : List S68) (gx gy gz i : Int) : Ev (fun k => impl_NearestHole.j0 k l i true gx gy gz) (0, false) := Ev.next0 fun k => by simp [impl_NearestHole.j0]
theorem impl_NearestHole_ev (gx gy gz i : Int) (l : List S68) (hn : l.length ≤ 1048576) : Ev (fun k => impl_NearestHole.f k gx gy gz l i) (nearestOf gx gy gz i l) := by
  by_cases hb : hasBlock gx gy gz i = true
  · have hg : gridOk gx gy gz = true := by simp only [hasBlock, Bool.and_eq_true] at hb; exact hb.1
    have ha := impl_areHoles_ev gx gy gz hg l (by omega)
    by_cases h : l.length ≤ 40 ∧ holesOk gx gy gz l = true
    · have e1 : (decide (l.length ≤ 40) && holesOk gx gy gz l) = true := by simp [h]
      cases l with
      | nil =>
        refine (ev_and ha <| ev_one (impl_NearestHole_no [] gx gy gz i)).ev fun k ⟨h1, h2⟩ => ?_
        simp only [impl_NearestHole.f, impl_hasBlock_eq, h1, Option.bind_some]
        rw [if_pos hb, if_pos e1, nearestOf, if_neg (by simp)]; exact h2
      | cons q qs =>
        have hj : Ev (fun k => impl_NearestHole.j0 k (q :: qs) i false gx gy gz) (near (farH gx gy i) (q :: qs) 0 0 (-1), true) := by
          refine Ev.next1 (impl_NearestHole_l0 gx gy gz i hb (q :: qs) hn h.2 (q :: qs) 0 0 (-1) rfl) fun k hk => ?_
          simp only [impl_NearestHole.j0, impl_placeOf_eq gx gy gz i hb, Option.bind_some]
          rw [if_neg (by simp)]
          exact hk
        refine (ev_and ha <| ev_one hj).ev fun k ⟨h1, h2⟩ => ?_
        simp only [impl_NearestHole.f, impl_hasBlock_eq, h1, Option.bind_some]
        rw [if_pos hb, if_pos e1, nearestOf, if_pos ⟨hb, h, by simp⟩, show ((((q :: qs).length : Nat) : Int) == 0) = false by simp; omega]
        exact h2
    · refine (ev_and ha <| ev_one (impl_NearestHole_no l gx gy gz i)).ev fun k ⟨h1, h2⟩ => ?_
      simp only [impl_NearestHole.f, impl_hasBlock_eq, h1, Option.bind_some]
      rw [if_pos hb, if_neg (by simpa using h), nearestOf, if_neg (fun q => h q.2.1)]; exact h2
  · refine (ev_one (impl_NearestHole_no l gx gy gz i)).ev fun k h2 => ?_
    simp only [impl_NearestHole.f, impl_hasBlock_eq, Option.bind_some]
    rw [if_neg hb, nearestOf, if_neg (fun q => hb q.1)]; exact h2
theorem spec_l1Own_eq (l : List Int) (h : l.length < 17592186044416) : spec_l1Own.f l = some l := by
  simp only [spec_l1Own.f, Option.bind_some, List.length_nil, List.nil_append]
  rw [if_pos (by omega)]
theorem spec_moOwn_eq (x y z : Int) (t g r : List Int) (ht : t.length ≤ 1048576) (hg : g.length ≤ 1048576) (hr : r.length ≤ 1048576) : spec_moOwn.f x y z t g r = some (x, y, z, t, g, r) := by
  simp only [spec_moOwn.f, spec_l1Own_eq t (by omega), spec_l1Own_eq g (by omega), spec_l1Own_eq r (by omega), Option.bind_some]
-- needs: impl_areHoles spec_bhBlock
/-- Does a hole lie in block i? -/
def inB (gx gy i : Int) (h : S68) : Bool := decide (holeAt gx gy h.f0 h.f1 h.f2 = i)
/-- The places of those that pass, from place i on. -/
def idxs {α : Type} (q : α → Bool) : List α → Nat → List Int
  | [], _ => []
  | h :: hs, i => if q h = true then (i : Int) :: idxs q hs (i + 1) else idxs q hs (i + 1)
theorem idxs_length {α : Type} (q : α → Bool) : ∀ (l : List α) (i : Nat), (idxs q l i).length ≤ l.length
  | [], _ => Nat.le_refl _
  | h :: hs, i => by
    have := idxs_length q hs (i + 1)
    simp only [idxs]; split <;> simp <;> omega
theorem spec_bhIn_l0 (gx gy gz i : Int) (hg : gridOk gx gy gz = true) (l : List S68) (hn : l.length ≤ 1048576) (hl : holesOk gx gy gz l = true) : ∀ (ys : List S68) (j : Nat) (acc : List Int), l.drop j = ys → acc.length ≤ j →
    Ev (fun k => spec_bhIn.l0 k i acc l (l.length : Int) j gx gy gz) (acc ++ idxs (inB gx gy i) ys j)
  | [], j, acc, h, ha => Ev.next0 fun k => by
      have h0 := drop_nil h
      simp only [spec_bhIn.l0, idxs, List.append_nil]
      rw [if_neg (by omega)]
  | y :: ys, j, acc, h, ha => by
      obtain ⟨h1, h2, h3⟩ := drop_cons h
      have oy := holesOk_mem hl y (List.mem_of_getElem? h2)
      have e : rd_T68 l j = y := getD_drop h
      have eb := spec_bhBlock_eq gx gy gz y.f0 y.f1 y.f2 y.f3 y.f4 hg oy
      by_cases hc : holeAt gx gy y.f0 y.f1 y.f2 = i
      · refine Ev.next1 (spec_bhIn_l0 gx gy gz i hg l hn hl ys (j + 1) (acc ++ [(j : Int)]) h3 (by simp; omega)) fun k hk => ?_
        have eq : inB gx gy i y = true := by simp [inB, hc]
        simp only [spec_bhIn.l0, e, eb, Option.bind_some, idxs]
        rw [if_pos (by omega), if_pos (by omega), if_pos (by omega), if_pos hc, if_pos (by omega), wrap_succ h1 (by omega), if_pos eq]
        rw [List.append_assoc] at hk; exact hk
      · refine Ev.next1 (spec_bhIn_l0 gx gy gz i hg l hn hl ys (j + 1) acc h3 (by omega)) fun k hk => ?_
        have eq : ¬ inB gx gy i y = true := by simp [inB, hc]
        simp only [spec_bhIn.l0, e, eb, Option.bind_some, idxs]
        rw [if_pos (by omega), if_pos (by omega), if_pos (by omega), if_neg hc, wrap_succ h1 (by omega), if_neg eq]
        exact hk
theorem spec_bhIn_ev (gx gy gz i : Int) (hg : gridOk gx gy gz = true) (l : List S68) (hn : l.length ≤ 1048576) (hl : holesOk gx gy gz l = true) : Ev (fun k => spec_bhIn.f k gx gy gz l i) (idxs (inB gx gy i) l 0) :=
  Ev.of1 (spec_bhIn_l0 gx gy gz i hg l hn hl l 0 [] rfl (by simp)) fun k hk => by simp only [spec_bhIn.f]; exact hk
-- needs: spec_bhIn
/-- Tonnes, and tonnes times grade, of the holes that pass. -/
def sumT (q : S68 → Bool) : List S68 → Int
  | [] => 0
  | h :: hs => (if q h = true then h.f3 else 0) + sumT q hs
def sumTG (q : S68 → Bool) : List S68 → Int
  | [] => 0
  | h :: hs => (if q h = true then h.f3 * h.f4 else 0) + sumTG q hs
theorem hole_tg {gx gy gz x y z t g : Int} (h : holeOk gx gy gz x y z t g = true) : (1 ≤ t ∧ t ≤ 1000) ∧ 0 ≤ t * g ∧ t * g ≤ 1000000 := by
  simp only [holeOk, decide_eq_true_eq] at h
  exact ⟨by omega, Int.mul_nonneg (by omega) (by omega), Int.mul_le_mul (a := t) (b := g) (c := 1000) (d := 1000) (by omega) (by omega) (by omega) (by omega)⟩
theorem spec_bhMean_l0 (gx gy gz : Int) (q : S68 → Bool) (l : List S68) (hn : l.length ≤ 1048576) (hl : holesOk gx gy gz l = true) (I : List Int) (hI : I.length ≤ 1048576) : ∀ (ys : List S68) (i j : Nat) (t tg : Int), l.drop i = ys → i + ys.length = l.length → I.drop j = idxs q ys i →
    (0 ≤ t ∧ t ≤ 1000 * (i : Int)) → (0 ≤ tg ∧ tg ≤ 1000000 * (i : Int)) → Ev (fun k => spec_bhMean.l0 k l t tg I (I.length : Int) j) (meanRes (t + sumT q ys) (tg + sumTG q ys))
  | [], i, j, t, tg, h, hi, hj, ht, hg => by
      have h0 := drop_nil hj
      simp only [List.length_nil] at hi
      by_cases hz : t = 0
      · refine Ev.next0 fun k => ?_
        simp only [spec_bhMean.l0, sumT, sumTG, meanRes, Int.add_zero]
        rw [if_neg (by omega), if_pos hz, if_pos hz]
      · refine Ev.next1 (spec_moPart_ev tg t hg.1 (by omega) (by omega) (by omega)) fun k hk => ?_
        simp only [spec_bhMean.l0, sumT, sumTG, meanRes, Int.add_zero, hk, Option.bind_some]
        rw [if_neg (by omega), if_neg hz, if_neg hz]
  | y :: ys, i, j, t, tg, h, hi, hj, ht, hg => by
      obtain ⟨h1, h2, h3⟩ := drop_cons h
      simp only [List.length_cons] at hi
      have oy := hole_tg (holesOk_mem hl y (List.mem_of_getElem? h2))
      by_cases hq : q y = true
      · simp only [idxs, if_pos hq] at hj
        obtain ⟨j1, j2, j3⟩ := drop_cons hj
        have e1 : rd I j = (i : Int) := rd_get j2
        have e2 : rd_T68 l i = y := getD_drop h
        refine Ev.next1 (spec_bhMean_l0 gx gy gz q l hn hl I hI ys (i + 1) (j + 1) (t + y.f3) (tg + y.f3 * y.f4) h3 (by omega) j3 (by omega) (by omega)) fun k hk => ?_
        simp only [spec_bhMean.l0, e1, e2, sumT, sumTG, if_pos hq]
        rw [if_pos (by omega), if_pos (by omega), if_pos (by omega), if_pos (by omega), if_pos (by omega), wrap_succ j1 (by omega), wrap_id (x := t + y.f3) (by omega) (by omega), wrap_id (x := y.f3 * y.f4) (by omega) (by omega), wrap_id (x := tg + y.f3 * y.f4) (by omega) (by omega), ← Int.add_assoc, ← Int.add_assoc]
        exact hk
      · simp only [idxs, if_neg hq] at hj
        have := spec_bhMean_l0 gx gy gz q l hn hl I hI ys (i + 1) j t tg h3 (by omega) hj (by omega) (by omega)
        simpa only [sumT, sumTG, if_neg hq, Int.zero_add] using this
theorem spec_bhMean_ev (gx gy gz i : Int) (hg : gridOk gx gy gz = true) (l : List S68) (hn : l.length ≤ 1048576) (hl : holesOk gx gy gz l = true) : Ev (fun k => spec_bhMean.f k gx gy gz l i) (meanRes (sumT (inB gx gy i) l) (sumTG (inB gx gy i) l)) := by
  have hq := idxs_length (inB gx gy i) l 0
  have h0 := spec_bhMean_l0 gx gy gz (inB gx gy i) l hn hl (idxs (inB gx gy i) l 0) (by omega) l 0 0 0 0 rfl (by omega) rfl (by omega) (by omega)
  rw [Int.zero_add, Int.zero_add] at h0
  refine (ev_and (spec_bhIn_ev gx gy gz i hg l hn hl) <| ev_one h0).ev fun k ⟨h1, h2⟩ => ?_
  simp only [spec_bhMean.f, h1, Option.bind_some]
  exact h2
-- needs: model_facts
abbrev ModelR := Int × Int × Int × List Int × List Int × List Int × Bool
-- needs: model_facts scale_model spec_moPart
def rnd (p : Int × Int × Bool) (v : Int) : Int := if p.2.2 = true then (2 * p.1 + p.2.1) / (2 * p.2.1) else v
def upd (f : Nat → Int × Int × Bool) (g : List Int) : List Int := (List.range g.length).map fun i => rnd (f i) (rd g i)
theorem upd_length (f : Nat → Int × Int × Bool) (g : List Int) : (upd f g).length = g.length := by simp [upd]
theorem upd_get {f : Nat → Int × Int × Bool} {g : List Int} {i : Nat} (h : i < g.length) : (upd f g)[i]? = some (rnd (f i) (rd g i)) := by simp [upd, h]
theorem mean_bd {t tg : Int} (h0 : 0 ≤ t) (h1 : t ≤ 2000000000) (h2 : 0 ≤ tg) (h3 : tg ≤ 2000000000000) (h : (meanRes t tg).2.2 = true) : 0 ≤ (meanRes t tg).1 ∧ (meanRes t tg).1 ≤ 2000000000000 ∧ 1 ≤ (meanRes t tg).2.1 ∧ (meanRes t tg).2.1 ≤ 2000000000 := by
  unfold meanRes at h ⊢
  by_cases hz : t = 0
  · rw [if_pos hz] at h; cases h
  · rw [if_neg hz]
    have := low_bd (a := tg) (b := t) h2 (by omega)
    simp only; omega
theorem round_bd {a b : Int} (h0 : 0 ≤ a) (h1 : a ≤ 2000000000000) (h2 : 1 ≤ b) (h3 : b ≤ 2000000000) : 0 ≤ 2 * a + b ∧ 0 ≤ (2 * a + b) / (2 * b) ∧ (2 * a + b) / (2 * b) ≤ 2 * a + b := by
  have h4 : 0 ≤ 2 * a + b := by omega
  exact ⟨h4, Int.ediv_nonneg h4 (by omega), Int.ediv_le_self _ h4⟩
theorem round_eq {a b : Int} (h0 : 0 ≤ a) (h1 : a ≤ 2000000000000) (h2 : 1 ≤ b) (h3 : b ≤ 2000000000) : wrap64 (Int.tdiv (wrap64 ((wrap64 (2 * a)) + b)) (wrap64 (2 * b))) = (2 * a + b) / (2 * b) := by
  have hb := round_bd h0 h1 h2 h3
  rw [wrap_id (x := 2 * a) (by omega) (by omega), wrap_id (x := 2 * a + b) (by omega) (by omega), wrap_id (x := 2 * b) (by omega) (by omega), Int.tdiv_eq_ediv_of_nonneg hb.1, wrap_id (by omega) (by omega)]
theorem drop_step {a g : List Int} {i : Nat} (v : Int) (h : a.drop i = g.drop i) : (a.set i v).drop (i + 1) = g.drop (i + 1) := by
  have h1 : (a.set i v).drop (i + 1) = a.drop (i + 1) := by
    apply List.ext_getElem?
    intro j
    rw [List.getElem?_drop, List.getElem?_drop, List.getElem?_set_ne (by omega)]
  rw [h1, ← List.drop_drop, ← List.drop_drop, h]
theorem set_same {a g : List Int} {i : Nat} (h : a.drop i = g.drop i) (hi : i < g.length) : a.set i (rd g i) = a := by
  have hg : g[i]? = some (g[i]'hi) := List.getElem?_eq_getElem hi
  have ha : a[i]? = g[i]? := by
    have := congrArg (fun l => l[0]?) h
    simpa [List.getElem?_drop] using this
  rw [rd_get hg]
  apply List.ext_getElem?
  intro j
  by_cases hj : i = j
  · subst hj
    have hl : i < a.length := by
      by_cases hl : i < a.length
      · exact hl
      · rw [List.getElem?_eq_none (by omega), hg] at ha; cases ha
    rw [List.getElem?_set_self hl, ha, hg]
  · rw [List.getElem?_set_ne hj]
-- needs: update_model
theorem spec_bhRound_eq {a b : Int} (h0 : 0 ≤ a) (h1 : a ≤ 2000000000000) (h2 : 1 ≤ b) (h3 : b ≤ 2000000000) : spec_bhRound.f a b = some ((2 * a + b) / (2 * b)) := by
  simp only [spec_bhRound.f]
  rw [if_neg (by rw [wrap_id (by omega) (by omega)]; omega), round_eq h0 h1 h2 h3]
theorem sum_bd {gx gy gz : Int} (q : S68 → Bool) : ∀ (l : List S68), holesOk gx gy gz l = true → (0 ≤ sumT q l ∧ sumT q l ≤ 1000 * (l.length : Int)) ∧ (0 ≤ sumTG q l ∧ sumTG q l ≤ 1000000 * (l.length : Int))
  | [], _ => by simp [sumT, sumTG]
  | h :: hs, hl => by
    have ho := hole_tg (holesOk_mem hl h (by simp))
    have ih := sum_bd q hs (by simp only [holesOk, Bool.and_eq_true] at hl; exact hl.2)
    simp only [sumT, sumTG, List.length_cons]
    by_cases c : q h = true
    · rw [if_pos c, if_pos c]; push_cast; omega
    · rw [if_neg c, if_neg c]; push_cast; omega
def meanF (x y : Int) (l : List S68) (i : Nat) : Int × Int × Bool := meanRes (sumT (inB x y (i : Int)) l) (sumTG (inB x y (i : Int)) l)
-- needs: update_model sum_bd
def updateModel (x y z : Int) (t g r : List Int) (l : List S68) : ModelR := if modelOk x y z t g r = true ∧ (l.length ≤ 40 ∧ holesOk x y z l = true) then (x, y, z, t, upd (meanF x y l) g, r, true) else (0, 0, 0, [], [], [], false)
theorem updateModel_len (x y z : Int) (t g r : List Int) (ht : t.length ≤ 1048576) (hg : g.length ≤ 1048576) (hr : r.length ≤ 1048576) (l : List S68) : (updateModel x y z t g r l).2.2.2.1.length ≤ 1048576 ∧ (updateModel x y z t g r l).2.2.2.2.1.length ≤ 1048576 ∧ (updateModel x y z t g r l).2.2.2.2.2.1.length ≤ 1048576 := by
  unfold updateModel
  split
  · exact ⟨ht, by simp only [upd_length]; exact hg, hr⟩
  · simp
-- needs: updateModel
theorem spec_UpdateModel_l0 (x y z : Int) (t g r : List Int) (l : List S68) (hm : modelOk x y z t g r = true) (hgn : g.length ≤ 1048576) (hn : l.length ≤ 1048576) (hl : holesOk x y z l = true) : ∀ (m i : Nat) (a : List Int), i + m = g.length → a.length = g.length → a.take i = (upd (meanF x y l) g).take i → a.drop i = g.drop i →
    Ev (fun k => spec_UpdateModel.l0 k l (g.length : Int) i x y z t g r x y z t a r) (x, y, z, t, upd (meanF x y l) g, r, true)
  | 0, i, a, h, ha, hi, hd => Ev.next0 fun k => by
      have e : a = upd (meanF x y l) g := copy_end (by rw [ha, upd_length]) hi (by rw [upd_length]; omega)
      simp only [spec_UpdateModel.l0]
      rw [if_neg (by omega), e]
  | m + 1, i, a, h, ha, hi, hd => by
      obtain ⟨hgr, hlen, _⟩ := model_ok hm
      have ew := wrap_succ (i := i) (n := g.length) (by omega) (by omega)
      have hM := spec_bhMean_ev x y z (i : Int) hgr l hn hl
      have hs := sum_bd (inB x y (i : Int)) l hl
      have hu := upd_get (f := (meanF x y l)) (show i < g.length by omega)
      obtain ⟨c1, c2⟩ := copy_step hu (by rw [ha, upd_length]) hi
      rw [upd_length] at c1
      have b0 : (i : Int) < (g.length : Int) := by omega
      have b1 : 0 ≤ (i : Int) := by omega
      have b3 : (i : Int) < (a.length : Int) := by omega
      have c3 := drop_step (rnd ((meanF x y l) i) (rd g i)) hd
      have ih := spec_UpdateModel_l0 x y z t g r l hm hgn hn hl m (i + 1) (a.set i (rnd ((meanF x y l) i) (rd g i))) (by omega) c1 c2 c3
      have hF : (meanF x y l) i = meanRes (sumT (inB x y (i : Int)) l) (sumTG (inB x y (i : Int)) l) := rfl
      rw [← hF] at hM
      have hb0 := mean_bd hs.1.1 (by omega) hs.2.1 (by omega)
      rw [← hF] at hb0
      generalize (meanF x y l) i = p at hM hb0 ih
      obtain ⟨p1, p2, p3⟩ := p
      cases p3 with
      | true =>
        have hb := hb0 rfl
        simp only at hb
        have e : rnd (p1, p2, true) (rd g i) = (2 * p1 + p2) / (2 * p2) := by simp [rnd]
        rw [e] at ih
        refine Ev.next2 hM ih fun k k1 k2 => ?_
        simp only [spec_UpdateModel.l0, k1, Option.bind_some]
        rw [if_pos b0, if_pos (by simp), spec_bhRound_eq hb.1 hb.2.1 hb.2.2.1 hb.2.2.2, Option.bind_some, if_pos b1, if_pos b3, ew, toNat_cast]
        exact k2
      | false =>
        have e : rnd (p1, p2, false) (rd g i) = rd g i := by simp [rnd]
        rw [e, set_same hd (by omega)] at ih
        refine Ev.next2 hM ih fun k k1 k2 => ?_
        simp only [spec_UpdateModel.l0, k1, Option.bind_some]
        rw [if_pos b0, if_neg (by simp), ew]
        exact k2
theorem spec_UpdateModel_no (x y z : Int) (t g r : List Int) (l : List S68) : Ev (fun k => spec_UpdateModel.j0 k l true x y z t g r) (0, 0, 0, [], [], [], false) := Ev.next0 fun k => by simp [spec_UpdateModel.j0]
theorem spec_UpdateModel_ev (x y z : Int) (t g r : List Int) (ht : t.length ≤ 1048576) (hg : g.length ≤ 1048576) (hr : r.length ≤ 1048576) (l : List S68) (hn : l.length ≤ 1048576) : Ev (fun k => spec_UpdateModel.f k x y z t g r l) (updateModel x y z t g r l) := by
  have h0 := spec_moGood_ev x y z t g r ht hg hr
  have hno := spec_UpdateModel_no x y z t g r l
  by_cases h : modelOk x y z t g r = true
  · have hgr := (model_ok h).1
    have h2 := spec_bhList_ev x y z hgr l (by omega)
    by_cases hh : l.length ≤ 40 ∧ holesOk x y z l = true
    · have et : (decide (l.length ≤ 40) && holesOk x y z l) = true := by simp [hh]
      have ef : updateModel x y z t g r l = (x, y, z, t, upd (meanF x y l) g, r, true) := by rw [updateModel, if_pos ⟨h, hh⟩]
      have i1 : Ev (fun k => spec_UpdateModel.j0 k l false x y z t g r) (x, y, z, t, upd (meanF x y l) g, r, true) := Ev.next1 (spec_UpdateModel_l0 x y z t g r l h hg hn hh.2 g.length 0 g (by omega) rfl (by simp) rfl) fun k hk => by
        simp only [spec_UpdateModel.j0, spec_moOwn_eq x y z t g r ht hg hr, Option.bind_some]
        rw [if_neg (by simp)]; exact hk
      refine (ev_and h0 <| ev_and h2 <| ev_one i1).ev fun k ⟨k1, k2, k3⟩ => ?_
      simp only [spec_UpdateModel.f, k1, k2, Option.bind_some]
      rw [if_pos h, ef, et]; exact k3
    · have et : (decide (l.length ≤ 40) && holesOk x y z l) = false := by simpa using hh
      have ef : updateModel x y z t g r l = (0, 0, 0, [], [], [], false) := by rw [updateModel, if_neg (fun w => hh w.2)]
      refine (ev_and h0 <| ev_and h2 <| ev_one hno).ev fun k ⟨k1, k2, k3⟩ => ?_
      simp only [spec_UpdateModel.f, k1, k2, Option.bind_some]
      rw [if_pos h, ef, et]; exact k3
  · have ef : updateModel x y z t g r l = (0, 0, 0, [], [], [], false) := by rw [updateModel, if_neg (fun w => h w.1)]
    refine (ev_and h0 <| ev_one hno).ev fun k ⟨k1, k3⟩ => ?_
    simp only [spec_UpdateModel.f, k1, Option.bind_some]
    rw [if_neg h, ef]; exact k3
theorem spec_l1Cur_model_l0 (l : List Int) (hl : ∀ x ∈ l, 0 ≤ x ∧ x ≤ 255) (hn : l.length ≤ 9223372036854775807) (x y z : Int) : ∀ (d : Nat) (t g r : List Int) (p s : Int), t.length + d ≤ 120 → g.length = t.length → r.length = t.length → 0 ≤ p → p + 10 * (d : Int) ≤ 700000 →
    ∃ t' g' r' p' s', Ev (fun k => spec_l1Cur_model.l0 k (d : Int) l p s x y z t g r) (x, y, z, t', g', r', p', s') ∧ (t'.length = t.length + d ∧ g'.length = t'.length ∧ r'.length = t'.length) ∧ p ≤ p' ∧ p' ≤ p + 10 * (d : Int)
  | 0, t, g, r, p, s, h1, h2, h3, h4, h5 => by
      refine ⟨t, g, r, p, s, Ev.next0 fun k => ?_, by omega, by omega, by omega⟩
      simp only [spec_l1Cur_model.l0]
      rw [if_neg (by omega)]
  | d + 1, t, g, r, p, s, h1, h2, h3, h4, h5 => by
      obtain ⟨q1, p1, s1, e1, _, b1⟩ := spec_l1Cur_pick_some l hl hn p s h4 (by omega) 10001
      obtain ⟨v1, p2, s2, e2, b2⟩ := spec_l1Cur_among_some l hl hn p1 s1 (by omega) (by omega) [0, 100, 100, 200, 500, 1000, q1] (by simp)
      obtain ⟨q2, p3, s3, e3, _, b3⟩ := spec_l1Cur_pick_some l hl hn p2 s2 (by omega) (by omega) 1001
      obtain ⟨v2, p4, s4, e4, b4⟩ := spec_l1Cur_among_some l hl hn p3 s3 (by omega) (by omega) [0, 0, 5, 10, 20, 50, q2] (by simp)
      obtain ⟨v3, p5, s5, e5, _, b5⟩ := spec_l1Cur_pick_some l hl hn p4 s4 (by omega) (by omega) 5
      obtain ⟨t', g', r', p', s', h, ⟨g1, g2, g3⟩, g4, g5⟩ := spec_l1Cur_model_l0 l hl hn x y z d (t ++ [v1]) (g ++ [v2]) (r ++ [v3]) p5 s5 (by simp; omega) (by simp; omega) (by simp; omega) (by omega) (by push_cast at h5; omega)
      refine ⟨t', g', r', p', s', Ev.next1 h fun k hk => ?_, ⟨by simp at g1; omega, g2, g3⟩, by omega, by push_cast; omega⟩
      simp only [spec_l1Cur_model.l0, e1, e2, e3, e4, e5, Option.bind_some]
      rw [if_pos (by omega), if_pos (by omega), if_pos (by omega), if_pos (by omega), wrap_id (x := ((d + 1 : Nat) : Int) - 1) (by omega) (by omega), show ((d + 1 : Nat) : Int) - 1 = (d : Int) by omega]
      exact hk
theorem spec_grCount_small {x y z : Int} (h : (1 ≤ x ∧ x ≤ 8) ∧ (1 ≤ y ∧ y ≤ 6) ∧ (1 ≤ z ∧ z ≤ 5) ∧ x * y * z ≤ 120) : spec_grCount.f x y z = some (x * y * z) ∧ 1 ≤ x * y * z := by
  obtain ⟨hx, hy, hz, hxyz⟩ := h
  have m0 : 1 ≤ x * y := Int.mul_pos (by omega) (by omega)
  have m1 : x * y ≤ 8 * 6 := Int.mul_le_mul hx.2 hy.2 (by omega) (by omega)
  have m2 : 1 ≤ x * y * z := Int.mul_pos (by omega) (by omega)
  refine ⟨?_, m2⟩
  simp only [spec_grCount.f]
  rw [wrap_id (x := x * y) (by omega) (by omega), wrap_id (x := x * y * z) (by omega) (by omega)]
theorem spec_l1Cur_model_some (l : List Int) (hl : ∀ x ∈ l, 0 ≤ x ∧ x ≤ 255) (hn : l.length ≤ 9223372036854775807) (p s : Int) (h0 : 0 ≤ p) (h1 : p ≤ 600000) : ∃ x y z t g r p' s', Ev (fun k => spec_l1Cur_model.f k l p s) (x, y, z, t, g, r, p', s') ∧ ((1 ≤ x ∧ x ≤ 8) ∧ (1 ≤ y ∧ y ≤ 6) ∧ (1 ≤ z ∧ z ≤ 5) ∧ x * y * z ≤ 120) ∧ ((t.length : Int) = x * y * z ∧ g.length = t.length ∧ r.length = t.length) ∧ p ≤ p' ∧ p' ≤ p + 1300 := by
  obtain ⟨x, y, z, p1, s1, e1, hb, b1⟩ := spec_l1Cur_grid_some l hl hn p s h0 (by omega)
  obtain ⟨ec, c0⟩ := spec_grCount_small hb
  obtain ⟨d, hd⟩ := Int.eq_ofNat_of_zero_le (show 0 ≤ x * y * z by omega)
  obtain ⟨t, g, r, p2, s2, e2, ⟨g1, g2, g3⟩, g4, g5⟩ := spec_l1Cur_model_l0 l hl hn x y z d [] [] [] p1 s1 (by simp; omega) rfl rfl (by omega) (by omega)
  refine ⟨x, y, z, t, g, r, p2, s2, Ev.of1 e2 fun k hk => ?_, hb, ⟨by simp at g1; omega, g2, g3⟩, by omega, by omega⟩
  simp only [spec_l1Cur_model.f, e1, ec, Option.bind_some]
  rw [hd]
  exact hk
theorem spec_l1Cur_anyModel_some (l : List Int) (hl : ∀ x ∈ l, 0 ≤ x ∧ x ≤ 255) (hn : l.length ≤ 9223372036854775807) (p s : Int) (h0 : 0 ≤ p) (h1 : p ≤ 500000) : ∃ x y z t g r p' s', Ev (fun k => spec_l1Cur_anyModel.f k l p s) (x, y, z, t, g, r, p', s') ∧ (t.length ≤ 120 ∧ g.length ≤ 120 ∧ r.length ≤ 121) ∧ p ≤ p' ∧ p' ≤ p + 1400 := by
  obtain ⟨x, y, z, t, g, r, p1, s1, e1, hb, ⟨g1, g2, g3⟩, b1⟩ := spec_l1Cur_model_some l hl hn p s h0 (by omega)
  obtain ⟨ec, c0⟩ := spec_grCount_small hb
  obtain ⟨q, p2, s2, e2, _, b2⟩ := spec_l1Cur_pick_some l hl hn p1 s1 (by omega) (by omega) 30
  obtain ⟨i, p3, s3, e3, c3, b3⟩ := spec_l1Cur_pick_some l hl hn p2 s2 (by omega) (by omega) (x * y * z)
  have c3' := c3.2 c0
  by_cases q0 : q = 0
  · obtain ⟨x', y', z', p4, s4, e4, b4⟩ := spec_l1Cur_anyGrid_some l hl hn p2 s2 (by omega) (by omega)
    refine ⟨x', y', z', t, g, r, p4, s4, Ev.of1 e1 fun k hk => ?_, by omega, by omega, by omega⟩
    simp only [spec_l1Cur_anyModel.f, hk, ec, e2, e4, Option.bind_some]
    rw [if_pos q0]
  by_cases q1 : q = 1
  · obtain ⟨v, p4, s4, e4, b4⟩ := spec_l1Cur_among_some l hl hn p3 s3 (by omega) (by omega) [(-1), 10000, 10001] (by simp)
    refine ⟨x, y, z, t.set i.toNat v, g, r, p4, s4, Ev.of1 e1 fun k hk => ?_, by simp only [List.length_set]; omega, by omega, by omega⟩
    simp only [spec_l1Cur_anyModel.f, hk, ec, e2, e3, e4, Option.bind_some]
    rw [if_neg q0, if_pos q1, if_pos c3.1, if_pos (by omega)]
  by_cases q2 : q = 2
  · obtain ⟨v, p4, s4, e4, b4⟩ := spec_l1Cur_among_some l hl hn p3 s3 (by omega) (by omega) [(-1), 1000, 1001] (by simp)
    refine ⟨x, y, z, t, g.set i.toNat v, r, p4, s4, Ev.of1 e1 fun k hk => ?_, by simp only [List.length_set]; omega, by omega, by omega⟩
    simp only [spec_l1Cur_anyModel.f, hk, ec, e2, e3, e4, Option.bind_some]
    rw [if_neg q0, if_neg q1, if_pos q2, if_pos c3.1, if_pos (by omega)]
  by_cases q3 : q = 3
  · obtain ⟨v, p4, s4, e4, b4⟩ := spec_l1Cur_among_some l hl hn p3 s3 (by omega) (by omega) [(-1), 4, 5] (by simp)
    refine ⟨x, y, z, t, g, r.set i.toNat v, p4, s4, Ev.of1 e1 fun k hk => ?_, by simp only [List.length_set]; omega, by omega, by omega⟩
    simp only [spec_l1Cur_anyModel.f, hk, ec, e2, e3, e4, Option.bind_some]
    rw [if_neg q0, if_neg q1, if_neg q2, if_pos q3, if_pos c3.1, if_pos (by omega)]
  by_cases q4 : q = 4
  · refine ⟨x, y, z, t, g, r ++ [0], p2, s2, Ev.of1 e1 fun k hk => ?_, by simp only [List.length_append, List.length_singleton]; omega, by omega, by omega⟩
    simp only [spec_l1Cur_anyModel.f, hk, ec, e2, Option.bind_some]
    rw [if_neg q0, if_neg q1, if_neg q2, if_neg q3, if_pos q4, if_pos (by omega)]
  · refine ⟨x, y, z, t, g, r, p2, s2, Ev.of1 e1 fun k hk => ?_, by omega, by omega, by omega⟩
    simp only [spec_l1Cur_anyModel.f, hk, ec, e2, Option.bind_some]
    rw [if_neg q0, if_neg q1, if_neg q2, if_neg q3, if_neg q4]
-- needs: updateModel
theorem spec_DrawChangedBlocks_j0 (l : List Int) (hl : ∀ x ∈ l, 0 ≤ x ∧ x ≤ 255) (hn : l.length ≤ 9223372036854775807) (o : Bool) (p s : Int) (h0 : 0 ≤ p) (h1 : p ≤ 400000) (x y z : Int) (t g r : List Int) (ht : t.length ≤ 1048576) (hg : g.length ≤ 1048576) (hr : r.length ≤ 1048576) :
    ∃ x' y' z' t' g' r', Ev (fun k => spec_DrawChangedBlocks.j0 k o l p s x y z t g r) (x, y, z, t, g, r, x', y', z', t', g', r') ∧ (t'.length ≤ 1048576 ∧ g'.length ≤ 1048576 ∧ r'.length ≤ 1048576) := by
  by_cases c : o = true
  · obtain ⟨x', y', z', t', g', r', p1, s1, e1, g1, b1⟩ := spec_l1Cur_anyModel_some l hl hn p s h0 (by omega)
    refine ⟨x', y', z', t', g', r', Ev.next1 e1 fun k hk => ?_, by omega⟩
    simp only [spec_DrawChangedBlocks.j0, hk, Option.bind_some]
    rw [if_pos c]
  · obtain ⟨v, p1, s1, e1, g1, b1⟩ := spec_l1Cur_holes_some l hl hn p s h0 (by omega) x y z
    have u := spec_UpdateModel_ev x y z t g r ht hg hr v (by omega)
    have ul := updateModel_len x y z t g r ht hg hr v
    generalize updateModel x y z t g r v = U at *
    by_cases d : U.2.2.2.2.2.2 = true
    · refine ⟨U.1, U.2.1, U.2.2.1, U.2.2.2.1, U.2.2.2.2.1, U.2.2.2.2.2.1, (ev_and e1 <| ev_one u).next fun k ⟨k1, k2⟩ => ?_, ul⟩
      simp only [spec_DrawChangedBlocks.j0, k1, k2, Option.bind_some]
      rw [if_neg c, if_pos d]
    · refine ⟨x, y, z, t, g, r, (ev_and e1 <| ev_one u).next fun k ⟨k1, k2⟩ => ?_, ⟨ht, hg, hr⟩⟩
      simp only [spec_DrawChangedBlocks.j0, k1, k2, Option.bind_some]
      rw [if_neg c, if_neg d]
theorem spec_DrawChangedBlocks_some (l : List Int) (hl : ∀ x ∈ l, 0 ≤ x ∧ x ≤ 255) (hn : l.length ≤ 9223372036854775807) : ∃ x y z t g r x' y' z' t' g' r', Ev (fun k => spec_DrawChangedBlocks.f k l) (x, y, z, t, g, r, x', y', z', t', g', r') ∧ (t.length ≤ 1048576 ∧ g.length ≤ 1048576 ∧ r.length ≤ 1048576) ∧ (t'.length ≤ 1048576 ∧ g'.length ≤ 1048576 ∧ r'.length ≤ 1048576) := by
  obtain ⟨x, y, z, t, g, r, p1, s1, e1, g1, b1⟩ := spec_l1Cur_anyModel_some l hl hn 0 0 (by omega) (by omega)
  have m := spec_moGood_ev x y z t g r (by omega) (by omega) (by omega)
  by_cases c : modelOk x y z t g r = true
  · obtain ⟨o, p2, s2, e2, b2⟩ := spec_l1Cur_one_some l hl hn p1 s1 (by omega) (by omega) 6
    obtain ⟨x', y', z', t', g', r', e3, g3⟩ := spec_DrawChangedBlocks_j0 l hl hn o p2 s2 (by omega) (by omega) x y z t g r (by omega) (by omega) (by omega)
    refine ⟨x, y, z, t, g, r, x', y', z', t', g', r', (ev_and e1 <| ev_and m <| ev_one e3).ev fun k ⟨k1, k2, k3⟩ => ?_, by omega, g3⟩
    simp only [spec_DrawChangedBlocks.f, k1, k2, e2, Option.bind_some]
    rw [if_pos c]
    exact k3
  · obtain ⟨x', y', z', t', g', r', e3, g3⟩ := spec_DrawChangedBlocks_j0 l hl hn true p1 s1 (by omega) (by omega) x y z t g r (by omega) (by omega) (by omega)
    refine ⟨x, y, z, t, g, r, x', y', z', t', g', r', (ev_and e1 <| ev_and m <| ev_one e3).ev fun k ⟨k1, k2, k3⟩ => ?_, by omega, g3⟩
    simp only [spec_DrawChangedBlocks.f, k1, k2, Option.bind_some]
    rw [if_neg c]
    exact k3
theorem spec_DrawKindChanges_some (l : List Int) (hl : ∀ x ∈ l, 0 ≤ x ∧ x ≤ 255) (hn : l.length ≤ 9223372036854775807) : ∃ x y z t g r x' y' z' t' g' r' c, Ev (fun k => spec_DrawKindChanges.f k l) (x, y, z, t, g, r, x', y', z', t', g', r', c) ∧ (t.length ≤ 1048576 ∧ g.length ≤ 1048576 ∧ r.length ≤ 1048576) ∧ (t'.length ≤ 1048576 ∧ g'.length ≤ 1048576 ∧ r'.length ≤ 1048576) := by
  obtain ⟨x, y, z, t, g, r, x', y', z', t', g', r', e, g1, g2⟩ := spec_DrawChangedBlocks_some l hl hn
  obtain ⟨w, p2, s2, e2, b2⟩ := spec_l1Cur_among_some l hl hn 0 0 (by omega) (by omega) [0, 1, 10, 20, 1000, 1001, 1002, (-1)] (by simp)
  refine ⟨x, y, z, t, g, r, x', y', z', t', g', r', w, Ev.of1 e fun k hk => ?_, g1, g2⟩
  simp only [spec_DrawKindChanges.f, hk, e2, Option.bind_some]
-- needs: model_facts
/-- The blocks, from i on, that come up to a cutoff, and those that fall below it. -/
def kch (c : Int) (g g' : List Int) : Nat → Nat → List Int → List Int → List Int × List Int
  | 0, _, u, d => (u, d)
  | m + 1, i, u, d => kch c g g' m (i + 1) (if rd g i < c ∧ c ≤ rd g' i then u ++ [(i : Int)] else u) (if c ≤ rd g i ∧ rd g' i < c then d ++ [(i : Int)] else d)
theorem kch_len (c : Int) (g g' : List Int) : ∀ (m i : Nat) (u d : List Int), (kch c g g' m i u d).1.length ≤ u.length + m ∧ (kch c g g' m i u d).2.length ≤ d.length + m
  | 0, i, u, d => by simp [kch]
  | m + 1, i, u, d => by
    have h := kch_len c g g' m (i + 1) (if rd g i < c ∧ c ≤ rd g' i then u ++ [(i : Int)] else u) (if c ≤ rd g i ∧ rd g' i < c then d ++ [(i : Int)] else d)
    have h1 : (if rd g i < c ∧ c ≤ rd g' i then u ++ [(i : Int)] else u).length ≤ u.length + 1 := by split <;> simp
    have h2 : (if c ≤ rd g i ∧ rd g' i < c then d ++ [(i : Int)] else d).length ≤ d.length + 1 := by split <;> simp
    simp only [kch]; omega
def kindChanges (x y z : Int) (t g r : List Int) (x' y' z' : Int) (t' g' r' : List Int) (c : Int) : List Int × List Int × Bool := if (modelOk x y z t g r = true ∧ modelOk x' y' z' t' g' r' = true ∧ x = x' ∧ y = y' ∧ z = z') ∧ (0 ≤ c ∧ c ≤ 1001) then ((kch c g g' g.length 0 [] []).1, (kch c g g' g.length 0 [] []).2, true) else ([], [], false)
theorem kindChanges_len (x y z : Int) (t g r : List Int) (x' y' z' : Int) (t' g' r' : List Int) (ht : t.length ≤ 1048576) (hg : g.length ≤ 1048576) (hr : r.length ≤ 1048576) (ht' : t'.length ≤ 1048576) (hg' : g'.length ≤ 1048576) (hr' : r'.length ≤ 1048576) (c : Int) : (kindChanges x y z t g r x' y' z' t' g' r' c).1.length ≤ 1048576 ∧ (kindChanges x y z t g r x' y' z' t' g' r' c).2.1.length ≤ 1048576 := by
  have := kch_len c g g' g.length 0 [] []
  simp only [List.length_nil] at this
  unfold kindChanges
  split
  · simp only; omega
  · simp
theorem two_g {x y z : Int} {t g r : List Int} {x' y' z' : Int} {t' g' r' : List Int} (h : modelOk x y z t g r = true ∧ modelOk x' y' z' t' g' r' = true ∧ x = x' ∧ y = y' ∧ z = z') : g'.length = g.length := by
  obtain ⟨_, l1, _⟩ := model_ok h.1
  obtain ⟨_, l2, _⟩ := model_ok h.2.1
  rw [← h.2.2.1, ← h.2.2.2.1, ← h.2.2.2.2] at l2
  generalize x * y * z = p at l1 l2
  omega
-- needs: kind_model
theorem impl_KindChanges_l0 (x y z : Int) (t g r : List Int) (x' y' z' : Int) (t' g' r' : List Int) (c : Int) (hn : g.length ≤ 1048576) (hg' : g'.length = g.length) : ∀ (m i : Nat) (u d : List Int), i + m = g.length → u.length ≤ i → d.length ≤ i →
    Ev (fun k => impl_KindChanges.l0 k c u d (g.length : Int) i x y z t g r x' y' z' t' g' r') ((kch c g g' m i u d).1, (kch c g g' m i u d).2, true)
  | 0, i, u, d, h, hu, hd => Ev.next0 fun k => by
      simp only [impl_KindChanges.l0, kch]
      rw [if_neg (by omega)]
  | m + 1, i, u, d, h, hu, hd => by
      have ew := wrap_succ (i := i) (n := g.length) (by omega) (by omega)
      have hu1 : u.length < 17592186044416 := by omega
      have hd1 : d.length < 17592186044416 := by omega
      have b0 : (i : Int) < (g.length : Int) := by omega
      have b1 : 0 ≤ (i : Int) := by omega
      have b2 : (i : Int) < (g'.length : Int) := by omega
      by_cases b : rd g' i ≥ c
      · by_cases a : rd g i ≥ c
        · have e1 : (if rd g i < c ∧ c ≤ rd g' i then u ++ [(i : Int)] else u) = u := if_neg (by omega)
          have e2 : (if c ≤ rd g i ∧ rd g' i < c then d ++ [(i : Int)] else d) = d := if_neg (by omega)
          have j : Ev (fun k => impl_KindChanges.j2 k c u d (i : Int) true true (g.length : Int) (i : Int) (!true) x y z t g r x' y' z' t' g' r') ((kch c g g' m (i + 1) u d).1, (kch c g g' m (i + 1) u d).2, true) := Ev.next1 (impl_KindChanges_l0 x y z t g r x' y' z' t' g' r' c hn hg' m (i + 1) u d (by omega) (by omega) (by omega)) fun k hk => by
            simp only [impl_KindChanges.j2, Option.bind_some]
            rw [if_neg (by simp), if_pos (by simp), if_pos (by simp), ew]; exact hk
          refine Ev.next1 j fun k hk => ?_
          simp only [impl_KindChanges.l0, kch]
          rw [if_pos b0, if_pos b1, if_pos b0, if_pos b2, if_pos b, show decide (rd g i ≥ c) = true by simp; omega, show decide (rd g' i ≥ c) = true by simp; omega, e1, e2]; exact hk
        · have e1 : (if rd g i < c ∧ c ≤ rd g' i then u ++ [(i : Int)] else u) = (u ++ [(i : Int)]) := if_pos (by omega)
          have e2 : (if c ≤ rd g i ∧ rd g' i < c then d ++ [(i : Int)] else d) = d := if_neg (by omega)
          have j : Ev (fun k => impl_KindChanges.j2 k c u d (i : Int) false true (g.length : Int) (i : Int) (!false) x y z t g r x' y' z' t' g' r') ((kch c g g' m (i + 1) (u ++ [(i : Int)]) d).1, (kch c g g' m (i + 1) (u ++ [(i : Int)]) d).2, true) := Ev.next1 (impl_KindChanges_l0 x y z t g r x' y' z' t' g' r' c hn hg' m (i + 1) (u ++ [(i : Int)]) d (by omega) (by simp; omega) (by omega)) fun k hk => by
            simp only [impl_KindChanges.j2, Option.bind_some]
            rw [if_pos (by simp), if_pos hu1, if_neg (by simp), ew]; exact hk
          refine Ev.next1 j fun k hk => ?_
          simp only [impl_KindChanges.l0, kch]
          rw [if_pos b0, if_pos b1, if_pos b0, if_pos b2, if_pos b, show decide (rd g i ≥ c) = false by simp; omega, show decide (rd g' i ≥ c) = true by simp; omega, e1, e2]; exact hk
      · by_cases a : rd g i ≥ c
        · have e1 : (if rd g i < c ∧ c ≤ rd g' i then u ++ [(i : Int)] else u) = u := if_neg (by omega)
          have e2 : (if c ≤ rd g i ∧ rd g' i < c then d ++ [(i : Int)] else d) = (d ++ [(i : Int)]) := if_pos (by omega)
          have j : Ev (fun k => impl_KindChanges.j2 k c u d (i : Int) true false (g.length : Int) (i : Int) false x y z t g r x' y' z' t' g' r') ((kch c g g' m (i + 1) u (d ++ [(i : Int)])).1, (kch c g g' m (i + 1) u (d ++ [(i : Int)])).2, true) := Ev.next1 (impl_KindChanges_l0 x y z t g r x' y' z' t' g' r' c hn hg' m (i + 1) u (d ++ [(i : Int)]) (by omega) (by omega) (by simp; omega)) fun k hk => by
            simp only [impl_KindChanges.j2, Option.bind_some]
            rw [if_neg (by simp), if_pos (by simp), if_neg (by simp), if_pos hd1, ew]; exact hk
          refine Ev.next1 j fun k hk => ?_
          simp only [impl_KindChanges.l0, kch]
          rw [if_pos b0, if_pos b1, if_pos b0, if_pos b2, if_neg b, show decide (rd g i ≥ c) = true by simp; omega, show decide (rd g' i ≥ c) = false by simp; omega, e1, e2]; exact hk
        · have e1 : (if rd g i < c ∧ c ≤ rd g' i then u ++ [(i : Int)] else u) = u := if_neg (by omega)
          have e2 : (if c ≤ rd g i ∧ rd g' i < c then d ++ [(i : Int)] else d) = d := if_neg (by omega)
          have j : Ev (fun k => impl_KindChanges.j2 k c u d (i : Int) false false (g.length : Int) (i : Int) false x y z t g r x' y' z' t' g' r') ((kch c g g' m (i + 1) u d).1, (kch c g g' m (i + 1) u d).2, true) := Ev.next1 (impl_KindChanges_l0 x y z t g r x' y' z' t' g' r' c hn hg' m (i + 1) u d (by omega) (by omega) (by omega)) fun k hk => by
            simp only [impl_KindChanges.j2, Option.bind_some]
            rw [if_neg (by simp), if_neg (by simp), ew]; exact hk
          refine Ev.next1 j fun k hk => ?_
          simp only [impl_KindChanges.l0, kch]
          rw [if_pos b0, if_pos b1, if_pos b0, if_pos b2, if_neg b, show decide (rd g i ≥ c) = false by simp; omega, show decide (rd g' i ≥ c) = false by simp; omega, e1, e2]; exact hk
theorem impl_KindChanges_no (x y z : Int) (t g r : List Int) (x' y' z' : Int) (t' g' r' : List Int) (c : Int) : Ev (fun k => impl_KindChanges.j0 k c true x y z t g r x' y' z' t' g' r') ([], [], false) := Ev.next0 fun k => by simp [impl_KindChanges.j0]
theorem impl_KindChanges_ev (x y z : Int) (t g r : List Int) (x' y' z' : Int) (t' g' r' : List Int) (ht : t.length ≤ 1048576) (hg : g.length ≤ 1048576) (hr : r.length ≤ 1048576) (ht' : t'.length ≤ 1048576) (hg' : g'.length ≤ 1048576) (hr' : r'.length ≤ 1048576) (c : Int) : Ev (fun k => impl_KindChanges.f k x y z t g r x' y' z' t' g' r' c) (kindChanges x y z t g r x' y' z' t' g' r' c) := by
  have h0 := impl_areTwins_ev x y z t g r x' y' z' t' g' r' ht hg hr ht' hg' hr'
  have hn := impl_KindChanges_no x y z t g r x' y' z' t' g' r' c
  by_cases h : modelOk x y z t g r = true ∧ modelOk x' y' z' t' g' r' = true ∧ x = x' ∧ y = y' ∧ z = z'
  · by_cases hc : 0 ≤ c ∧ c ≤ 1001
    · have ef : kindChanges x y z t g r x' y' z' t' g' r' c = ((kch c g g' g.length 0 [] []).1, (kch c g g' g.length 0 [] []).2, true) := by rw [kindChanges, if_pos ⟨h, hc⟩]
      have i1 : Ev (fun k => impl_KindChanges.j0 k c false x y z t g r x' y' z' t' g' r') ((kch c g g' g.length 0 [] []).1, (kch c g g' g.length 0 [] []).2, true) := Ev.next1 (impl_KindChanges_l0 x y z t g r x' y' z' t' g' r' c hg (two_g h) g.length 0 [] [] (by omega) (by simp) (by simp)) fun k hk => by
        simp only [impl_KindChanges.j0]
        rw [if_neg (by simp)]; exact hk
      refine (ev_and h0 <| ev_one i1).ev fun k ⟨k1, k2⟩ => ?_
      simp only [impl_KindChanges.f, k1, Option.bind_some]
      rw [if_pos (by simp only [h.1, h.2.1, Bool.true_and]; simp [h.2.2]), ef]
      rw [if_neg (by omega), show decide (c > 1001) = false by simp; omega]; exact k2
    · have ef : kindChanges x y z t g r x' y' z' t' g' r' c = ([], [], false) := by rw [kindChanges, if_neg (fun q => hc q.2)]
      refine (ev_and h0 <| ev_one hn).ev fun k ⟨k1, k2⟩ => ?_
      simp only [impl_KindChanges.f, k1, Option.bind_some]
      rw [if_pos (by simp only [h.1, h.2.1, Bool.true_and]; simp [h.2.2]), ef]
      by_cases h5 : c < 0
      · rw [if_pos h5]; exact k2
      · rw [if_neg h5, show decide (c > 1001) = true by simp; omega]; exact k2
  · have ef : kindChanges x y z t g r x' y' z' t' g' r' c = ([], [], false) := by rw [kindChanges, if_neg (fun q => h q.1)]
    refine (ev_and h0 <| ev_one hn).ev fun k ⟨k1, k2⟩ => ?_
    simp only [impl_KindChanges.f, k1, Option.bind_some]
    rw [if_neg (by simpa using h), ef]; exact k2
-- needs: kind_model
theorem spec_KindChanges_l0 (x y z : Int) (t g r : List Int) (x' y' z' : Int) (t' g' r' : List Int) (c : Int) (hn : g.length ≤ 1048576) (hg' : g'.length = g.length) : ∀ (m i : Nat) (u d : List Int), i + m = g.length → u.length ≤ i → d.length ≤ i →
    Ev (fun k => spec_KindChanges.l0 k c u d g (g.length : Int) i x' y' z' t' g' r') ((kch c g g' m i u d).1, (kch c g g' m i u d).2, true)
  | 0, i, u, d, h, hu, hd => Ev.next0 fun k => by
      simp only [spec_KindChanges.l0, kch]
      rw [if_neg (by omega)]
  | m + 1, i, u, d, h, hu, hd => by
      have ew := wrap_succ (i := i) (n := g.length) (by omega) (by omega)
      have hu1 : u.length < 17592186044416 := by omega
      have hd1 : d.length < 17592186044416 := by omega
      have b0 : (i : Int) < (g.length : Int) := by omega
      have b1 : 0 ≤ (i : Int) := by omega
      have b2 : (i : Int) < (g'.length : Int) := by omega
      by_cases a : rd g i < c
      · by_cases b : c ≤ rd g' i
        · have e1 : (if rd g i < c ∧ c ≤ rd g' i then u ++ [(i : Int)] else u) = (u ++ [(i : Int)]) := if_pos ⟨a, b⟩
          have e2 : (if c ≤ rd g i ∧ rd g' i < c then d ++ [(i : Int)] else d) = d := if_neg (by omega)
          have j : Ev (fun k => spec_KindChanges.j2 k c u d (i : Int) (rd g i) g (g.length : Int) (i : Int) true x' y' z' t' g' r') ((kch c g g' m (i + 1) (u ++ [(i : Int)]) d).1, (kch c g g' m (i + 1) (u ++ [(i : Int)]) d).2, true) := Ev.next1 (spec_KindChanges_l0 x y z t g r x' y' z' t' g' r' c hn hg' m (i + 1) (u ++ [(i : Int)]) d (by omega) (by simp; omega) (by omega)) fun k hk => by
            simp only [spec_KindChanges.j2]
            rw [if_pos (by simp), if_pos hu1, ew]; exact hk
          refine Ev.next1 j fun k hk => ?_
          simp only [spec_KindChanges.l0, kch]
          rw [if_pos b0, if_pos b1, if_pos b0, if_pos a, if_pos b2, show decide (rd g' i ≥ c) = true by simp; omega, e1, e2]; exact hk
        · have e1 : (if rd g i < c ∧ c ≤ rd g' i then u ++ [(i : Int)] else u) = u := if_neg (by omega)
          have e2 : (if c ≤ rd g i ∧ rd g' i < c then d ++ [(i : Int)] else d) = d := if_neg (by omega)
          have j : Ev (fun k => spec_KindChanges.j2 k c u d (i : Int) (rd g i) g (g.length : Int) (i : Int) false x' y' z' t' g' r') ((kch c g g' m (i + 1) u d).1, (kch c g g' m (i + 1) u d).2, true) := Ev.next1 (spec_KindChanges_l0 x y z t g r x' y' z' t' g' r' c hn hg' m (i + 1) u d (by omega) (by omega) (by omega)) fun k hk => by
            simp only [spec_KindChanges.j2]
            rw [if_neg (by simp), if_neg (by omega), ew]; exact hk
          refine Ev.next1 j fun k hk => ?_
          simp only [spec_KindChanges.l0, kch]
          rw [if_pos b0, if_pos b1, if_pos b0, if_pos a, if_pos b2, show decide (rd g' i ≥ c) = false by simp; omega, e1, e2]; exact hk
      · have e1 : (if rd g i < c ∧ c ≤ rd g' i then u ++ [(i : Int)] else u) = u := if_neg (by omega)
        by_cases b : rd g' i < c
        · have e2 : (if c ≤ rd g i ∧ rd g' i < c then d ++ [(i : Int)] else d) = (d ++ [(i : Int)]) := if_pos (by omega)
          have j : Ev (fun k => spec_KindChanges.j2 k c u d (i : Int) (rd g i) g (g.length : Int) (i : Int) false x' y' z' t' g' r') ((kch c g g' m (i + 1) u (d ++ [(i : Int)])).1, (kch c g g' m (i + 1) u (d ++ [(i : Int)])).2, true) := Ev.next1 (spec_KindChanges_l0 x y z t g r x' y' z' t' g' r' c hn hg' m (i + 1) u (d ++ [(i : Int)]) (by omega) (by omega) (by simp; omega)) fun k hk => by
            simp only [spec_KindChanges.j2]
            rw [if_neg (by simp), if_pos (by omega), if_pos b1, if_pos b2, if_pos b, if_pos hd1, ew]; exact hk
          refine Ev.next1 j fun k hk => ?_
          simp only [spec_KindChanges.l0, kch]
          rw [if_pos b0, if_pos b1, if_pos b0, if_neg a, e1, e2]; exact hk
        · have e2 : (if c ≤ rd g i ∧ rd g' i < c then d ++ [(i : Int)] else d) = d := if_neg (by omega)
          have j : Ev (fun k => spec_KindChanges.j2 k c u d (i : Int) (rd g i) g (g.length : Int) (i : Int) false x' y' z' t' g' r') ((kch c g g' m (i + 1) u d).1, (kch c g g' m (i + 1) u d).2, true) := Ev.next1 (spec_KindChanges_l0 x y z t g r x' y' z' t' g' r' c hn hg' m (i + 1) u d (by omega) (by omega) (by omega)) fun k hk => by
            simp only [spec_KindChanges.j2]
            rw [if_neg (by simp), if_pos (by omega), if_pos b1, if_pos b2, if_neg b, ew]; exact hk
          refine Ev.next1 j fun k hk => ?_
          simp only [spec_KindChanges.l0, kch]
          rw [if_pos b0, if_pos b1, if_pos b0, if_neg a, e1, e2]; exact hk
theorem spec_KindChanges_no (x y z : Int) (t g r : List Int) (x' y' z' : Int) (t' g' r' : List Int) (c : Int) : Ev (fun k => spec_KindChanges.j0 k c true x y z t g r x' y' z' t' g' r') ([], [], false) := Ev.next0 fun k => by simp [spec_KindChanges.j0]
theorem spec_KindChanges_ev (x y z : Int) (t g r : List Int) (x' y' z' : Int) (t' g' r' : List Int) (ht : t.length ≤ 1048576) (hg : g.length ≤ 1048576) (hr : r.length ≤ 1048576) (ht' : t'.length ≤ 1048576) (hg' : g'.length ≤ 1048576) (hr' : r'.length ≤ 1048576) (c : Int) : Ev (fun k => spec_KindChanges.f k x y z t g r x' y' z' t' g' r' c) (kindChanges x y z t g r x' y' z' t' g' r' c) := by
  have h0 := spec_bhTwo_ev x y z t g r x' y' z' t' g' r' ht hg hr ht' hg' hr'
  have hn := spec_KindChanges_no x y z t g r x' y' z' t' g' r' c
  by_cases h : modelOk x y z t g r = true ∧ modelOk x' y' z' t' g' r' = true ∧ x = x' ∧ y = y' ∧ z = z'
  · by_cases hc : 0 ≤ c ∧ c ≤ 1001
    · have ef : kindChanges x y z t g r x' y' z' t' g' r' c = ((kch c g g' g.length 0 [] []).1, (kch c g g' g.length 0 [] []).2, true) := by rw [kindChanges, if_pos ⟨h, hc⟩]
      have i1 : Ev (fun k => spec_KindChanges.j0 k c false x y z t g r x' y' z' t' g' r') ((kch c g g' g.length 0 [] []).1, (kch c g g' g.length 0 [] []).2, true) := Ev.next1 (spec_KindChanges_l0 x y z t g r x' y' z' t' g' r' c hg (two_g h) g.length 0 [] [] (by omega) (by simp) (by simp)) fun k hk => by
        simp only [spec_KindChanges.j0]
        rw [if_neg (by simp)]; exact hk
      refine (ev_and h0 <| ev_one i1).ev fun k ⟨k1, k2⟩ => ?_
      simp only [spec_KindChanges.f, spec_l1In_eq, k1, Option.bind_some]
      rw [if_pos (by simp only [h.1, h.2.1, Bool.true_and]; simp [h.2.2]), ef]
      rw [show (!decide (0 ≤ c ∧ c ≤ 1001)) = false by simp [hc]]; exact k2
    · have ef : kindChanges x y z t g r x' y' z' t' g' r' c = ([], [], false) := by rw [kindChanges, if_neg (fun q => hc q.2)]
      refine (ev_and h0 <| ev_one hn).ev fun k ⟨k1, k2⟩ => ?_
      simp only [spec_KindChanges.f, spec_l1In_eq, k1, Option.bind_some]
      rw [if_pos (by simp only [h.1, h.2.1, Bool.true_and]; simp [h.2.2]), ef]
      rw [show (!decide (0 ≤ c ∧ c ≤ 1001)) = true by rw [decide_eq_false hc]; rfl]; exact k2
  · have ef : kindChanges x y z t g r x' y' z' t' g' r' c = ([], [], false) := by rw [kindChanges, if_neg (fun q => h q.1)]
    refine (ev_and h0 <| ev_one hn).ev fun k ⟨k1, k2⟩ => ?_
    simp only [spec_KindChanges.f, k1, Option.bind_some]
    rw [if_neg (by simpa using h), ef]; exact k2
-- needs: model_facts
/-- The sum of the errors, and of their squares. -/
def gErr : List Int → List Int → Int → Int → Int × Int
  | a :: us, b :: bs, e, s => gErr us bs (e + max (a - b) (-(a - b))) (s + max (a - b) (-(a - b)) * max (a - b) (-(a - b)))
  | _, _, e, s => (e, s)
def gradeErrors (x y z : Int) (t g r : List Int) (x' y' z' : Int) (t' g' r' : List Int) : Int × Int × Bool := if modelOk x y z t g r = true ∧ modelOk x' y' z' t' g' r' = true ∧ x = x' ∧ y = y' ∧ z = z' then ((gErr g g' 0 0).1, (gErr g g' 0 0).2, true) else (0, 0, false)
theorem spec_GradeErrors_l0 (x y z : Int) (t g r : List Int) (x' y' z' : Int) (t' g' r' : List Int) (hn : g.length ≤ 1048576) (hl : g'.length = g.length) (hv : allIn 0 1000 g = true) (hv' : allIn 0 1000 g' = true) : ∀ (us bs : List Int) (j : Nat) (e s : Int), g.drop j = us → g'.drop j = bs → (0 ≤ e ∧ e ≤ 1000 * (j : Int)) → (0 ≤ s ∧ s ≤ 1000000 * (j : Int)) →
    Ev (fun k => spec_GradeErrors.l0 k e s g (g.length : Int) j x' y' z' t' g' r') ((gErr us bs e s).1, (gErr us bs e s).2, true)
  | [], bs, j, e, s, ha, hb, he, hs => Ev.next0 fun k => by
      have h0 := drop_nil ha
      simp only [spec_GradeErrors.l0, gErr]
      rw [if_neg (by omega)]
  | a :: us, [], j, e, s, ha, hb, he, hs => by
      have h0 := drop_nil hb
      have h1 := (drop_cons ha).1
      omega
  | a :: us, b :: bs, j, e, s, ha, hb, he, hs => by
      obtain ⟨a1, a2, a3⟩ := drop_cons ha
      obtain ⟨b1, b2, b3⟩ := drop_cons hb
      have ea := rd_drop ha
      have eb := rd_drop hb
      have ia := allIn_get hv a2
      have ib := allIn_get hv' b2
      have hd : 0 ≤ max (a - b) (-(a - b)) ∧ max (a - b) (-(a - b)) ≤ 1000 := by omega
      have hq : 0 ≤ max (a - b) (-(a - b)) * max (a - b) (-(a - b)) ∧ max (a - b) (-(a - b)) * max (a - b) (-(a - b)) ≤ 1000000 := sq_bd (by omega)
      have ew : wrap64 (a - b) = a - b := wrap_id (by omega) (by omega)
      have ex : spec_l1Abs.f (a - b) = some (max (a - b) (-(a - b))) := spec_l1Abs_eq (a - b) (by omega) (by omega)
      simp only [gErr]
      generalize max (a - b) (-(a - b)) = m at hd hq ex ⊢
      refine Ev.next1 (spec_GradeErrors_l0 x y z t g r x' y' z' t' g' r' hn hl hv hv' us bs (j + 1) (e + m) (s + m * m) a3 b3 (by omega) (by omega)) fun k hk => ?_
      simp only [spec_GradeErrors.l0, ea, eb, ew, ex, Option.bind_some]
      rw [if_pos (by omega), if_pos (by omega), if_pos (by omega), if_pos (by omega), wrap_succ a1 (by omega), wrap_id (x := e + m) (by omega) (by omega), wrap_id (x := m * m) (by omega) (by omega), wrap_id (x := s + m * m) (by omega) (by omega)]
      exact hk
theorem spec_GradeErrors_ev (x y z : Int) (t g r : List Int) (x' y' z' : Int) (t' g' r' : List Int) (ht : t.length ≤ 1048576) (hg : g.length ≤ 1048576) (hr : r.length ≤ 1048576) (ht' : t'.length ≤ 1048576) (hg' : g'.length ≤ 1048576) (hr' : r'.length ≤ 1048576) : Ev (fun k => spec_GradeErrors.f k x y z t g r x' y' z' t' g' r') (gradeErrors x y z t g r x' y' z' t' g' r') := by
  have h0 := spec_bhTwo_ev x y z t g r x' y' z' t' g' r' ht hg hr ht' hg' hr'
  by_cases h : modelOk x y z t g r = true ∧ modelOk x' y' z' t' g' r' = true ∧ x = x' ∧ y = y' ∧ z = z'
  · obtain ⟨_, l1, _, v1, _⟩ := model_ok h.1
    obtain ⟨_, l2, _, v2, _⟩ := model_ok h.2.1
    have hl : g'.length = g.length := by
      have e1 := l1.2.1; have e2 := l2.2.1
      rw [← h.2.2.1, ← h.2.2.2.1, ← h.2.2.2.2, ← e1] at e2; omega
    refine (ev_and h0 <| ev_one (spec_GradeErrors_l0 x y z t g r x' y' z' t' g' r' hg hl v1 v2 g g' 0 0 0 rfl rfl (by omega) (by omega))).ev fun k ⟨k1, k2⟩ => ?_
    simp only [spec_GradeErrors.f, k1, Option.bind_some]
    rw [if_pos (by simp only [h.1, h.2.1, Bool.true_and]; simp [h.2.2]), gradeErrors, if_pos h]; exact k2
  · refine (ev_one h0).ev fun k k1 => ?_
    simp only [spec_GradeErrors.f, k1, Option.bind_some]
    rw [if_neg (by simpa using h), gradeErrors, if_neg h]
-- needs: spec_GradeErrors
theorem impl_GradeErrors_l0 (x y z : Int) (t g r : List Int) (x' y' z' : Int) (t' g' r' : List Int) (hn : g.length ≤ 1048576) (hl : g'.length = g.length) (hv : allIn 0 1000 g = true) (hv' : allIn 0 1000 g' = true) : ∀ (us bs : List Int) (j : Nat) (e s : Int), g.drop j = us → g'.drop j = bs → (0 ≤ e ∧ e ≤ 1000 * (j : Int)) → (0 ≤ s ∧ s ≤ 1000000 * (j : Int)) →
    Ev (fun k => impl_GradeErrors.l0 k e s (g.length : Int) j x y z t g r x' y' z' t' g' r') ((gErr us bs e s).1, (gErr us bs e s).2, true)
  | [], bs, j, e, s, ha, hb, he, hs => Ev.next0 fun k => by
      have h0 := drop_nil ha
      simp only [impl_GradeErrors.l0, gErr]
      rw [if_neg (by omega)]
  | a :: us, [], j, e, s, ha, hb, he, hs => by
      have h0 := drop_nil hb
      have h1 := (drop_cons ha).1
      omega
  | a :: us, b :: bs, j, e, s, ha, hb, he, hs => by
      obtain ⟨a1, a2, a3⟩ := drop_cons ha
      obtain ⟨b1, b2, b3⟩ := drop_cons hb
      have ea := rd_drop ha
      have eb := rd_drop hb
      have ia := allIn_get hv a2
      have ib := allIn_get hv' b2
      have hd : 0 ≤ max (a - b) (-(a - b)) ∧ max (a - b) (-(a - b)) ≤ 1000 := by omega
      have hq : 0 ≤ max (a - b) (-(a - b)) * max (a - b) (-(a - b)) ∧ max (a - b) (-(a - b)) * max (a - b) (-(a - b)) ≤ 1000000 := sq_bd (by omega)
      have ew : wrap64 (a - b) = a - b := wrap_id (by omega) (by omega)
      have ex : impl_abs.f (a - b) = some (max (a - b) (-(a - b))) := impl_abs_eq (a - b) (by omega) (by omega)
      simp only [gErr]
      generalize max (a - b) (-(a - b)) = m at hd hq ex ⊢
      refine Ev.next1 (impl_GradeErrors_l0 x y z t g r x' y' z' t' g' r' hn hl hv hv' us bs (j + 1) (e + m) (s + m * m) a3 b3 (by omega) (by omega)) fun k hk => ?_
      simp only [impl_GradeErrors.l0, ea, eb, ew, ex, Option.bind_some]
      rw [if_pos (by omega), if_pos (by omega), if_pos (by omega), if_pos (by omega), wrap_succ a1 (by omega), wrap_id (x := e + m) (by omega) (by omega), wrap_id (x := m * m) (by omega) (by omega), wrap_id (x := s + m * m) (by omega) (by omega)]
      exact hk
theorem impl_GradeErrors_ev (x y z : Int) (t g r : List Int) (x' y' z' : Int) (t' g' r' : List Int) (ht : t.length ≤ 1048576) (hg : g.length ≤ 1048576) (hr : r.length ≤ 1048576) (ht' : t'.length ≤ 1048576) (hg' : g'.length ≤ 1048576) (hr' : r'.length ≤ 1048576) : Ev (fun k => impl_GradeErrors.f k x y z t g r x' y' z' t' g' r') (gradeErrors x y z t g r x' y' z' t' g' r') := by
  have h0 := impl_areTwins_ev x y z t g r x' y' z' t' g' r' ht hg hr ht' hg' hr'
  by_cases h : modelOk x y z t g r = true ∧ modelOk x' y' z' t' g' r' = true ∧ x = x' ∧ y = y' ∧ z = z'
  · obtain ⟨_, l1, _, v1, _⟩ := model_ok h.1
    obtain ⟨_, l2, _, v2, _⟩ := model_ok h.2.1
    have hl : g'.length = g.length := by
      have e1 := l1.2.1; have e2 := l2.2.1
      rw [← h.2.2.1, ← h.2.2.2.1, ← h.2.2.2.2, ← e1] at e2; omega
    refine (ev_and h0 <| ev_one (impl_GradeErrors_l0 x y z t g r x' y' z' t' g' r' hg hl v1 v2 g g' 0 0 0 rfl rfl (by omega) (by omega))).ev fun k ⟨k1, k2⟩ => ?_
    simp only [impl_GradeErrors.f, k1, Option.bind_some]
    rw [if_pos (by simp only [h.1, h.2.1, Bool.true_and]; simp [h.2.2]), gradeErrors, if_pos h]; exact k2
  · refine (ev_one h0).ev fun k k1 => ?_
    simp only [impl_GradeErrors.f, k1, Option.bind_some]
    rw [if_neg (by simpa using h), gradeErrors, if_neg h]
theorem laws_pIn_l0 (l : List Int) (v : Int) (hn : l.length ≤ 4611686018427387904) : ∀ (ys : List Int) (i : Nat), l.drop i = ys → v ∈ ys → Ev (fun k => laws_pIn.l0 k v l (l.length : Int) i) true
  | [], i, h, hv => by cases hv
  | y :: ys, i, h, hv => by
      obtain ⟨h1, h2, h3⟩ := drop_cons h
      have e := rd_drop h
      by_cases c : y = v
      · refine Ev.next0 fun k => ?_
        simp only [laws_pIn.l0, e]
        rw [if_pos (by omega), if_pos (by omega), if_pos (by omega), if_pos c]
      · refine Ev.next1 (laws_pIn_l0 l v hn ys (i + 1) h3 (by rcases List.mem_cons.1 hv with q | q; exact absurd q.symm c; exact q)) fun k hk => ?_
        simp only [laws_pIn.l0, e]
        rw [if_pos (by omega), if_pos (by omega), if_pos (by omega), if_neg c, wrap_succ h1 (by omega)]
        exact hk
theorem laws_pIn_ev (l : List Int) (v : Int) (hn : l.length ≤ 4611686018427387904) (hv : v ∈ l) : Ev (fun k => laws_pIn.f k l v) true :=
  Ev.of1 (laws_pIn_l0 l v hn l 0 rfl hv) fun k hk => by
    simp only [laws_pIn.f]
    exact hk
theorem spec_DrawUpdateAll_some (l : List Int) (hl : ∀ x ∈ l, 0 ≤ x ∧ x ≤ 255) (hn : l.length ≤ 9223372036854775807) : ∃ x y z t g r v c, Ev (fun k => spec_DrawUpdateAll.f k l) (x, y, z, t, g, r, v, c) ∧ (t.length ≤ 120 ∧ g.length ≤ 120 ∧ r.length ≤ 121) ∧ v.length ≤ 100 := by
  obtain ⟨x, y, z, t, g, r, p, s, e, g1, b1, b2⟩ := spec_l1Cur_anyModel_some l hl hn 0 0 (by omega) (by omega)
  obtain ⟨v, p2, s2, e2, g2, b3⟩ := spec_l1Cur_holes_some l hl hn p s (by omega) (by omega) x y z
  obtain ⟨w, p3, s3, e3, b4⟩ := spec_l1Cur_among_some l hl hn p2 s2 (by omega) (by omega) [0, 1, 2, 5, 6, (-1)] (by simp)
  refine ⟨x, y, z, t, g, r, v, w, Ev.of2 e e2 fun k hk hk' => ?_, g1, g2⟩
  simp only [spec_DrawUpdateAll.f, hk, hk', e3, Option.bind_some]
theorem impl_copyModel_eq (x y z : Int) (t g r : List Int) (ht : t.length ≤ 1048576) (hg : g.length ≤ 1048576) (hr : r.length ≤ 1048576) : impl_copyModel.f x y z t g r = some (x, y, z, t, g, r) := by
  simp only [impl_copyModel.f, Option.bind_some, List.length_nil, List.nil_append]
  rw [if_pos (by omega), if_pos (by omega), if_pos (by omega)]
theorem est_bd {gx gy gz c : Int} (hg : gridOk gx gy gz = true) {i : Int} (hi : hasBlock gx gy gz i = true) : ∀ (l : List S68), holesOk gx gy gz l = true → (0 ≤ estW gx gy i c l ∧ estW gx gy i c l ≤ 60 * (l.length : Int)) ∧ (0 ≤ estG gx gy i c l ∧ estG gx gy i c l ≤ 60000 * (l.length : Int))
  | [], _ => by simp [estW, estG]
  | h :: hs, hl => by
    have ho := w_bd hg hi (holesOk_mem hl h (by simp))
    have ih := est_bd (c := c) hg hi hs (by simp only [holesOk, Bool.and_eq_true] at hl; exact hl.2)
    simp only [estW, estG, List.length_cons]
    by_cases d : stepsOf gx gy (holeAt gx gy h.f0 h.f1 h.f2) i ≤ c
    · rw [if_pos d, if_pos d]; push_cast; omega
    · rw [if_neg d, if_neg d]; push_cast; omega
def estF (x y : Int) (l : List S68) (c : Int) (i : Nat) : Int × Int × Bool := meanRes (estW x y (i : Int) c l) (estG x y (i : Int) c l)
-- needs: update_model est_bd
def updateAll (x y z : Int) (t g r : List Int) (l : List S68) (c : Int) : ModelR := if modelOk x y z t g r = true ∧ (l.length ≤ 40 ∧ holesOk x y z l = true) ∧ (0 ≤ c ∧ c ≤ 5) then (x, y, z, t, upd (estF x y l c) g, r, true) else (0, 0, 0, [], [], [], false)
-- needs: updateAll
theorem impl_UpdateAll_l0 (x y z : Int) (t g r : List Int) (l : List S68) (c : Int) (hm : modelOk x y z t g r = true) (hgn : g.length ≤ 1048576) (hn : l.length ≤ 1048576) (hl : holesOk x y z l = true) : ∀ (m i : Nat) (a : List Int), i + m = g.length → a.length = g.length → a.take i = (upd (estF x y l c) g).take i → a.drop i = g.drop i →
    Ev (fun k => impl_UpdateAll.l0 k l c (g.length : Int) i x y z t g r x y z t a r) (x, y, z, t, upd (estF x y l c) g, r, true)
  | 0, i, a, h, ha, hi, hd => Ev.next0 fun k => by
      have e : a = upd (estF x y l c) g := copy_end (by rw [ha, upd_length]) hi (by rw [upd_length]; omega)
      simp only [impl_UpdateAll.l0]
      rw [if_neg (by omega), e]
  | m + 1, i, a, h, ha, hi, hd => by
      obtain ⟨hgr, hlen, _⟩ := model_ok hm
      have ew := wrap_succ (i := i) (n := g.length) (by omega) (by omega)
      have hM := impl_estimateBlock_ev x y z (i : Int) c hgr (by simp only [hasBlock, hgr, Bool.true_and, decide_eq_true_eq]; omega) l hn hl
      have hs := est_bd (c := c) hgr (i := (i : Int)) (by simp only [hasBlock, hgr, Bool.true_and, decide_eq_true_eq]; omega) l hl
      have hu := upd_get (f := (estF x y l c)) (show i < g.length by omega)
      obtain ⟨c1, c2⟩ := copy_step hu (by rw [ha, upd_length]) hi
      rw [upd_length] at c1
      have b0 : (i : Int) < (g.length : Int) := by omega
      have b1 : 0 ≤ (i : Int) := by omega
      have b3 : (i : Int) < (a.length : Int) := by omega
      have c3 := drop_step (rnd ((estF x y l c) i) (rd g i)) hd
      have ih := impl_UpdateAll_l0 x y z t g r l c hm hgn hn hl m (i + 1) (a.set i (rnd ((estF x y l c) i) (rd g i))) (by omega) c1 c2 c3
      have hF : (estF x y l c) i = meanRes (estW x y (i : Int) c l) (estG x y (i : Int) c l) := rfl
      rw [← hF] at hM
      have hb0 := mean_bd hs.1.1 (by omega) hs.2.1 (by omega)
      rw [← hF] at hb0
      generalize (estF x y l c) i = p at hM hb0 ih
      obtain ⟨p1, p2, p3⟩ := p
      cases p3 with
      | true =>
        have hb := hb0 rfl
        simp only at hb
        have e : rnd (p1, p2, true) (rd g i) = (2 * p1 + p2) / (2 * p2) := by simp [rnd]
        rw [e] at ih
        refine Ev.next2 hM ih fun k k1 k2 => ?_
        simp only [impl_UpdateAll.l0, k1, Option.bind_some]
        rw [if_pos b0, if_pos (by simp), if_neg (by rw [wrap_id (by omega) (by omega)]; omega), if_pos b1, if_pos b3, ew, toNat_cast, round_eq hb.1 hb.2.1 hb.2.2.1 hb.2.2.2]
        exact k2
      | false =>
        have e : rnd (p1, p2, false) (rd g i) = rd g i := by simp [rnd]
        rw [e, set_same hd (by omega)] at ih
        refine Ev.next2 hM ih fun k k1 k2 => ?_
        simp only [impl_UpdateAll.l0, k1, Option.bind_some]
        rw [if_pos b0, if_neg (by simp), ew]
        exact k2
theorem impl_UpdateAll_no (x y z : Int) (t g r : List Int) (l : List S68) (c : Int) : Ev (fun k => impl_UpdateAll.j0 k l c true x y z t g r) (0, 0, 0, [], [], [], false) := Ev.next0 fun k => by simp [impl_UpdateAll.j0]
theorem impl_UpdateAll_ev (x y z : Int) (t g r : List Int) (ht : t.length ≤ 1048576) (hg : g.length ≤ 1048576) (hr : r.length ≤ 1048576) (l : List S68) (c : Int) (hn : l.length ≤ 1048576) : Ev (fun k => impl_UpdateAll.f k x y z t g r l c) (updateAll x y z t g r l c) := by
  have h0 := impl_IsModel_ev x y z t g r ht hg hr
  have hno := impl_UpdateAll_no x y z t g r l c
  by_cases h : modelOk x y z t g r = true
  · have hgr := (model_ok h).1
    have h2 := impl_areHoles_ev x y z hgr l (by omega)
    by_cases hh : l.length ≤ 40 ∧ holesOk x y z l = true
    · have et : (decide (l.length ≤ 40) && holesOk x y z l) = true := by simp [hh]
      by_cases hc : 0 ≤ c ∧ c ≤ 5
      · have ef : updateAll x y z t g r l c = (x, y, z, t, upd (estF x y l c) g, r, true) := by rw [updateAll, if_pos ⟨h, hh, hc⟩]
        have i1 : Ev (fun k => impl_UpdateAll.j0 k l c false x y z t g r) (x, y, z, t, upd (estF x y l c) g, r, true) := Ev.next1 (impl_UpdateAll_l0 x y z t g r l c h hg hn hh.2 g.length 0 g (by omega) rfl (by simp) rfl) fun k hk => by
          simp only [impl_UpdateAll.j0, impl_copyModel_eq x y z t g r ht hg hr, Option.bind_some]
          rw [if_neg (by simp)]; exact hk
        refine (ev_and h0 <| ev_and h2 <| ev_one i1).ev fun k ⟨k1, k2, k3⟩ => ?_
        simp only [impl_UpdateAll.f, k1, k2, Option.bind_some]
        rw [if_pos h, if_pos et, ef, if_neg (by omega), show decide (c > 5) = false by simp; omega]; exact k3
      · have ef : updateAll x y z t g r l c = (0, 0, 0, [], [], [], false) := by rw [updateAll, if_neg (fun w => hc w.2.2)]
        refine (ev_and h0 <| ev_and h2 <| ev_one hno).ev fun k ⟨k1, k2, k3⟩ => ?_
        simp only [impl_UpdateAll.f, k1, k2, Option.bind_some]
        rw [if_pos h, if_pos et, ef]
        by_cases h5 : c < 0
        · rw [if_pos h5]; exact k3
        · rw [if_neg h5, show decide (c > 5) = true by simp; omega]; exact k3
    · have et : (decide (l.length ≤ 40) && holesOk x y z l) = false := by simpa using hh
      have ef : updateAll x y z t g r l c = (0, 0, 0, [], [], [], false) := by rw [updateAll, if_neg (fun w => hh w.2.1)]
      refine (ev_and h0 <| ev_and h2 <| ev_one hno).ev fun k ⟨k1, k2, k3⟩ => ?_
      simp only [impl_UpdateAll.f, k1, k2, Option.bind_some]
      rw [if_pos h, if_neg (by rw [et]; simp), ef]; exact k3
  · have ef : updateAll x y z t g r l c = (0, 0, 0, [], [], [], false) := by rw [updateAll, if_neg (fun w => h w.1)]
    refine (ev_and h0 <| ev_one hno).ev fun k ⟨k1, k3⟩ => ?_
    simp only [impl_UpdateAll.f, k1, Option.bind_some]
    rw [if_neg h, ef]; exact k3
-- needs: updateAll
theorem spec_UpdateAll_l0 (x y z : Int) (t g r : List Int) (l : List S68) (c : Int) (hm : modelOk x y z t g r = true) (hgn : g.length ≤ 1048576) (hn : l.length ≤ 1048576) (hl : holesOk x y z l = true) : ∀ (m i : Nat) (a : List Int), i + m = g.length → a.length = g.length → a.take i = (upd (estF x y l c) g).take i → a.drop i = g.drop i →
    Ev (fun k => spec_UpdateAll.l0 k l c (g.length : Int) i x y z t g r x y z t a r) (x, y, z, t, upd (estF x y l c) g, r, true)
  | 0, i, a, h, ha, hi, hd => Ev.next0 fun k => by
      have e : a = upd (estF x y l c) g := copy_end (by rw [ha, upd_length]) hi (by rw [upd_length]; omega)
      simp only [spec_UpdateAll.l0]
      rw [if_neg (by omega), e]
  | m + 1, i, a, h, ha, hi, hd => by
      obtain ⟨hgr, hlen, _⟩ := model_ok hm
      have ew := wrap_succ (i := i) (n := g.length) (by omega) (by omega)
      have hM := spec_bhEstimate_ev x y z (i : Int) c hgr (by simp only [hasBlock, hgr, Bool.true_and, decide_eq_true_eq]; omega) l hn hl
      have hs := est_bd (c := c) hgr (i := (i : Int)) (by simp only [hasBlock, hgr, Bool.true_and, decide_eq_true_eq]; omega) l hl
      have hu := upd_get (f := (estF x y l c)) (show i < g.length by omega)
      obtain ⟨c1, c2⟩ := copy_step hu (by rw [ha, upd_length]) hi
      rw [upd_length] at c1
      have b0 : (i : Int) < (g.length : Int) := by omega
      have b1 : 0 ≤ (i : Int) := by omega
      have b3 : (i : Int) < (a.length : Int) := by omega
      have c3 := drop_step (rnd ((estF x y l c) i) (rd g i)) hd
      have ih := spec_UpdateAll_l0 x y z t g r l c hm hgn hn hl m (i + 1) (a.set i (rnd ((estF x y l c) i) (rd g i))) (by omega) c1 c2 c3
      have hF : (estF x y l c) i = meanRes (estW x y (i : Int) c l) (estG x y (i : Int) c l) := rfl
      rw [← hF] at hM
      have hb0 := mean_bd hs.1.1 (by omega) hs.2.1 (by omega)
      rw [← hF] at hb0
      generalize (estF x y l c) i = p at hM hb0 ih
      obtain ⟨p1, p2, p3⟩ := p
      cases p3 with
      | true =>
        have hb := hb0 rfl
        simp only at hb
        have e : rnd (p1, p2, true) (rd g i) = (2 * p1 + p2) / (2 * p2) := by simp [rnd]
        rw [e] at ih
        refine Ev.next2 hM ih fun k k1 k2 => ?_
        simp only [spec_UpdateAll.l0, k1, Option.bind_some]
        rw [if_pos b0, if_pos (by simp), spec_bhRound_eq hb.1 hb.2.1 hb.2.2.1 hb.2.2.2, Option.bind_some, if_pos b1, if_pos b3, ew, toNat_cast]
        exact k2
      | false =>
        have e : rnd (p1, p2, false) (rd g i) = rd g i := by simp [rnd]
        rw [e, set_same hd (by omega)] at ih
        refine Ev.next2 hM ih fun k k1 k2 => ?_
        simp only [spec_UpdateAll.l0, k1, Option.bind_some]
        rw [if_pos b0, if_neg (by simp), ew]
        exact k2
theorem spec_UpdateAll_no (x y z : Int) (t g r : List Int) (l : List S68) (c : Int) : Ev (fun k => spec_UpdateAll.j0 k l c true x y z t g r) (0, 0, 0, [], [], [], false) := Ev.next0 fun k => by simp [spec_UpdateAll.j0]
theorem spec_UpdateAll_ev (x y z : Int) (t g r : List Int) (ht : t.length ≤ 1048576) (hg : g.length ≤ 1048576) (hr : r.length ≤ 1048576) (l : List S68) (c : Int) (hn : l.length ≤ 1048576) : Ev (fun k => spec_UpdateAll.f k x y z t g r l c) (updateAll x y z t g r l c) := by
  have h0 := spec_moGood_ev x y z t g r ht hg hr
  have hno := spec_UpdateAll_no x y z t g r l c
  by_cases h : modelOk x y z t g r = true
  · have hgr := (model_ok h).1
    have h2 := spec_bhList_ev x y z hgr l (by omega)
    by_cases hh : l.length ≤ 40 ∧ holesOk x y z l = true
    · have et : (decide (l.length ≤ 40) && holesOk x y z l) = true := by simp [hh]
      by_cases hc : 0 ≤ c ∧ c ≤ 5
      · have ef : updateAll x y z t g r l c = (x, y, z, t, upd (estF x y l c) g, r, true) := by rw [updateAll, if_pos ⟨h, hh, hc⟩]
        have i1 : Ev (fun k => spec_UpdateAll.j0 k l c false x y z t g r) (x, y, z, t, upd (estF x y l c) g, r, true) := Ev.next1 (spec_UpdateAll_l0 x y z t g r l c h hg hn hh.2 g.length 0 g (by omega) rfl (by simp) rfl) fun k hk => by
          simp only [spec_UpdateAll.j0, spec_moOwn_eq x y z t g r ht hg hr, Option.bind_some]
          rw [if_neg (by simp)]; exact hk
        refine (ev_and h0 <| ev_and h2 <| ev_one i1).ev fun k ⟨k1, k2, k3⟩ => ?_
        simp only [spec_UpdateAll.f, spec_bhReach_eq, k1, k2, Option.bind_some]
        rw [if_pos h, if_pos et, ef, show (!decide (0 ≤ c ∧ c ≤ 5)) = false by simp [hc]]; exact k3
      · have ef : updateAll x y z t g r l c = (0, 0, 0, [], [], [], false) := by rw [updateAll, if_neg (fun w => hc w.2.2)]
        refine (ev_and h0 <| ev_and h2 <| ev_one hno).ev fun k ⟨k1, k2, k3⟩ => ?_
        simp only [spec_UpdateAll.f, spec_bhReach_eq, k1, k2, Option.bind_some]
        rw [if_pos h, if_pos et, ef]
        rw [show (!decide (0 ≤ c ∧ c ≤ 5)) = true by rw [decide_eq_false hc]; rfl]; exact k3
    · have et : (decide (l.length ≤ 40) && holesOk x y z l) = false := by simpa using hh
      have ef : updateAll x y z t g r l c = (0, 0, 0, [], [], [], false) := by rw [updateAll, if_neg (fun w => hh w.2.1)]
      refine (ev_and h0 <| ev_and h2 <| ev_one hno).ev fun k ⟨k1, k2, k3⟩ => ?_
      simp only [spec_UpdateAll.f, k1, k2, Option.bind_some]
      rw [if_pos h, if_neg (by rw [et]; simp), ef]; exact k3
  · have ef : updateAll x y z t g r l c = (0, 0, 0, [], [], [], false) := by rw [updateAll, if_neg (fun w => h w.1)]
    refine (ev_and h0 <| ev_one hno).ev fun k ⟨k1, k3⟩ => ?_
    simp only [spec_UpdateAll.f, k1, Option.bind_some]
    rw [if_neg h, ef]; exact k3
-- needs: sum_bd update_model
/-! What the laws on holes say of places, sums and means. -/
theorem mean_between {lo hi t tg : Int} (ht : 0 ≤ t) (htg : 0 ≤ tg) (h1 : lo * t ≤ tg) (h2 : tg ≤ hi * t) (h : (meanRes t tg).2.2 = true) : lo * (meanRes t tg).2.1 ≤ (meanRes t tg).1 ∧ (meanRes t tg).1 ≤ hi * (meanRes t tg).2.1 := by
  unfold meanRes at h ⊢
  by_cases hz : t = 0
  · rw [if_pos hz] at h; cases h
  · rw [if_neg hz]
    have p := low_bd (a := tg) (b := t) htg (by omega)
    generalize (Nat.gcd tg.natAbs t.natAbs : Int) = g at p
    simp only
    generalize (low tg t).1 = A at *
    generalize (low tg t).2 = B at *
    have g0 : 0 < g := by omega
    have e1 : tg = A * g := p.2.2.2.2.2.1
    have e2 : t = B * g := p.2.2.2.2.2.2
    rw [e1, e2, ← Int.mul_assoc] at h1 h2
    exact ⟨Int.le_of_mul_le_mul_right h1 g0, Int.le_of_mul_le_mul_right h2 g0⟩
theorem grades_in {gx gy gz : Int} {l : List S68} (hl : holesOk gx gy gz l = true) : ∀ h ∈ l, 0 ≤ h.f4 ∧ h.f4 ≤ 1000 := fun h hh => by
  have := holesOk_mem hl h hh
  simp only [holeOk, decide_eq_true_eq] at this
  omega
-- needs: hole_sums est_model est_bd kind_model spec_GradeErrors spec_ChangedBlocks
/-! What the law on estimates says of weights, kinds and errors. -/
theorem ests_between {gx gy gz i : Int} (hg : gridOk gx gy gz = true) (hi' : hasBlock gx gy gz i = true) (c lo hi : Int) : ∀ (l : List S68), holesOk gx gy gz l = true → (∀ h ∈ l, lo ≤ h.f4 ∧ h.f4 ≤ hi) → lo * estW gx gy i c l ≤ estG gx gy i c l ∧ estG gx gy i c l ≤ hi * estW gx gy i c l
  | [], _, _ => by simp [estW, estG]
  | h :: hs, hl, hb => by
    have ho := w_bd hg hi' (holesOk_mem hl h (by simp))
    have ih := ests_between hg hi' c lo hi hs (by simp only [holesOk, Bool.and_eq_true] at hl; exact hl.2) (fun y hy => hb y (by simp [hy]))
    have b := hb h (by simp)
    simp only [estW, estG]
    by_cases d : stepsOf gx gy (holeAt gx gy h.f0 h.f1 h.f2) i ≤ c
    · rw [if_pos d, if_pos d]
      have m1 : lo * wOf gx gy i h ≤ wOf gx gy i h * h.f4 := by rw [Int.mul_comm lo]; exact Int.mul_le_mul_of_nonneg_left b.1 ho.1.1
      have m2 : wOf gx gy i h * h.f4 ≤ hi * wOf gx gy i h := by rw [Int.mul_comm hi]; exact Int.mul_le_mul_of_nonneg_left b.2 ho.1.1
      rw [Int.mul_add, Int.mul_add]
      generalize wOf gx gy i h * h.f4 = A at *
      generalize lo * wOf gx gy i h = B at *
      generalize hi * wOf gx gy i h = C at *
      generalize estG gx gy i c hs = D at *
      generalize lo * estW gx gy i c hs = E at *
      generalize hi * estW gx gy i c hs = F at *
      clear ho b
      omega
    · rw [if_neg d, if_neg d, Int.zero_add, Int.zero_add]; exact ih
theorem round_ok {A B v : Int} (h0 : 0 ≤ A) (h1 : 1 ≤ B) (h2 : A ≤ 1000 * B) : 0 ≤ (2 * A + B) / (2 * B) ∧ (2 * A + B) / (2 * B) ≤ 1000 := by
  refine ⟨Int.ediv_nonneg (by omega) (by omega), ?_⟩
  have : (2 * A + B) / (2 * B) < 1001 := Int.ediv_lt_of_lt_mul (by omega) (by omega)
  omega
theorem upd_est {x y z : Int} {l : List S68} (hg : gridOk x y z = true) (hl : holesOk x y z l = true) (hn : l.length ≤ 40) (c : Int) {g : List Int} (gl : (g.length : Int) = x * y * z) (ga : allIn 0 1000 g = true) : allIn 0 1000 (upd (estF x y l c) g) = true := by
  refine allIn_of fun v hv => ?_
  simp only [upd, List.mem_map, List.mem_range] at hv
  obtain ⟨i, hi, rfl⟩ := hv
  have gi := allIn_get ga (List.getElem?_eq_getElem hi)
  have hb : hasBlock x y z (i : Int) = true := by
    simp only [hasBlock, Bool.and_eq_true, decide_eq_true_eq]
    exact ⟨hg, by omega, by rw [← gl]; omega⟩
  unfold rnd
  by_cases d : (estF x y l c i).2.2 = true
  · rw [if_pos d]
    have sb := est_bd (c := c) hg hb l hl
    have q1 := mean_bd sb.1.1 (by omega) sb.2.1 (by omega) d
    have sw := ests_between hg hb c 0 1000 l hl (fun h hh => grades_in hl h hh)
    have q2 := mean_between (lo := 0) (hi := 1000) sb.1.1 sb.2.1 sw.1 sw.2 d
    exact round_ok (v := 0) q1.1 q1.2.2.1 q2.2
  · rw [if_neg d, rd_get (List.getElem?_eq_getElem hi)]; exact gi
theorem kch_swap (c : Int) (g g' : List Int) : ∀ (m i : Nat) (u d : List Int), kch c g' g m i d u = ((kch c g g' m i u d).2, (kch c g g' m i u d).1)
  | 0, i, u, d => rfl
  | m + 1, i, u, d => by
    simp only [kch]
    rw [kch_swap c g g' m (i + 1) (if rd g i < c ∧ c ≤ rd g' i then u ++ [(i : Int)] else u) (if c ≤ rd g i ∧ rd g' i < c then d ++ [(i : Int)] else d) |>.symm]
    simp only [and_comm]
theorem kch_mem (c : Int) (g g' : List Int) : ∀ (m i : Nat) (u d : List Int) (v : Int), v ∈ (kch c g g' m i u d).1 → v ∈ u ∨ ∃ j : Nat, v = (j : Int) ∧ i ≤ j ∧ j < i + m ∧ rd g j < c ∧ c ≤ rd g' j
  | 0, i, u, d, v, h => .inl h
  | m + 1, i, u, d, v, h => by
    simp only [kch] at h
    rcases kch_mem c g g' m (i + 1) _ _ v h with h | ⟨j, e, h1, h2, h3⟩
    · by_cases q : rd g i < c ∧ c ≤ rd g' i
      · rw [if_pos q, List.mem_append] at h
        rcases h with h | h
        · exact .inl h
        · exact .inr ⟨i, by simpa using h, by omega, by omega, q⟩
      · rw [if_neg q] at h; exact .inl h
    · exact .inr ⟨j, e, by omega, by omega, h3⟩
theorem chg_sub (t g r t' g' r' : List Int) : ∀ (m i : Nat) (o : List Int) (v : Int), v ∈ o → v ∈ chg t g r t' g' r' m i o
  | 0, i, o, v, h => h
  | m + 1, i, o, v, h => by
    simp only [chg]
    refine chg_sub t g r t' g' r' m (i + 1) _ v ?_
    split
    · exact h
    · exact List.mem_append_left _ h
theorem chg_has (t g r t' g' r' : List Int) : ∀ (m i : Nat) (o : List Int) (j : Nat), i ≤ j → j < i + m → ¬ (rd t j = rd t' j ∧ rd g j = rd g' j ∧ rd r j = rd r' j) → (j : Int) ∈ chg t g r t' g' r' m i o
  | 0, i, o, j, h1, h2, _ => by omega
  | m + 1, i, o, j, h1, h2, h3 => by
    simp only [chg]
    by_cases e : j = i
    · subst e
      refine chg_sub t g r t' g' r' m (j + 1) _ _ ?_
      rw [if_neg h3]; simp
    · exact chg_has t g r t' g' r' m (i + 1) _ j (by omega) (by omega) h3
theorem gErr_bd : ∀ (us bs : List Int) (e s : Int), allIn 0 1000 us = true → allIn 0 1000 bs = true → 0 ≤ e → e ≤ s → s ≤ 1000 * e → (0 ≤ (gErr us bs e s).1 ∧ (gErr us bs e s).1 ≤ (gErr us bs e s).2 ∧ (gErr us bs e s).2 ≤ 1000 * (gErr us bs e s).1) ∧ (gErr us bs e s).1 ≤ e + 1000 * (us.length : Int)
  | [], bs, e, s, _, _, h0, h1, h2 => by simp [gErr]; omega
  | a :: us, [], e, s, _, _, h0, h1, h2 => by simp [gErr]; omega
  | a :: us, b :: bs, e, s, ha, hb, h0, h1, h2 => by
    simp only [allIn, Bool.and_eq_true, decide_eq_true_eq] at ha hb
    have m : 0 ≤ max (a - b) (-(a - b)) ∧ max (a - b) (-(a - b)) ≤ 1000 := by omega
    simp only [gErr]
    generalize max (a - b) (-(a - b)) = d at m ⊢
    have d1 : d ≤ d * d := by
      rcases (by omega : d = 0 ∨ 1 ≤ d) with h | h
      · subst h; simp
      · have := Int.mul_le_mul_of_nonneg_left h m.1; omega
    have d2 : d * d ≤ 1000 * d := Int.mul_le_mul_of_nonneg_right m.2 m.1
    have ih := gErr_bd us bs (e + d) (s + d * d) ha.2 hb.2 (by omega) (by omega) (by omega)
    refine ⟨ih.1, ?_⟩
    have := ih.2
    simp only [List.length_cons]; push_cast; omega
-- needs: est_props laws_big updateModel updateAll
section
variable (l1 : List Int)
theorem laws_j6 (H : ∀ x ∈ l1, 0 ≤ x ∧ x ≤ 255) (hn1 : l1.length ≤ 9223372036854775807) : Ev (fun k => laws_FnEstimates.j6 k l1) true := by
  obtain ⟨x, y, z, t, g, r, hs, c, e, m1, m2⟩ := spec_DrawUpdateAll_some l1 H hn1
  obtain ⟨vx, vy, vz, vt, vg, vr, wx, wy, wz, wt, wg, wr, d, n1, n2⟩ := spec_DrawChangedBlocks_some l1 H hn1
  have u1 := impl_UpdateAll_ev x y z t g r (by omega) (by omega) (by omega) hs c (by omega)
  have u2 := spec_UpdateAll_ev x y z t g r (by omega) (by omega) (by omega) hs c (by omega)
  have c1 := impl_ChangedBlocks_ev vx vy vz vt vg vr wx wy wz wt wg wr (by omega) (by omega) (by omega) (by omega) (by omega) (by omega)
  have c2 := spec_ChangedBlocks_ev vx vy vz vt vg vr wx wy wz wt wg wr (by omega) (by omega) (by omega) (by omega) (by omega) (by omega)
  have cl := changed_len vx vy vz vt vg vr wx wy wz wt wg wr (by omega) (by omega) (by omega) (by omega) (by omega) (by omega)
  generalize changed vx vy vz vt vg vr wx wy wz wt wg wr = C at *
  by_cases h : modelOk x y z t g r = true ∧ (hs.length ≤ 40 ∧ holesOk x y z hs = true) ∧ (0 ≤ c ∧ c ≤ 5)
  · rw [updateAll, if_pos h] at u1 u2
    obtain ⟨gb, ll, a1, a2, _⟩ := model_ok h.1
    have ul := upd_length (estF x y hs c) g
    have uo : modelOk x y z t (upd (estF x y hs c) g) r = true := by
      have := h.1
      simp only [modelOk, Bool.and_eq_true, decide_eq_true_eq] at this ⊢
      exact ⟨⟨this.1.1, by rw [ul]; exact this.1.2⟩, this.2.1, upd_est gb h.2.1.2 h.2.1.1 c ll.2.1 a2, this.2.2.2⟩
    have m := impl_IsModel_ev x y z t (upd (estF x y hs c) g) r (by omega) (by omega) (by omega)
    rw [uo] at m
    refine (ev_and e <| ev_and d <| ev_and u1 <| ev_and u2 <| ev_and c1 <| ev_and c2 <| ev_and (laws_pSameModel_ev x y z t (upd (estF x y hs c) g) r (by omega) (by omega) (by omega)) <| ev_and m <| ev_one (laws_sameInts_ev C.1 (by omega))).next fun k ⟨k1, k2, k3, k4, k5, k6, k7, k8, k9⟩ => ?_
    simp only [laws_FnEstimates.j6, k1, k2, k3, k4, k5, k6, k7, k8, k9, Option.bind_some]
    simp
  · rw [updateAll, if_neg h] at u1 u2
    refine (ev_and e <| ev_and d <| ev_and u1 <| ev_and u2 <| ev_and c1 <| ev_and c2 <| ev_and (laws_pSameModel_ev 0 0 0 [] [] [] (by simp) (by simp) (by simp)) <| ev_one (laws_sameInts_ev C.1 (by omega))).next fun k ⟨k1, k2, k3, k4, k5, k6, k7, k9⟩ => ?_
    simp only [laws_FnEstimates.j6, k1, k2, k3, k4, k5, k6, k7, k9, Option.bind_some]
    simp
theorem laws_l1 (J6 : Ev (fun k => laws_FnEstimates.j6 k l1) true) (C U : List Int) (hC : C.length ≤ 1048576) (hU : U.length ≤ 1048576) (h : ∀ v ∈ U, v ∈ C) : ∀ (ys : List Int) (i : Nat), U.drop i = ys → Ev (fun k => laws_FnEstimates.l1 k l1 C U (U.length : Int) (i : Int)) true
  | [], i, hd => by
    have h0 := drop_nil hd
    refine Ev.next1 J6 fun k hk => ?_
    simp only [laws_FnEstimates.l1]
    rw [if_neg (by omega)]
    exact hk
  | v :: ys, i, hd => by
    obtain ⟨h1, h2, h3⟩ := drop_cons hd
    have e := rd_drop hd
    refine (ev_and (laws_pIn_ev C v (by omega) (h v (List.mem_of_getElem? h2))) <| ev_one (laws_l1 J6 C U hC hU h ys (i + 1) h3)).next fun k ⟨k1, k2⟩ => ?_
    simp only [laws_FnEstimates.l1, e, k1, Option.bind_some]
    rw [if_pos (by omega), if_pos (by omega), if_pos (by omega), if_pos trivial, wrap_succ h1 (by omega)]
    exact k2
theorem laws_j3 (J6 : Ev (fun k => laws_FnEstimates.j6 k l1) true) (x y z : Int) (t g r : List Int) (x' y' z' : Int) (t' g' r' : List Int) (ht : t.length ≤ 1048576) (hg : g.length ≤ 1048576) (hr : r.length ≤ 1048576) (ht' : t'.length ≤ 1048576) (hg' : g'.length ≤ 1048576) (hr' : r'.length ≤ 1048576) (c : Int) :
    Ev (fun k => laws_FnEstimates.j3 k l1 c (kindChanges x y z t g r x' y' z' t' g' r' c).2.2 (kindChanges x y z t g r x' y' z' t' g' r' c).1 (kindChanges x y z t g r x' y' z' t' g' r' c).2.1 (gradeErrors x y z t g r x' y' z' t' g' r').1 (gradeErrors x y z t g r x' y' z' t' g' r').2.1 false x y z t g r x' y' z' t' g' r') true := by
  by_cases h : (modelOk x y z t g r = true ∧ modelOk x' y' z' t' g' r' = true ∧ x = x' ∧ y = y' ∧ z = z') ∧ (0 ≤ c ∧ c ≤ 1001)
  · rw [kindChanges, if_pos h, gradeErrors, if_pos h.1]
    obtain ⟨_, ll, a1, a2, _⟩ := model_ok h.1.1
    obtain ⟨gb, _, _, b2, _⟩ := model_ok h.1.2.1
    have gl := two_g h.1
    have g1 := (grid_ok (model_ok h.1.1).1).2.2.2.2.2
    have c1 := impl_ChangedBlocks_ev x y z t g r x' y' z' t' g' r' ht hg hr ht' hg' hr'
    rw [changed, if_pos h.1] at c1
    have k1 := impl_KindChanges_ev x' y' z' t' g' r' x y z t g r ht' hg' hr' ht hg hr c
    rw [kindChanges, if_pos ⟨⟨h.1.2.1, h.1.1, h.1.2.2.1.symm, h.1.2.2.2.1.symm, h.1.2.2.2.2.symm⟩, h.2⟩, gl, kch_swap c g g' g.length 0 [] []] at k1
    have kl := kch_len c g g' g.length 0 [] []
    have km := kch_mem c g g' g.length 0 [] []
    have cl := chg_len t g r t' g' r' t.length 0 []
    have ch := chg_has t g r t' g' r' t.length 0 []
    have ge := gErr_bd g g' 0 0 a2 b2 (by omega) (by omega) (by omega)
    generalize kch c g g' g.length 0 [] [] = K at *
    generalize chg t g r t' g' r' t.length 0 [] = C at *
    generalize gErr g g' 0 0 = E at *
    simp only [List.length_nil] at kl cl
    have sub : ∀ v ∈ K.1, v ∈ C := fun v hv => by
      rcases km v hv with q | ⟨j, rfl, _, jl, j1, j2⟩
      · cases q
      · exact ch j (by omega) (by have := ll.1; have := ll.2.1; omega) (fun q => by have := q.2.1; omega)
    have L := laws_l1 l1 J6 C K.1 (by omega) (by omega) sub K.1 0 rfl
    have J4 : Ev (fun k => laws_FnEstimates.j4 k l1 K.1 C false) true := Ev.next1 L fun k hk => by
      simp only [laws_FnEstimates.j4]
      rw [if_neg (by simp)]
      exact hk
    have lenE : E.1 ≤ 1000 * 120 := by have := ge.2; have := ll.2.1; omega
    refine (ev_and c1 <| ev_and k1 <| ev_and (laws_sameInts_ev K.1 (by omega)) <| ev_and (laws_sameInts_ev K.2 (by omega)) <| ev_one J4).next fun k ⟨e1, e2, e3, e4, e5⟩ => ?_
    simp only [laws_FnEstimates.j3, e1, e2, e3, e4, Option.bind_some]
    rw [if_neg (by simp), if_pos trivial, if_pos trivial, if_pos trivial, if_pos trivial, if_pos trivial, if_neg (by omega), wrap_id (x := E.1 * 1000) (by omega) (by omega), decide_eq_false (by omega)]
    exact e5
  · rw [kindChanges, if_neg h]
    refine Ev.next1 J6 fun k hk => ?_
    simp only [laws_FnEstimates.j3]
    rw [if_neg (by simp), if_neg (by simp)]
    exact hk
theorem laws_j2 (H : ∀ x ∈ l1, 0 ≤ x ∧ x ≤ 255) (hn1 : l1.length ≤ 9223372036854775807) : Ev (fun k => laws_FnEstimates.j2 k l1) true := by
  obtain ⟨gx, gy, gz, hs, i, d1, m1⟩ := spec_DrawNearestHole_some l1 H hn1
  obtain ⟨x, y, z, t, g, r, x', y', z', t', g', r', c, d2, n1, n2⟩ := spec_DrawKindChanges_some l1 H hn1
  have h1 := impl_NearestHole_ev gx gy gz i hs (by omega)
  have h2 := spec_NearestHole_ev gx gy gz i hs (by omega)
  have k1 := impl_KindChanges_ev x y z t g r x' y' z' t' g' r' (by omega) (by omega) (by omega) (by omega) (by omega) (by omega) c
  have k2 := spec_KindChanges_ev x y z t g r x' y' z' t' g' r' (by omega) (by omega) (by omega) (by omega) (by omega) (by omega) c
  have g1 := impl_GradeErrors_ev x y z t g r x' y' z' t' g' r' (by omega) (by omega) (by omega) (by omega) (by omega) (by omega)
  have g2 := spec_GradeErrors_ev x y z t g r x' y' z' t' g' r' (by omega) (by omega) (by omega) (by omega) (by omega) (by omega)
  have kl := kindChanges_len x y z t g r x' y' z' t' g' r' (by omega) (by omega) (by omega) (by omega) (by omega) (by omega) c
  have J3 := laws_j3 l1 (laws_j6 l1 H hn1) x y z t g r x' y' z' t' g' r' (by omega) (by omega) (by omega) (by omega) (by omega) (by omega) c
  generalize nearestOf gx gy gz i hs = N at *
  generalize kindChanges x y z t g r x' y' z' t' g' r' c = K at *
  generalize gradeErrors x y z t g r x' y' z' t' g' r' = G at *
  refine (ev_and d1 <| ev_and h1 <| ev_and h2 <| ev_and d2 <| ev_and k1 <| ev_and k2 <| ev_and g1 <| ev_and g2 <| ev_and (laws_sameInts_ev K.1 (by omega)) <| ev_and (laws_sameInts_ev K.2.1 (by omega)) <| ev_one J3).next fun k ⟨a1, a2, a3, a4, a5, a6, a7, a8, a9, a10, a11⟩ => ?_
  simp only [laws_FnEstimates.j2, a1, a2, a3, a4, a5, a6, a7, a8, a9, a10, Option.bind_some]
  rw [if_neg (by simp), if_pos trivial, if_neg (by simp), if_pos trivial, if_pos trivial, if_neg (by simp), if_pos trivial, bne_self_eq_false]
  exact a11
theorem laws_last (J2 : Ev (fun k => laws_FnEstimates.j2 k l1) true) (hs : List S68) (num den lo hi : Int) (j : Nat) (h0 : hs.length ≤ j) (h1 : 0 ≤ lo ∧ lo ≤ 1000) (h2 : 0 ≤ hi ∧ hi ≤ 1000) (q : 1 ≤ den ∧ den ≤ 1000000000 ∧ lo * den ≤ num ∧ num ≤ hi * den) :
    Ev (fun k => laws_FnEstimates.l0 k l1 num den lo hi hs (hs.length : Int) (j : Int)) true := by
  refine Ev.next1 J2 fun k hk => ?_
  have p1 : 0 ≤ lo * den := Int.mul_nonneg h1.1 (by omega)
  have p2 : lo * den ≤ 1000 * den := Int.mul_le_mul_of_nonneg_right h1.2 (by omega)
  have p3 : 0 ≤ hi * den := Int.mul_nonneg h2.1 (by omega)
  have p4 : hi * den ≤ 1000 * den := Int.mul_le_mul_of_nonneg_right h2.2 (by omega)
  simp only [laws_FnEstimates.l0]
  rw [if_neg (by omega), if_neg (by omega), wrap_id (x := lo * den) (by omega) (by omega), wrap_id (x := hi * den) (by omega) (by omega), if_neg (by omega), if_neg (by omega)]
  exact hk
theorem laws_l0 (J2 : Ev (fun k => laws_FnEstimates.j2 k l1) true) (hs : List S68) (num den : Int) (hn : hs.length ≤ 100) (ho : ∀ h ∈ hs, 0 ≤ h.f4 ∧ h.f4 ≤ 1000)
    (hb : ∀ lo hi : Int, (∀ h ∈ hs, lo ≤ h.f4 ∧ h.f4 ≤ hi) → 1 ≤ den ∧ den ≤ 1000000000 ∧ lo * den ≤ num ∧ num ≤ hi * den) (ys : List S68) : ∀ (j : Nat) (lo hi : Int), hs.drop j = ys → (0 ≤ lo ∧ lo ≤ 1000) → (0 ≤ hi ∧ hi ≤ 1000) →
      (∀ h ∈ hs.take j, lo ≤ h.f4 ∧ h.f4 ≤ hi) → Ev (fun k => laws_FnEstimates.l0 k l1 num den lo hi hs (hs.length : Int) (j : Int)) true := by
  induction ys with
  | nil =>
    intro j lo hi h h1 h2 h3
    have h0 := drop_nil h
    rw [List.take_of_length_le h0] at h3
    exact laws_last l1 J2 hs num den lo hi j h0 h1 h2 (hb lo hi h3)
  | cons y ys ih =>
    intro j lo hi h h1 h2 h3
    obtain ⟨d1, d2, d3⟩ := drop_cons h
    have ry : rd_T68 hs (j : Int) = y := getD_drop h
    have gy := ho y (List.mem_of_getElem? d2)
    have lt : (j : Int) < (hs.length : Int) := by omega
    have j0 : 0 ≤ (j : Int) := by omega
    have tk : ∀ lo' hi' : Int, lo' ≤ lo → hi ≤ hi' → lo' ≤ y.f4 → y.f4 ≤ hi' → ∀ w ∈ hs.take (j + 1), lo' ≤ w.f4 ∧ w.f4 ≤ hi' := fun lo' hi' q1 q2 q3 q4 w hw => by
      rw [List.take_add_one, d2, List.mem_append] at hw
      rcases hw with hw | hw
      · have := h3 w hw; omega
      · obtain rfl : w = y := by simpa using hw
        exact ⟨q3, q4⟩
    by_cases c1 : y.f4 < lo
    · by_cases c2 : y.f4 > hi
      · refine Ev.next1 (ih (j + 1) y.f4 y.f4 d3 gy gy (tk _ _ (by omega) (by omega) (by omega) (by omega))) fun k hk => ?_
        simp only [laws_FnEstimates.l0, ry]
        rw [if_pos lt, if_pos j0, if_pos lt, if_pos c1, if_pos c2, wrap_succ d1 (by omega)]
        exact hk
      · refine Ev.next1 (ih (j + 1) y.f4 hi d3 gy h2 (tk _ _ (by omega) (by omega) (by omega) (by omega))) fun k hk => ?_
        simp only [laws_FnEstimates.l0, ry]
        rw [if_pos lt, if_pos j0, if_pos lt, if_pos c1, if_neg c2, wrap_succ d1 (by omega)]
        exact hk
    · by_cases c2 : y.f4 > hi
      · refine Ev.next1 (ih (j + 1) lo y.f4 d3 h1 gy (tk _ _ (by omega) (by omega) (by omega) (by omega))) fun k hk => ?_
        simp only [laws_FnEstimates.l0, ry]
        rw [if_pos lt, if_pos j0, if_pos lt, if_neg c1, if_pos c2, wrap_succ d1 (by omega)]
        exact hk
      · refine Ev.next1 (ih (j + 1) lo hi d3 h1 h2 (tk _ _ (by omega) (by omega) (by omega) (by omega))) fun k hk => ?_
        simp only [laws_FnEstimates.l0, ry]
        rw [if_pos lt, if_pos j0, if_pos lt, if_neg c1, if_neg c2, wrap_succ d1 (by omega)]
        exact hk
theorem laws_j0 (J2 : Ev (fun k => laws_FnEstimates.j2 k l1) true) (gx gy gz : Int) (hs : List S68) (i c : Int) (hn : hs.length ≤ 100) :
    Ev (fun k => laws_FnEstimates.j0 k l1 hs (estBlock gx gy gz i c hs).2.2 (estBlock gx gy gz i c hs).1 (estBlock gx gy gz i c hs).2.1 false) true := by
  have no : ∀ a b, Ev (fun k => laws_FnEstimates.j0 k l1 hs false a b false) true := fun a b => Ev.next1 J2 fun k hk => by
    simp only [laws_FnEstimates.j0]
    rw [if_neg (by simp), if_neg (by simp)]
    exact hk
  unfold estBlock
  by_cases h : hasBlock gx gy gz i = true ∧ (hs.length ≤ 40 ∧ holesOk gx gy gz hs = true) ∧ (0 ≤ c ∧ c ≤ 5)
  · rw [if_pos h]
    have hg : gridOk gx gy gz = true := by have h1 := h.1; simp only [hasBlock, Bool.and_eq_true] at h1; exact h1.1
    have sb := est_bd (c := c) hg h.1 hs h.2.1.2
    by_cases d : (meanRes (estW gx gy i c hs) (estG gx gy i c hs)).2.2 = true
    · have q1 := mean_bd sb.1.1 (by omega) sb.2.1 (by omega) d
      have q3 : (meanRes (estW gx gy i c hs) (estG gx gy i c hs)).2.1 ≤ estW gx gy i c hs := by
        unfold meanRes at d ⊢
        by_cases hz : estW gx gy i c hs = 0
        · rw [if_pos hz] at d; cases d
        · rw [if_neg hz]
          exact (low_bd sb.2.1 (by omega)).2.2.2.2.1
      have L := laws_l0 l1 J2 hs (meanRes (estW gx gy i c hs) (estG gx gy i c hs)).1 (meanRes (estW gx gy i c hs) (estG gx gy i c hs)).2.1 hn (grades_in h.2.1.2) (fun lo hi hb => by
        have sw := ests_between hg h.1 c lo hi hs h.2.1.2 hb
        have q2 := mean_between sb.1.1 sb.2.1 sw.1 sw.2 d
        exact ⟨q1.2.2.1, by omega, q2.1, q2.2⟩) hs 0 1000 0 rfl (by omega) (by omega) (fun v hv => by simp at hv)
      refine Ev.next1 L fun k hk => ?_
      simp only [laws_FnEstimates.j0]
      rw [if_neg (by simp), if_pos d]
      exact hk
    · rw [Bool.of_not_eq_true d]; exact no _ _
  · rw [if_neg h]; exact no _ _
end
theorem FnEstimates : Stat.FnEstimates := by
  intro l0 l1 h0 h1
  refine Ev.rounds ?_
  obtain ⟨b, hb⟩ := laws_big_eq l0 l1
  by_cases hg : b = true
  · refine Ev.all fun k => ?_
    simp only [laws_FnEstimates.f, hb, Option.bind_some]
    rw [if_pos hg]
  have H0 : ∀ x ∈ l0, 0 ≤ x ∧ x ≤ 255 := fun x hx => wf_u8 (h0.2 x hx)
  have H1 : ∀ x ∈ l1, 0 ≤ x ∧ x ≤ 255 := fun x hx => wf_u8 (h1.2 x hx)
  obtain ⟨gx, gy, gz, hs, i, c, e, hn⟩ := spec_DrawEstimateBlock_some l0 H0 h0.1
  have m1 := impl_EstimateBlock_ev gx gy gz i c hs (by omega)
  have m2 := spec_EstimateBlock_ev gx gy gz i c hs (by omega)
  have J0 := laws_j0 l1 (laws_j2 l1 H1 h1.1) gx gy gz hs i c hn
  generalize estBlock gx gy gz i c hs = M at *
  refine (ev_and e <| ev_and m1 <| ev_and m2 <| ev_one J0).ev fun k ⟨k1, k2, k3, k4⟩ => ?_
  simp only [laws_FnEstimates.f, hb, k1, k2, k3, Option.bind_some]
  rw [if_neg hg, if_neg (by simp), if_pos trivial, bne_self_eq_false]
  exact k4
end Go.Proofs.Ytfakhgopbhnocaa.PureFnEstimates
namespace Go.Proofs.Ytfakhgopbhnocaa.Pure
theorem FnEstimates : Stat.FnEstimates := PureFnEstimates.FnEstimates
end Go.Proofs.Ytfakhgopbhnocaa.Pure
