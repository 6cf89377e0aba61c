/- The law FnExactUpdateAll over numbers and lists: it is true of every input. -/
import Derived.Test.YtagnldmaglbpaaaStatFnExactUpdateAll
import Derived.Test.YtagnldmaglbpaaaWMore
set_option linter.unusedVariables false
set_option linter.unusedSimpArgs false
namespace Go.Proofs.Ytagnldmaglbpaaa.Kit
open Go.RowKit Go.Proofs.YtagnldmaglbpaaaW.PrintWords Go.Proofs.YtagnldmaglbpaaaW.PrintMore

/-! ### Rounds -/
theorem Ev.all {α : Type} {g : Nat → Option α} {r : α} (h : ∀ k, g k = some r) : Ev g r := ⟨0, fun k _ => h k⟩
theorem Ev.of1 {α β : Type} {g : Nat → Option α} {f : Nat → Option β} {r : α} {b : β} (h : Ev f b) (k : ∀ k, f k = some b → g k = some r) : Ev g r := by
  obtain ⟨K, h⟩ := h; exact ⟨K, fun n hn => k n (h n hn)⟩
theorem Ev.next0 {α : Type} {g : Nat → Option α} {r : α} (h : ∀ k, g (k + 1) = some r) : Ev g r :=
  ⟨1, fun n hn => by obtain ⟨m, rfl⟩ : ∃ m, n = m + 1 := ⟨n - 1, by omega⟩; exact h m⟩
theorem Ev.next1 {α β : Type} {g : Nat → Option α} {f : Nat → Option β} {r : α} {b : β} (h : Ev f b) (k : ∀ k, f k = some b → g (k + 1) = some r) : Ev g r := by
  obtain ⟨K, h⟩ := h
  exact ⟨K + 1, fun n hn => by obtain ⟨m, rfl⟩ : ∃ m, n = m + 1 := ⟨n - 1, by omega⟩; exact k m (h m (by omega))⟩
theorem Ev.next2 {α β γ : Type} {g : Nat → Option α} {f : Nat → Option β} {f' : Nat → Option γ} {r : α} {b : β} {c : γ} (h : Ev f b) (h' : Ev f' c) (k : ∀ k, f k = some b → f' k = some c → g (k + 1) = some r) : Ev g r := by
  obtain ⟨K, h⟩ := h; obtain ⟨K', h'⟩ := h'
  exact ⟨K + K' + 1, fun n hn => by obtain ⟨m, rfl⟩ : ∃ m, n = m + 1 := ⟨n - 1, by omega⟩; exact k m (h m (by omega)) (h' m (by omega))⟩
/-- From some number of rounds on. -/
def Evt (p : Nat → Prop) : Prop := ∃ K, ∀ k, K ≤ k → p k
theorem ev_one {α : Type} {f : Nat → Option α} {a : α} (h : Ev f a) : Evt (fun k => f k = some a) := h
theorem ev_and {α : Type} {f : Nat → Option α} {a : α} {p : Nat → Prop} (h : Ev f a) (h' : Evt p) : Evt (fun k => f k = some a ∧ p k) := by
  obtain ⟨K, h⟩ := h; obtain ⟨K', h'⟩ := h'; exact ⟨K + K', fun n hn => ⟨h n (by omega), h' n (by omega)⟩⟩
theorem Evt.ev {α : Type} {g : Nat → Option α} {r : α} {p : Nat → Prop} (h : Evt p) (k : ∀ k, p k → g k = some r) : Ev g r := by
  obtain ⟨K, h⟩ := h; exact ⟨K, fun n hn => k n (h n hn)⟩
theorem Evt.next {α : Type} {g : Nat → Option α} {r : α} {p : Nat → Prop} (h : Evt p) (k : ∀ k, p k → g (k + 1) = some r) : Ev g r := by
  obtain ⟨K, h⟩ := h
  exact ⟨K + 1, fun n hn => by obtain ⟨m, rfl⟩ : ∃ m, n = m + 1 := ⟨n - 1, by omega⟩; exact k m (h m (by omega))⟩

/-! ### Whole numbers -/
theorem wrap_id {x : Int} (h0 : -9223372036854775808 ≤ x) (h1 : x ≤ 9223372036854775807) : wrap64 x = x := by unfold wrap64; omega
theorem wrap_succ {i n : Nat} (h : i < n) (hn : n ≤ 9223372036854775807) : wrap64 ((i : Int) + 1) = ((i + 1 : Nat) : Int) := by unfold wrap64; omega
theorem toNat_cast (i : Nat) : ((i : Int)).toNat = i := by omega

theorem mx_eq (a b : Int) : mx a b = max a b := by unfold mx; split <;> omega
/-! ### Lists from an index on -/
theorem drop_cons {α : Type} {xs ys : List α} {y : α} {i : Nat} (h : xs.drop i = y :: ys) : i < xs.length ∧ xs[i]? = some y ∧ xs.drop (i + 1) = ys := by
  have hlt : i < xs.length := by
    by_cases hlt : i < xs.length
    · exact hlt
    · rw [List.drop_of_length_le (by omega)] at h; cases h
  rw [List.drop_eq_getElem_cons hlt] at h
  injection h with h1 h2
  exact ⟨hlt, by rw [List.getElem?_eq_getElem hlt, h1], h2⟩
theorem drop_nil {α : Type} {xs : List α} {i : Nat} (h : xs.drop i = []) : xs.length ≤ i := by simpa using h
theorem getD_drop {α : Type} {xs ys : List α} {y d : α} {i : Nat} (h : xs.drop i = y :: ys) : xs.getD ((i : Int)).toNat d = y := by
  rw [toNat_cast, List.getD_eq_getElem?_getD, (drop_cons h).2.1]; rfl
theorem rd_drop {xs ys : List Int} {y : Int} {i : Nat} (h : xs.drop i = y :: ys) : rd xs (i : Int) = y := getD_drop h
theorem getD_get {α : Type} {xs : List α} {y d : α} {i : Nat} (h : xs[i]? = some y) : xs.getD ((i : Int)).toNat d = y := by
  rw [toNat_cast, List.getD_eq_getElem?_getD, h]; rfl
theorem rd_get {xs : List Int} {y : Int} {i : Nat} (h : xs[i]? = some y) : rd xs (i : Int) = y := getD_get h
/-- What is left of a, n taken off; -1 if it isn't enough. -/
def left (a : Int) (n : Nat) : Int := if a < (n : Int) then -1 else a - (n : Int)
theorem left_lt {a : Int} {n : Nat} (h : a < (n : Int)) : left a n = -1 := if_pos h
theorem left_ge {a : Int} {n : Nat} (h : (n : Int) ≤ a) : left a n = a - (n : Int) := if_neg (by omega)
/-! ### A list that is copied, element for element -/
theorem copy_step {α : Type} {m x : List α} {y : α} {i : Nat} (hm : m[i]? = some y) (hl : x.length = m.length) (ht : x.take i = m.take i) : (x.set i y).length = m.length ∧ (x.set i y).take (i + 1) = m.take (i + 1) := by
  obtain ⟨hi, rfl⟩ := List.getElem?_eq_some_iff.1 hm
  refine ⟨by simpa using hl, ?_⟩
  apply List.ext_getElem?
  intro j
  have hj : (x.take i)[j]? = (m.take i)[j]? := by rw [ht]
  rw [List.getElem?_take, List.getElem?_take] at *
  by_cases h1 : j < i + 1
  · rw [if_pos h1, if_pos h1]
    by_cases h2 : j = i
    · subst h2
      rw [List.getElem?_set_self (by omega), List.getElem?_eq_getElem hi]
    · rw [List.getElem?_set_ne (by omega)]
      rw [if_pos (by omega), if_pos (by omega)] at hj
      exact hj
  · rw [if_neg h1, if_neg h1]
theorem copy_end {α : Type} {m x : List α} {i : Nat} (hl : x.length = m.length) (ht : x.take i = m.take i) (hi : m.length ≤ i) : x = m := by
  rw [List.take_of_length_le (by omega), List.take_of_length_le hi] at ht; exact ht

/-! ### Strictly increasing lists of 0..n-1 -/
/-! ### Numbers marked and held -/
def markI : Nat → Int → List Int
  | 0, _ => []
  | n + 1, k => k :: markI n (k + 1)
theorem markI_length : ∀ (n : Nat) (k : Int), (markI n k).length = n
  | 0, _ => rfl
  | n + 1, k => by simp [markI, markI_length n (k + 1)]
theorem markI_get : ∀ (n : Nat) (k : Int) (j : Nat), j < n → (markI n k)[j]? = some (k + j)
  | 0, _, _, h => by omega
  | n + 1, k, 0, _ => by simp [markI]
  | n + 1, k, j + 1, h => by simp only [markI, List.getElem?_cons_succ]; rw [markI_get n (k + 1) j (by omega)]; congr 1; push_cast; omega
end Go.Proofs.Ytagnldmaglbpaaa.Kit
namespace Go.Proofs.Ytagnldmaglbpaaa.Model
open Go.RowKit Go.Proofs.YtagnldmaglbpaaaW.PrintWords Go.Proofs.Ytagnldmaglbpaaa.Kit

/-- Numbers within bounds, all of them. -/
def allIn (lo hi : Int) : List Int → Bool
  | [] => true
  | y :: ys => decide (lo ≤ y ∧ y ≤ hi) && allIn lo hi ys
def gridOk (x y z : Int) : Bool := decide (1 ≤ x ∧ x ≤ 8 ∧ 1 ≤ y ∧ y ≤ 6 ∧ 1 ≤ z ∧ z ≤ 5 ∧ x * y * z ≤ 120)
theorem grid_prod {x y z : Int} (hx : 1 ≤ x ∧ x ≤ 8) (hy : 1 ≤ y ∧ y ≤ 6) (hz : 1 ≤ z ∧ z ≤ 5) : 1 ≤ x * y ∧ x * y ≤ 48 ∧ 1 ≤ x * y * z ∧ x * y * z ≤ 240 := by
  rcases (by omega : x = 1 ∨ x = 2 ∨ x = 3 ∨ x = 4 ∨ x = 5 ∨ x = 6 ∨ x = 7 ∨ x = 8) with rfl | rfl | rfl | rfl | rfl | rfl | rfl | rfl <;>
    rcases (by omega : z = 1 ∨ z = 2 ∨ z = 3 ∨ z = 4 ∨ z = 5) with rfl | rfl | rfl | rfl | rfl <;> omega
theorem grid_ok {x y z : Int} (h : gridOk x y z = true) : (1 ≤ x ∧ x ≤ 8) ∧ (1 ≤ y ∧ y ≤ 6) ∧ (1 ≤ z ∧ z ≤ 5) ∧ 1 ≤ x * y ∧ x * y ≤ 48 ∧ 1 ≤ x * y * z ∧ x * y * z ≤ 120 := by
  simp only [gridOk, decide_eq_true_eq] at h
  have := grid_prod (x := x) (y := y) (z := z) (by omega) (by omega) (by omega)
  omega
theorem grid_wrap {x y z : Int} (hx : 1 ≤ x ∧ x ≤ 8) (hy : 1 ≤ y ∧ y ≤ 6) (hz : 1 ≤ z ∧ z ≤ 5) : wrap64 (wrap64 (x * y) * z) = x * y * z := by
  have := grid_prod hx hy hz
  rw [wrap_id (x := x * y) (by omega) (by omega), wrap_id (by omega) (by omega)]
def holeOk (gx gy gz x y z t g : Int) : Bool := decide (0 ≤ x ∧ x < 10 * gx ∧ 0 ≤ y ∧ y < 10 * gy ∧ 0 ≤ z ∧ z < 10 * gz ∧ 1 ≤ t ∧ t ≤ 1000 ∧ 0 ≤ g ∧ g ≤ 1000)
def modelOk (x y z : Int) (t g r : List Int) : Bool := gridOk x y z && decide ((t.length : Int) = x * y * z ∧ (g.length : Int) = x * y * z ∧ (r.length : Int) = x * y * z) && (allIn 0 10000 t && (allIn 0 1000 g && allIn 0 4 r))
def hasBlock (x y z i : Int) : Bool := gridOk x y z && decide (0 ≤ i ∧ i < x * y * z)
theorem place_of {x y z i : Int} (h : hasBlock x y z i = true) : (0 ≤ i % x ∧ i % x < x) ∧ (0 ≤ i / x % y ∧ i / x % y < y) ∧ (0 ≤ i / x / y ∧ i / x / y < z) ∧ 0 ≤ i / x ∧ i / x ≤ 120 := by
  simp only [hasBlock, Bool.and_eq_true, decide_eq_true_eq] at h
  have hb := grid_ok h.1
  have hi := h.2
  have h1 : 0 ≤ i / x := Int.ediv_nonneg (by omega) (by omega)
  have h2 : i / x < y * z := by
    apply Int.ediv_lt_of_lt_mul (by omega)
    rw [Int.mul_comm (y * z) x, ← Int.mul_assoc]; exact hi.2
  have h3 : i / x / y < z := by
    apply Int.ediv_lt_of_lt_mul (by omega)
    rw [Int.mul_comm z y]; exact h2
  have h4 : i / x ≤ i := Int.ediv_le_self _ (by omega)
  exact ⟨⟨Int.emod_nonneg _ (by omega), Int.emod_lt_of_pos _ (by omega)⟩, ⟨Int.emod_nonneg _ (by omega), Int.emod_lt_of_pos _ (by omega)⟩, ⟨Int.ediv_nonneg h1 (by omega), h3⟩, h1, by omega⟩
/-- A fraction in lowest terms, of numbers that are not negative. -/
def low (a b : Int) : Int × Int := (a / (Nat.gcd a.natAbs b.natAbs : Int), b / (Nat.gcd a.natAbs b.natAbs : Int))
theorem low_bd {a b : Int} (ha : 0 ≤ a) (hb : 0 < b) : 1 ≤ (Nat.gcd a.natAbs b.natAbs : Int) ∧ 0 ≤ (low a b).1 ∧ (low a b).1 ≤ a ∧ 1 ≤ (low a b).2 ∧ (low a b).2 ≤ b ∧ a = (low a b).1 * (Nat.gcd a.natAbs b.natAbs : Int) ∧ b = (low a b).2 * (Nat.gcd a.natAbs b.natAbs : Int) := by
  have hg : 0 < Nat.gcd a.natAbs b.natAbs := Nat.gcd_pos_of_pos_right _ (by omega)
  have d1 : (Nat.gcd a.natAbs b.natAbs : Int) ∣ a := Int.natAbs_dvd_natAbs.1 (by simpa using Nat.gcd_dvd_left a.natAbs b.natAbs)
  have d2 : (Nat.gcd a.natAbs b.natAbs : Int) ∣ b := Int.natAbs_dvd_natAbs.1 (by simpa using Nat.gcd_dvd_right a.natAbs b.natAbs)
  have e1 := Int.ediv_mul_cancel d1
  have e2 := Int.ediv_mul_cancel d2
  have h1 : 0 ≤ a / (Nat.gcd a.natAbs b.natAbs : Int) := Int.ediv_nonneg ha (by omega)
  have h2 : a / (Nat.gcd a.natAbs b.natAbs : Int) ≤ a := Int.ediv_le_self _ ha
  have h3 : 0 ≤ b / (Nat.gcd a.natAbs b.natAbs : Int) := Int.ediv_nonneg (by omega) (by omega)
  have h4 : b / (Nat.gcd a.natAbs b.natAbs : Int) ≤ b := Int.ediv_le_self _ (by omega)
  refine ⟨by omega, h1, h2, ?_, h4, e1.symm, e2.symm⟩
  by_cases h5 : b / (Nat.gcd a.natAbs b.natAbs : Int) = 0
  · rw [h5] at e2; omega
  · show 1 ≤ b / (Nat.gcd a.natAbs b.natAbs : Int); omega
end Go.Proofs.Ytagnldmaglbpaaa.Model
namespace Go.Proofs.Ytagnldmaglbpaaa.PureFnExactUpdateAll
open Go.RowKit Go.Proofs.Ytagnldmaglbpaaa.PFnExactUpdateAll Go.Proofs.YtagnldmaglbpaaaW.PrintWords Go.Proofs.YtagnldmaglbpaaaW.PrintLast Go.Proofs.YtagnldmaglbpaaaW.PrintMore Go.Proofs.Ytagnldmaglbpaaa.Kit Go.Proofs.Ytagnldmaglbpaaa.Model
theorem laws_szIntS_eq (l : List Int) (a : Int) (h0 : 0 ≤ a) (ha : a ≤ 1048576) (hn : l.length ≤ 9223372036854775807) : laws_szIntS.f l a = some (if a < l.length then -1 else a - l.length) := by
  simp only [laws_szIntS.f]
  rw [wrap_id (by omega) (by omega)]
  split
  · rw [if_pos (by omega)]
  · rw [if_neg (by omega)]
theorem laws_szModel_eq (x y z : Int) (t g r : List Int) (a : Int) (h0 : 0 ≤ a) (ha : a ≤ 1048576) (ht : t.length ≤ 9223372036854775807) (hg : g.length ≤ 9223372036854775807) (hr : r.length ≤ 9223372036854775807) : laws_szModel.f x y z t g r a = some (left a (t.length + g.length + r.length)) := by
  simp only [laws_szModel.f, laws_szIntS_eq t a h0 ha ht, Option.bind_some]
  by_cases h1 : a < (t.length : Int)
  · rw [if_pos h1, if_pos (by omega), left_lt (by omega)]
  · rw [if_neg h1, if_neg (by omega), laws_szIntS_eq g _ (by omega) (by omega) hg, Option.bind_some]
    by_cases h2 : a - (t.length : Int) < (g.length : Int)
    · rw [if_pos h2, if_pos (by omega), left_lt (by omega)]
    · rw [if_neg h2, if_neg (by omega), laws_szIntS_eq r _ (by omega) (by omega) hr, Option.bind_some]
      by_cases h3 : a - (t.length : Int) - (g.length : Int) < (r.length : Int)
      · rw [if_pos h3, if_pos (by omega), left_lt (by omega)]
      · rw [if_neg h3, if_neg (by omega), left_ge (by omega)]; congr 1; omega
theorem laws_toIntS_l0 (l : List Int) (hn : l.length ≤ 9223372036854775807) : ∀ (ys : List Int) (i : Nat) (x : List Int), l.drop i = ys → x.length = l.length → x.take i = l.take i → Ev (fun k => laws_toIntS.l0 k l x i) l
  | [], i, x, h, hl, ht => Ev.next0 fun k => by
      have h0 := drop_nil h
      have h1 : l.length = l.length := by simp
      simp only [laws_toIntS.l0]
      rw [if_neg (by omega), copy_end hl ht (by omega)]
  | y :: ys, i, x, h, hl, ht => by
      obtain ⟨h1, h2, h3⟩ := drop_cons h
      have hm : l.length = l.length := by simp
      have hg : l[i]? = some y := by simp [h2]
      obtain ⟨c1, c2⟩ := copy_step hg hl ht
      refine Ev.next1 (laws_toIntS_l0 l hn ys (i + 1) (x.set i y) h3 c1 c2) fun k hk => ?_
      have e := rd_drop h
      simp only [laws_toIntS.l0, e, Option.bind_some]
      rw [if_pos (by omega), if_pos (by omega), if_pos (by omega), wrap_succ h1 hn, toNat_cast]
      exact hk
theorem laws_toIntS_ev (l : List Int) (hn : l.length ≤ 35184372088832) : Ev (fun k => laws_toIntS.f k l) l :=
  Ev.of1 (laws_toIntS_l0 l (by omega) l 0 (List.replicate ((l.length : Int)).toNat 0) rfl (by simp) rfl) fun k hk => by
    simp only [laws_toIntS.f]
    rw [if_pos (by omega), if_pos (by omega)]
    exact hk
theorem laws_toModel_ev (x y z : Int) (t g r : List Int) (ht : t.length ≤ 1048576) (hg : g.length ≤ 1048576) (hr : r.length ≤ 1048576) : Ev (fun k => laws_toModel.f k x y z t g r) (x, y, z, t, g, r) :=
  (ev_and (laws_toIntS_ev t (by omega)) <| ev_and (laws_toIntS_ev g (by omega)) <| ev_one (laws_toIntS_ev r (by omega))).ev fun k ⟨h1, h2, h3⟩ => by
    simp only [laws_toModel.f, laws_toGrid.f, h1, h2, h3, Option.bind_some]
theorem laws_eqIntS_l0 (l : List Int) (hn : l.length ≤ 9223372036854775807) : ∀ (ys : List Int) (i : Nat), l.drop i = ys → Ev (fun k => laws_eqIntS.l0 k l l i) true
  | [], i, h => Ev.next0 fun k => by
      have h0 := drop_nil h
      simp only [laws_eqIntS.l0]
      rw [if_neg (by omega)]
  | y :: ys, i, h => by
      obtain ⟨h1, h2, h3⟩ := drop_cons h
      refine Ev.next1 (laws_eqIntS_l0 l hn ys (i + 1) h3) fun k hk => ?_
      have e := rd_drop h
      simp only [laws_eqIntS.l0, e]
      rw [if_pos (by omega), if_pos (by omega), if_pos (by omega), if_pos (by simp), wrap_succ h1 hn]
      exact hk
theorem laws_eqIntS_ev (l : List Int) (hn : l.length ≤ 9223372036854775807) : Ev (fun k => laws_eqIntS.f k l l) true :=
  Ev.of1 (laws_eqIntS_l0 l hn l 0 rfl) fun k hk => by
    simp only [laws_eqIntS.f]
    rw [if_pos (by simp)]
    exact hk
theorem laws_eqModel_ev (x y z : Int) (t g r : List Int) (ht : t.length ≤ 1048576) (hg : g.length ≤ 1048576) (hr : r.length ≤ 1048576) : Ev (fun k => laws_eqModel.f k x y z t g r x y z t g r) true :=
  (ev_and (laws_eqIntS_ev t (by omega)) <| ev_and (laws_eqIntS_ev g (by omega)) <| ev_one (laws_eqIntS_ev r (by omega))).ev fun k ⟨h1, h2, h3⟩ => by
    simp [laws_eqModel.f, laws_eqGrid.f, h1, h2, h3]
theorem laws_markIntS_l0 (n : Nat) (c : Int) (hc : 0 ≤ c) (hb : c + n ≤ 9223372036854775807) : ∀ (d i : Nat) (x : List Int), i + d = n → x.length = n → x.take i = (markI n c).take i → Ev (fun k => laws_markIntS.l0 k x (c + (i : Int)) i) (c + (n : Int), markI n c)
  | 0, i, x, hd, hl, ht => Ev.next0 fun k => by
      simp only [laws_markIntS.l0]
      rw [if_neg (by omega), copy_end (by rw [hl, markI_length]) ht (by rw [markI_length]; omega), show i = n by omega]
  | d + 1, i, x, hd, hl, ht => by
      obtain ⟨c1, c2⟩ := copy_step (markI_get n c i (by omega)) (by rw [hl, markI_length]) ht
      refine Ev.next1 (laws_markIntS_l0 n c hc hb d (i + 1) _ (by omega) (by rw [c1, markI_length]) c2) fun k hk => ?_
      simp only [laws_markIntS.l0]
      rw [if_pos (by omega), if_pos (by omega), wrap_succ (n := n) (by omega) (by omega), wrap_id (by omega) (by omega), toNat_cast, show c + (i : Int) + 1 = c + ((i + 1 : Nat) : Int) by push_cast; omega]
      exact hk
theorem laws_markIntS_ev (x : List Int) (c : Int) (hc : 0 ≤ c) (hb : c + x.length ≤ 9223372036854775807) : Ev (fun k => laws_markIntS.f k x c) (c + (x.length : Int), markI x.length c) :=
  Ev.of1 (laws_markIntS_l0 x.length c hc hb x.length 0 x (by omega) rfl rfl) fun k hk => by
    simp only [laws_markIntS.f]
    rw [show c + ((0 : Nat) : Int) = c by omega] at hk
    exact hk
theorem laws_markModel_ev (x y z : Int) (t g r : List Int) (ht : t.length ≤ 1048576) (hg : g.length ≤ 1048576) (hr : r.length ≤ 1048576) (c : Int) (hc : 0 ≤ c) (hb : c ≤ 9223372036850000000) : Ev (fun k => laws_markModel.f k x y z t g r c) (c + (t.length : Int) + (g.length : Int) + (r.length : Int), markI t.length c, markI g.length (c + (t.length : Int)), markI r.length (c + (t.length : Int) + (g.length : Int))) :=
  (ev_and (laws_markIntS_ev t c hc (by omega)) <| ev_and (laws_markIntS_ev g (c + (t.length : Int)) (by omega) (by omega)) <| ev_one (laws_markIntS_ev r (c + (t.length : Int) + (g.length : Int)) (by omega) (by omega))).ev fun k ⟨h1, h2, h3⟩ => by
    simp only [laws_markModel.f, h1, h2, h3, Option.bind_some]
theorem laws_heldIntS_l0 (n : Nat) (c : Int) (hc : 0 ≤ c) (hb : c + n ≤ 9223372036854775807) : ∀ (d i : Nat), i + d = n → Ev (fun k => laws_heldIntS.l0 k (markI n c) (c + (i : Int)) i) (c + (n : Int))
  | 0, i, hd => Ev.next0 fun k => by
      simp only [laws_heldIntS.l0]
      rw [if_neg (by rw [markI_length]; omega), show i = n by omega]
  | d + 1, i, hd => by
      refine Ev.next1 (laws_heldIntS_l0 n c hc hb d (i + 1) (by omega)) fun k hk => ?_
      have e := rd_get (markI_get n c i (by omega))
      simp only [laws_heldIntS.l0, e]
      rw [if_pos (by rw [markI_length]; omega), if_pos (by omega), if_pos (by simp), wrap_succ (n := n) (by omega) (by omega), wrap_id (by omega) (by omega), show c + (i : Int) + 1 = c + ((i + 1 : Nat) : Int) by push_cast; omega]
      exact hk
theorem laws_heldIntS_ev (n : Nat) (c : Int) (hc : 0 ≤ c) (hb : c + n ≤ 9223372036854775807) : Ev (fun k => laws_heldIntS.f k (markI n c) c) (c + (n : Int)) :=
  Ev.of1 (laws_heldIntS_l0 n c hc hb n 0 (by omega)) fun k hk => by
    simp only [laws_heldIntS.f]
    rw [show c + ((0 : Nat) : Int) = c by omega] at hk
    exact hk
theorem laws_heldModel_ev (x y z : Int) (a b d : Nat) (ha : a ≤ 1048576) (hb : b ≤ 1048576) (hd : d ≤ 1048576) (c : Int) (hc : 0 ≤ c) (hcb : c ≤ 9223372036850000000) : Ev (fun k => laws_heldModel.f k x y z (markI a c) (markI b (c + (a : Int))) (markI d (c + (a : Int) + (b : Int))) c) (c + (a : Int) + (b : Int) + (d : Int)) :=
  (ev_and (laws_heldIntS_ev a c hc (by omega)) <| ev_and (laws_heldIntS_ev b (c + (a : Int)) (by omega) (by omega)) <| ev_one (laws_heldIntS_ev d (c + (a : Int) + (b : Int)) (by omega) (by omega))).ev fun k ⟨h1, h2, h3⟩ => by
    simp only [laws_heldModel.f, h1, h2, h3, Option.bind_some]
    first | rfl | (rw [if_neg (by omega), if_neg (by omega), if_neg (by omega)]) | (rw [if_neg (by omega), if_neg (by omega)])
theorem laws_szHoleS_eq (l : List S122) (a : Int) (h0 : 0 ≤ a) (ha : a ≤ 1048576) (hn : l.length ≤ 9223372036854775807) : laws_szHoleS.f l a = some (if a < l.length then -1 else a - l.length) := by
  simp only [laws_szHoleS.f]
  rw [wrap_id (by omega) (by omega)]
  split
  · rw [if_pos (by omega)]
  · rw [if_neg (by omega)]
def toHole (y : S122) : S120 := ⟨y.f0, y.f1, y.f2, y.f3, y.f4⟩
theorem laws_toHoleS_l0 (l : List S122) (hn : l.length ≤ 9223372036854775807) : ∀ (ys : List S122) (i : Nat) (x : List S120), l.drop i = ys → x.length = (l.map toHole).length → x.take i = (l.map toHole).take i → Ev (fun k => laws_toHoleS.l0 k l x i) (l.map toHole)
  | [], i, x, h, hl, ht => Ev.next0 fun k => by
      have h0 := drop_nil h
      have h1 : (l.map toHole).length = l.length := by simp
      simp only [laws_toHoleS.l0]
      rw [if_neg (by omega), copy_end hl ht (by omega)]
  | y :: ys, i, x, h, hl, ht => by
      obtain ⟨h1, h2, h3⟩ := drop_cons h
      have hm : (l.map toHole).length = l.length := by simp
      have hg : (l.map toHole)[i]? = some (toHole y) := by simp [h2]
      obtain ⟨c1, c2⟩ := copy_step hg hl ht
      refine Ev.next1 (laws_toHoleS_l0 l hn ys (i + 1) (x.set i (toHole y)) h3 c1 c2) fun k hk => ?_
      have e : rd_T122 l i = y := getD_drop h
      simp only [laws_toHoleS.l0, e, laws_toHole.f, Option.bind_some]
      rw [if_pos (by omega), if_pos (by omega), if_pos (by omega), wrap_succ h1 hn, toNat_cast]
      exact hk
theorem laws_toHoleS_ev (l : List S122) (hn : l.length ≤ 1048576) : Ev (fun k => laws_toHoleS.f k l) (l.map toHole) :=
  Ev.of1 (laws_toHoleS_l0 l (by omega) l 0 (List.replicate ((l.length : Int)).toNat z120) rfl (by simp) rfl) fun k hk => by
    simp only [laws_toHoleS.f]
    rw [if_pos (by omega), if_pos (by omega)]
    exact hk
theorem laws_eqHole_self (a b c d e : Int) : laws_eqHole.f a b c d e a b c d e = some true := by simp [laws_eqHole.f]
theorem laws_eqHoleS_l0 (l : List S120) (hn : l.length ≤ 9223372036854775807) : ∀ (ys : List S120) (i : Nat), l.drop i = ys → Ev (fun k => laws_eqHoleS.l0 k l l i) true
  | [], i, h => Ev.next0 fun k => by
      have h0 := drop_nil h
      simp only [laws_eqHoleS.l0]
      rw [if_neg (by omega)]
  | y :: ys, i, h => by
      obtain ⟨h1, h2, h3⟩ := drop_cons h
      refine Ev.next1 (laws_eqHoleS_l0 l hn ys (i + 1) h3) fun k hk => ?_
      simp only [laws_eqHoleS.l0, laws_eqHole_self, Option.bind_some]
      rw [if_pos (by omega), if_pos (by omega), if_pos (by omega), if_pos (by simp), wrap_succ h1 hn]
      exact hk
theorem laws_eqHoleS_ev (l : List S120) (hn : l.length ≤ 9223372036854775807) : Ev (fun k => laws_eqHoleS.f k l l) true :=
  Ev.of1 (laws_eqHoleS_l0 l hn l 0 rfl) fun k hk => by
    simp only [laws_eqHoleS.f]
    rw [if_pos (by simp)]
    exact hk
theorem markHole_step (x : List S120) (c : Int) (i : Nat) (hi : i < x.length) : ∃ x' : List S120, (∀ k, laws_markHoleS.l0 (k + 1) x c i = laws_markHoleS.l0 k x' (wrap64 ((wrap64 ((wrap64 ((wrap64 ((wrap64 (c + 1)) + 1)) + 1)) + 1)) + 1)) (wrap64 ((i : Int) + 1))) ∧ x'.length = x.length := by
  refine ⟨_, fun k => by simp only [laws_markHoleS.l0, Option.bind_some]; rw [if_pos (by omega), if_pos (by omega)], ?_⟩
  simp only [List.length_set]
theorem laws_markHoleS_l0 (n : Nat) (hn : n ≤ 2000000) : ∀ (d i : Nat) (x : List S120) (c : Int), i + d = n → x.length = n → 0 ≤ c → c + 5 * (d : Int) ≤ 4611686018427387904 → ∃ z, Ev (fun k => laws_markHoleS.l0 k x c i) (c + 5 * (d : Int), z)
  | 0, i, x, c, hd, hl, hc, hb => ⟨x, Ev.next0 fun k => by
      simp only [laws_markHoleS.l0]
      rw [if_neg (by omega), show c + 5 * ((0 : Nat) : Int) = c by omega]⟩
  | d + 1, i, x, c, hd, hl, hc, hb => by
      obtain ⟨x', hs, hl'⟩ := markHole_step x c i (by omega)
      obtain ⟨z, hz⟩ := laws_markHoleS_l0 n hn d (i + 1) x' (c + 1 + 1 + 1 + 1 + 1) (by omega) (by omega) (by omega) (by omega)
      refine ⟨z, Ev.next1 hz fun k hk => ?_⟩
      show laws_markHoleS.l0 (k + 1) x c i = _
      rw [hs, wrap_succ (n := n) (by omega) (by omega), wrap_id (x := c + 1) (by omega) (by omega), wrap_id (x := c + 1 + 1) (by omega) (by omega), wrap_id (x := c + 1 + 1 + 1) (by omega) (by omega), wrap_id (x := c + 1 + 1 + 1 + 1) (by omega) (by omega), wrap_id (x := c + 1 + 1 + 1 + 1 + 1) (by omega) (by omega)]
      rw [show c + 5 * ((d + 1 : Nat) : Int) = c + 1 + 1 + 1 + 1 + 1 + 5 * (d : Int) by omega]
      exact hk
theorem laws_markHoleS_ev (x : List S120) (c : Int) (hc : 0 ≤ c) (hb : c + 5 * (x.length : Int) ≤ 8388608) : ∃ z, Ev (fun k => laws_markHoleS.f k x c) (c + 5 * (x.length : Int), z) := by
  obtain ⟨z, hz⟩ := laws_markHoleS_l0 x.length (by omega) x.length 0 x c (by omega) rfl hc (by omega)
  exact ⟨z, Ev.of1 hz fun k hk => by simp only [laws_markHoleS.f]; exact hk⟩
theorem spec_l1Own_eq (l : List Int) (h : l.length < 17592186044416) : spec_l1Own.f l = some l := by
  simp only [spec_l1Own.f, Option.bind_some, List.length_nil, List.nil_append]
  rw [if_pos (by omega)]
theorem spec_moOwn_eq (x y z : Int) (t g r : List Int) (ht : t.length ≤ 1048576) (hg : g.length ≤ 1048576) (hr : r.length ≤ 1048576) : spec_moOwn.f x y z t g r = some (x, y, z, t, g, r) := by
  simp only [spec_moOwn.f, spec_l1Own_eq t (by omega), spec_l1Own_eq g (by omega), spec_l1Own_eq r (by omega), Option.bind_some]
theorem spec_l1In_eq (a lo hi : Int) : spec_l1In.f a lo hi = some (decide (lo ≤ a ∧ a ≤ hi)) := by
  unfold spec_l1In.f
  split
  · congr 1; simp; omega
  · congr 1; simp; omega
theorem spec_grGood_eq (x y z : Int) : spec_grGood.f x y z = some (gridOk x y z) := by
  simp only [spec_grGood.f, spec_l1In_eq, Option.bind_some, decide_eq_true_eq, gridOk]
  by_cases hx : 1 ≤ x ∧ x ≤ 8
  · rw [if_pos hx]
    by_cases hy : 1 ≤ y ∧ y ≤ 6
    · rw [if_pos hy]
      by_cases hz : 1 ≤ z ∧ z ≤ 5
      · rw [if_pos hz, grid_wrap hx hy hz]; congr 1; simp [hx, hy, hz]
      · rw [if_neg hz]; congr 1; symm; simp; omega
    · rw [if_neg hy]; congr 1; symm; simp; omega
  · rw [if_neg hx]; congr 1; symm; simp; omega
theorem spec_grCount_eq (x y z : Int) (h : gridOk x y z = true) : spec_grCount.f x y z = some (x * y * z) := by
  have hb := grid_ok h
  simp only [spec_grCount.f]
  rw [grid_wrap hb.1 hb.2.1 hb.2.2.1]
theorem spec_l1All_l0 (lo hi : Int) (l : List Int) (hn : l.length ≤ 9223372036854775807) : ∀ (ys : List Int) (i : Nat), l.drop i = ys → Ev (fun k => spec_l1All.l0 k lo hi l (l.length : Int) i) (allIn lo hi ys)
  | [], i, h => Ev.next0 fun k => by
      have h0 := drop_nil h
      simp only [spec_l1All.l0, allIn]
      rw [if_neg (by omega)]
  | y :: ys, i, h => by
      obtain ⟨h1, h2, h3⟩ := drop_cons h
      refine Ev.next1 (spec_l1All_l0 lo hi l hn ys (i + 1) h3) fun k hk => ?_
      have e := rd_drop h
      simp only [spec_l1All.l0, e, spec_l1In_eq, Option.bind_some]
      rw [if_pos (by omega), if_pos (by omega), if_pos (by omega), wrap_succ h1 hn]
      by_cases hy : lo ≤ y ∧ y ≤ hi
      · rw [if_pos (decide_eq_true hy), hk]; simp [allIn, hy]
      · rw [if_neg (by simp; omega)]; simp [allIn, hy]
theorem spec_l1All_ev (l : List Int) (lo hi : Int) (hn : l.length ≤ 9223372036854775807) : Ev (fun k => spec_l1All.f k l lo hi) (allIn lo hi l) :=
  Ev.of1 (spec_l1All_l0 lo hi l hn l 0 rfl) fun k hk => by simp only [spec_l1All.f]; exact hk
theorem spec_moGood_ev (x y z : Int) (t g r : List Int) (ht : t.length ≤ 1048576) (hg : g.length ≤ 1048576) (hr : r.length ≤ 1048576) : Ev (fun k => spec_moGood.f k x y z t g r) (modelOk x y z t g r) :=
  (ev_and (spec_l1All_ev t 0 10000 (by omega)) <| ev_and (spec_l1All_ev g 0 1000 (by omega)) <| ev_one (spec_l1All_ev r 0 4 (by omega))).ev fun k ⟨h1, h2, h3⟩ => by
    simp only [spec_moGood.f, spec_grGood_eq, Option.bind_some, modelOk]
    by_cases h : gridOk x y z = true
    · rw [if_pos h, spec_grCount_eq x y z h, Option.bind_some, h1, h2, h3]
      simp only [Option.bind_some, h, Bool.true_and]
      by_cases e1 : (t.length : Int) = x * y * z
      · rw [if_pos e1]
        by_cases e2 : (g.length : Int) = x * y * z
        · rw [if_pos e2]
          by_cases e3 : (r.length : Int) = x * y * z
          · rw [if_pos e3, decide_eq_true ⟨e1, e2, e3⟩]
            cases allIn 0 10000 t <;> cases allIn 0 1000 g <;> simp
          · rw [if_neg e3, decide_eq_false (fun h => e3 h.2.2)]; rfl
        · rw [if_neg e2, decide_eq_false (fun h => e2 h.2.1)]; rfl
      · rw [if_neg e1, decide_eq_false (fun h => e1 h.1)]; rfl
    · rw [if_neg h]; simp [h]
theorem spec_bhHole_eq (gx gy gz x y z t g : Int) (hg : gridOk gx gy gz = true) : spec_bhHole.f gx gy gz x y z t g = some (holeOk gx gy gz x y z t g) := by
  have hb := grid_ok hg
  simp only [spec_bhHole.f, spec_l1In_eq, Option.bind_some, decide_eq_true_eq, holeOk]
  rw [wrap_id (x := 10 * gx) (by omega) (by omega), wrap_id (x := 10 * gx - 1) (by omega) (by omega), wrap_id (x := 10 * gy) (by omega) (by omega), wrap_id (x := 10 * gy - 1) (by omega) (by omega), wrap_id (x := 10 * gz) (by omega) (by omega), wrap_id (x := 10 * gz - 1) (by omega) (by omega)]
  repeat' split
  all_goals first | (congr 1; rw [decide_eq_decide]; omega) | (congr 1; symm; simp; omega)
def holesOk (gx gy gz : Int) : List S120 → Bool
  | [] => true
  | h :: hs => holeOk gx gy gz h.f0 h.f1 h.f2 h.f3 h.f4 && holesOk gx gy gz hs
theorem holesOk_mem {gx gy gz : Int} : ∀ {l : List S120}, holesOk gx gy gz l = true → ∀ h ∈ l, holeOk gx gy gz h.f0 h.f1 h.f2 h.f3 h.f4 = true
  | q :: qs, h, y, hy => by
    simp only [holesOk, Bool.and_eq_true] at h
    rcases List.mem_cons.1 hy with rfl | hy
    · exact h.1
    · exact holesOk_mem h.2 y hy
theorem impl_areHoles_l0 (gx gy gz : Int) (hg : gridOk gx gy gz = true) (l : List S120) (hn : l.length ≤ 9223372036854775807) : ∀ (ys : List S120) (i : Nat), l.drop i = ys → Ev (fun k => impl_areHoles.l0 k l (l.length : Int) i gx gy gz) (holesOk gx gy gz ys)
  | [], i, h => Ev.next0 fun k => by
      have h0 := drop_nil h
      simp only [impl_areHoles.l0, holesOk]
      rw [if_neg (by omega)]
  | y :: ys, i, h => by
      obtain ⟨h1, h2, h3⟩ := drop_cons h
      have hb := grid_ok hg
      refine Ev.next1 (impl_areHoles_l0 gx gy gz hg l hn ys (i + 1) h3) fun k hk => ?_
      have e : rd_T120 l i = y := getD_drop h
      simp only [impl_areHoles.l0, e]
      rw [if_pos (by omega), if_pos (by omega), if_pos (by omega), wrap_succ h1 hn, wrap_id (x := 10 * gx) (by omega) (by omega), wrap_id (x := 10 * gy) (by omega) (by omega), wrap_id (x := 10 * gz) (by omega) (by omega)]
      by_cases hy : 0 ≤ y.f0 ∧ y.f0 < 10 * gx ∧ 0 ≤ y.f1 ∧ y.f1 < 10 * gy ∧ 0 ≤ y.f2 ∧ y.f2 < 10 * gz ∧ 1 ≤ y.f3 ∧ y.f3 ≤ 1000 ∧ 0 ≤ y.f4 ∧ y.f4 ≤ 1000
      · rw [if_neg (by omega), if_neg (by omega), if_neg (by omega), if_neg (by omega), if_neg (by omega), if_neg (by omega), if_neg (by omega), if_neg (by omega), if_neg (by omega), if_neg (by omega), hk]
        simp [holesOk, holeOk, hy]
      · have e2 : holesOk gx gy gz (y :: ys) = false := by
          have : holeOk gx gy gz y.f0 y.f1 y.f2 y.f3 y.f4 = false := decide_eq_false hy
          simp [holesOk, this]
        rw [e2]
        repeat' split
        all_goals first | rfl | (exfalso; omega)
theorem impl_areHoles_ev (gx gy gz : Int) (hg : gridOk gx gy gz = true) (l : List S120) (hn : l.length ≤ 9223372036854775807) : Ev (fun k => impl_areHoles.f k gx gy gz l) (decide (l.length ≤ 40) && holesOk gx gy gz l) :=
  Ev.of1 (impl_areHoles_l0 gx gy gz hg l hn l 0 rfl) fun k hk => by
    simp only [impl_areHoles.f]
    by_cases h : l.length ≤ 40
    · rw [if_neg (by omega)]; simpa [h] using hk
    · rw [if_pos (by omega)]; simp [h]
-- needs: impl_areHoles spec_bhHole
theorem spec_bhList_l0 (gx gy gz : Int) (hg : gridOk gx gy gz = true) (l : List S120) (hn : l.length ≤ 9223372036854775807) : ∀ (ys : List S120) (i : Nat), l.drop i = ys → Ev (fun k => spec_bhList.l0 k l l (l.length : Int) i gx gy gz) (decide (l.length ≤ 40) && holesOk gx gy gz ys)
  | [], i, h => Ev.next0 fun k => by
      have h0 := drop_nil h
      simp only [spec_bhList.l0, holesOk]
      rw [if_neg (by omega)]; congr 1; simp; omega
  | y :: ys, i, h => by
      obtain ⟨h1, h2, h3⟩ := drop_cons h
      refine Ev.next1 (spec_bhList_l0 gx gy gz hg l hn ys (i + 1) h3) fun k hk => ?_
      have e : rd_T120 l i = y := getD_drop h
      simp only [spec_bhList.l0, e, spec_bhHole_eq gx gy gz _ _ _ _ _ hg, Option.bind_some]
      rw [if_pos (by omega), if_pos (by omega), if_pos (by omega), wrap_succ h1 hn]
      by_cases hy : holeOk gx gy gz y.f0 y.f1 y.f2 y.f3 y.f4 = true
      · rw [if_pos hy, hk]; simp [holesOk, hy]
      · rw [if_neg hy]; simp [holesOk, hy]
theorem spec_bhList_ev (gx gy gz : Int) (hg : gridOk gx gy gz = true) (l : List S120) (hn : l.length ≤ 9223372036854775807) : Ev (fun k => spec_bhList.f k gx gy gz l) (decide (l.length ≤ 40) && holesOk gx gy gz l) :=
  Ev.of1 (spec_bhList_l0 gx gy gz hg l hn l 0 rfl) fun k hk => by simp only [spec_bhList.f]; exact hk
/-- The lists of a model that is good: their lengths and bounds. -/
theorem model_ok {x y z : Int} {t g r : List Int} (h : modelOk x y z t g r = true) : gridOk x y z = true ∧ ((t.length : Int) = x * y * z ∧ (g.length : Int) = x * y * z ∧ (r.length : Int) = x * y * z) ∧ allIn 0 10000 t = true ∧ allIn 0 1000 g = true ∧ allIn 0 4 r = true := by
  simp only [modelOk, Bool.and_eq_true, decide_eq_true_eq] at h
  exact ⟨h.1.1, h.1.2, h.2.1, h.2.2.1, h.2.2.2⟩
-- needs: model_facts
abbrev ModelR := Int × Int × Int × List Int × List Int × List Int × Bool
def meanRes (t tg : Int) : Int × Int × Bool := if t = 0 then (0, 0, false) else ((low tg t).1, (low tg t).2, true)
theorem spec_moPart_l0 (x y : Int) : ∀ (n b a : Nat), b ≤ n → 0 < a + b → Ev (fun k => spec_moPart.l0 k x y (a : Int) (b : Int)) (wrap64 (Int.tdiv x (Nat.gcd a b : Int)), wrap64 (Int.tdiv y (Nat.gcd a b : Int)))
  | n, 0, a, hn, h => Ev.next0 fun k => by
      simp only [spec_moPart.l0, Nat.gcd_zero_right]
      rw [if_neg (by omega), if_neg (by omega)]
  | 0, b + 1, a, hn, h => by omega
  | n + 1, b + 1, a, hn, h => by
      have hlt := Nat.mod_lt a (show 0 < b + 1 by omega)
      refine Ev.next1 (spec_moPart_l0 x y n (a % (b + 1)) (b + 1) (by omega) (by omega)) fun k hk => ?_
      have em : Int.tmod (a : Int) ((b + 1 : Nat) : Int) = ((a % (b + 1) : Nat) : Int) := by
        rw [Int.tmod_eq_emod_of_nonneg (by omega)]; exact (Int.natCast_emod a (b + 1)).symm
      have eg : Nat.gcd a (b + 1) = Nat.gcd (b + 1) (a % (b + 1)) := by
        rw [Nat.gcd_comm a (b + 1), Nat.gcd_rec (b + 1) a, Nat.gcd_comm]
      simp only [spec_moPart.l0]
      rw [if_pos (by omega), if_neg (by omega), em]
      rw [eg]; exact hk
theorem spec_moPart_ev (a b : Int) (ha : 0 ≤ a) (hb : 0 < b) (ha' : a ≤ 4611686018427387904) (hb' : b ≤ 4611686018427387904) : Ev (fun k => spec_moPart.f k a b) (low a b) := by
  have hl := low_bd ha hb
  have h := spec_moPart_l0 a b b.natAbs b.natAbs a.natAbs (by omega) (by omega)
  rw [Int.tdiv_eq_ediv_of_nonneg ha, Int.tdiv_eq_ediv_of_nonneg (by omega)] at h
  have e : (wrap64 (a / (Nat.gcd a.natAbs b.natAbs : Int)), wrap64 (b / (Nat.gcd a.natAbs b.natAbs : Int))) = low a b := by
    rw [show a / (Nat.gcd a.natAbs b.natAbs : Int) = (low a b).1 from rfl, show b / (Nat.gcd a.natAbs b.natAbs : Int) = (low a b).2 from rfl, wrap_id (by omega) (by omega), wrap_id (by omega) (by omega)]
  rw [e] at h
  refine Ev.of1 h fun k hk => ?_
  simp only [spec_moPart.f]
  rw [show ((a.natAbs : Nat) : Int) = a by omega, show ((b.natAbs : Nat) : Int) = b by omega] at hk
  exact hk
-- needs: model_facts scale_model spec_moPart
def rnd (p : Int × Int × Bool) (v : Int) : Int := if p.2.2 = true then (2 * p.1 + p.2.1) / (2 * p.2.1) else v
def upd (f : Nat → Int × Int × Bool) (g : List Int) : List Int := (List.range g.length).map fun i => rnd (f i) (rd g i)
theorem upd_length (f : Nat → Int × Int × Bool) (g : List Int) : (upd f g).length = g.length := by simp [upd]
theorem upd_get {f : Nat → Int × Int × Bool} {g : List Int} {i : Nat} (h : i < g.length) : (upd f g)[i]? = some (rnd (f i) (rd g i)) := by simp [upd, h]
theorem mean_bd {t tg : Int} (h0 : 0 ≤ t) (h1 : t ≤ 2000000000) (h2 : 0 ≤ tg) (h3 : tg ≤ 2000000000000) (h : (meanRes t tg).2.2 = true) : 0 ≤ (meanRes t tg).1 ∧ (meanRes t tg).1 ≤ 2000000000000 ∧ 1 ≤ (meanRes t tg).2.1 ∧ (meanRes t tg).2.1 ≤ 2000000000 := by
  unfold meanRes at h ⊢
  by_cases hz : t = 0
  · rw [if_pos hz] at h; cases h
  · rw [if_neg hz]
    have := low_bd (a := tg) (b := t) h2 (by omega)
    simp only; omega
theorem round_bd {a b : Int} (h0 : 0 ≤ a) (h1 : a ≤ 2000000000000) (h2 : 1 ≤ b) (h3 : b ≤ 2000000000) : 0 ≤ 2 * a + b ∧ 0 ≤ (2 * a + b) / (2 * b) ∧ (2 * a + b) / (2 * b) ≤ 2 * a + b := by
  have h4 : 0 ≤ 2 * a + b := by omega
  exact ⟨h4, Int.ediv_nonneg h4 (by omega), Int.ediv_le_self _ h4⟩
theorem round_eq {a b : Int} (h0 : 0 ≤ a) (h1 : a ≤ 2000000000000) (h2 : 1 ≤ b) (h3 : b ≤ 2000000000) : wrap64 (Int.tdiv (wrap64 ((wrap64 (2 * a)) + b)) (wrap64 (2 * b))) = (2 * a + b) / (2 * b) := by
  have hb := round_bd h0 h1 h2 h3
  rw [wrap_id (x := 2 * a) (by omega) (by omega), wrap_id (x := 2 * a + b) (by omega) (by omega), wrap_id (x := 2 * b) (by omega) (by omega), Int.tdiv_eq_ediv_of_nonneg hb.1, wrap_id (by omega) (by omega)]
theorem drop_step {a g : List Int} {i : Nat} (v : Int) (h : a.drop i = g.drop i) : (a.set i v).drop (i + 1) = g.drop (i + 1) := by
  have h1 : (a.set i v).drop (i + 1) = a.drop (i + 1) := by
    apply List.ext_getElem?
    intro j
    rw [List.getElem?_drop, List.getElem?_drop, List.getElem?_set_ne (by omega)]
  rw [h1, ← List.drop_drop, ← List.drop_drop, h]
theorem set_same {a g : List Int} {i : Nat} (h : a.drop i = g.drop i) (hi : i < g.length) : a.set i (rd g i) = a := by
  have hg : g[i]? = some (g[i]'hi) := List.getElem?_eq_getElem hi
  have ha : a[i]? = g[i]? := by
    have := congrArg (fun l => l[0]?) h
    simpa [List.getElem?_drop] using this
  rw [rd_get hg]
  apply List.ext_getElem?
  intro j
  by_cases hj : i = j
  · subst hj
    have hl : i < a.length := by
      by_cases hl : i < a.length
      · exact hl
      · rw [List.getElem?_eq_none (by omega), hg] at ha; cases ha
    rw [List.getElem?_set_self hl, ha, hg]
  · rw [List.getElem?_set_ne hj]
-- needs: update_model
theorem spec_bhRound_eq {a b : Int} (h0 : 0 ≤ a) (h1 : a ≤ 2000000000000) (h2 : 1 ≤ b) (h3 : b ≤ 2000000000) : spec_bhRound.f a b = some ((2 * a + b) / (2 * b)) := by
  simp only [spec_bhRound.f]
  rw [if_neg (by rw [wrap_id (by omega) (by omega)]; omega), round_eq h0 h1 h2 h3]
theorem spec_bhReach_eq (a : Int) : spec_bhReach.f a = some (decide (0 ≤ a ∧ a ≤ 5)) := by
  simp only [spec_bhReach.f, spec_l1In_eq, Option.bind_some]
theorem spec_l1Most_eq (a b : Int) : spec_l1Most.f a b = some (max a b) := by
  unfold spec_l1Most.f
  split <;> (congr 1; omega)
theorem spec_l1Abs_eq (a : Int) (h0 : -9223372036854775807 ≤ a) (h1 : a ≤ 9223372036854775807) : spec_l1Abs.f a = some (max a (-a)) := by
  simp only [spec_l1Abs.f, spec_l1Most_eq, Option.bind_some]
  rw [wrap_id (by omega) (by omega)]
theorem spec_grX_eq (x y z i : Int) (h : hasBlock x y z i = true) : spec_grX.f x y z i = some (i % x) := by
  have hp := place_of h
  simp only [hasBlock, Bool.and_eq_true, decide_eq_true_eq] at h
  have hb := grid_ok h.1
  simp only [spec_grX.f]
  rw [if_neg (by omega), Int.tmod_eq_emod_of_nonneg (by omega)]
theorem spec_grY_eq (x y z i : Int) (h : hasBlock x y z i = true) : spec_grY.f x y z i = some (i / x % y) := by
  have hp := place_of h
  simp only [hasBlock, Bool.and_eq_true, decide_eq_true_eq] at h
  have hb := grid_ok h.1
  simp only [spec_grY.f]
  rw [if_neg (by omega), if_neg (by omega), Int.tdiv_eq_ediv_of_nonneg (by omega), wrap_id (by omega) (by omega), Int.tmod_eq_emod_of_nonneg (by omega)]
theorem spec_grZ_eq (x y z i : Int) (h : hasBlock x y z i = true) : spec_grZ.f x y z i = some (i / x / y) := by
  have hp := place_of h
  simp only [hasBlock, Bool.and_eq_true, decide_eq_true_eq] at h
  have hb := grid_ok h.1
  have e1 : Int.tdiv i x = i / x := Int.tdiv_eq_ediv_of_nonneg (by omega)
  have e3 : wrap64 (i / x) = i / x := wrap_id (by omega) (by omega)
  have e5 : Int.tdiv (i / x) y = i / x / y := Int.tdiv_eq_ediv_of_nonneg (by omega)
  have e6 : wrap64 (i / x / y) = i / x / y := wrap_id (by omega) (by omega)
  simp only [spec_grZ.f, e1, e3, e5, e6]
  rw [if_neg (by omega), if_neg (by omega)]
/-- How many steps lie between two blocks. -/
def stepsOf (gx gy a b : Int) : Int := max (a % gx - b % gx) (-(a % gx - b % gx)) + max (a / gx % gy - b / gx % gy) (-(a / gx % gy - b / gx % gy)) + max (a / gx / gy - b / gx / gy) (-(a / gx / gy - b / gx / gy))
theorem steps_bd {gx gy gz a b : Int} (ha : hasBlock gx gy gz a = true) (hb : hasBlock gx gy gz b = true) : 0 ≤ stepsOf gx gy a b ∧ stepsOf gx gy a b ≤ 20 := by
  have p := place_of ha; have q := place_of hb
  have hg : gridOk gx gy gz = true := by simp only [hasBlock, Bool.and_eq_true] at ha; exact ha.1
  have hg := grid_ok hg
  unfold stepsOf
  generalize a % gx = a1 at *; generalize b % gx = b1 at *; generalize a / gx % gy = a2 at *; generalize b / gx % gy = b2 at *; generalize a / gx / gy = a3 at *; generalize b / gx / gy = b3 at *
  omega
theorem spec_grSteps_eq (gx gy gz a b : Int) (ha : hasBlock gx gy gz a = true) (hb : hasBlock gx gy gz b = true) : spec_grSteps.f gx gy gz a b = some (stepsOf gx gy a b) := by
  have p := place_of ha; have q := place_of hb
  have hg : gridOk gx gy gz = true := by have h1 := ha; simp only [hasBlock, Bool.and_eq_true] at h1; exact h1.1
  have hg := grid_ok hg
  simp only [spec_grSteps.f, spec_grX_eq gx gy gz a ha, spec_grX_eq gx gy gz b hb, spec_grY_eq gx gy gz a ha, spec_grY_eq gx gy gz b hb, spec_grZ_eq gx gy gz a ha, spec_grZ_eq gx gy gz b hb, Option.bind_some, stepsOf]
  generalize a % gx = a1 at *; generalize b % gx = b1 at *; generalize a / gx % gy = a2 at *; generalize b / gx % gy = b2 at *; generalize a / gx / gy = a3 at *; generalize b / gx / gy = b3 at *
  rw [wrap_id (x := a1 - b1) (by omega) (by omega), wrap_id (x := a2 - b2) (by omega) (by omega), wrap_id (x := a3 - b3) (by omega) (by omega), spec_l1Abs_eq _ (by omega) (by omega), spec_l1Abs_eq _ (by omega) (by omega), spec_l1Abs_eq _ (by omega) (by omega)]
  simp only [Option.bind_some]
  rw [wrap_id (x := max (a1 - b1) (-(a1 - b1)) + max (a2 - b2) (-(a2 - b2))) (by omega) (by omega), wrap_id (by omega) (by omega)]
def atOf (gx gy x y z : Int) : Int := wrap64 (wrap64 (wrap64 (wrap64 (z * gy) + y) * gx) + x)
theorem spec_grAt_eq (gx gy gz x y z : Int) (hg : gridOk gx gy gz = true) (hx : 0 ≤ x ∧ x < gx) (hy : 0 ≤ y ∧ y < gy) (hz : 0 ≤ z ∧ z < gz) : spec_grAt.f gx gy gz x y z = some (atOf gx gy x y z) := by
  have hb := grid_ok hg
  simp only [spec_grAt.f, spec_l1In_eq, Option.bind_some, decide_eq_true_eq]
  rw [wrap_id (x := gx - 1) (by omega) (by omega), wrap_id (x := gy - 1) (by omega) (by omega), wrap_id (x := gz - 1) (by omega) (by omega), if_pos (by omega), if_pos (by omega), if_pos (by omega)]
  rfl
def holeAt (gx gy x y z : Int) : Int := atOf gx gy (Int.tdiv x 10) (Int.tdiv y 10) (Int.tdiv z 10)
theorem tdiv10 {x : Int} (h : 0 ≤ x) : Int.tdiv x 10 = x / 10 := Int.tdiv_eq_ediv_of_nonneg h
theorem spec_bhBlock_eq (gx gy gz x y z t g : Int) (hg : gridOk gx gy gz = true) (hh : holeOk gx gy gz x y z t g = true) : spec_bhBlock.f gx gy gz x y z t g = some (holeAt gx gy x y z) := by
  have hb := grid_ok hg
  simp only [holeOk, decide_eq_true_eq] at hh
  have h1 := tdiv10 (x := x) (by omega)
  have h2 := tdiv10 (x := y) (by omega)
  have h3 := tdiv10 (x := z) (by omega)
  simp only [spec_bhBlock.f, holeAt, h1, h2, h3]
  rw [wrap_id (x := x / 10) (by omega) (by omega), wrap_id (x := y / 10) (by omega) (by omega), wrap_id (x := z / 10) (by omega) (by omega), spec_grAt_eq gx gy gz _ _ _ hg (by omega) (by omega) (by omega)]
  rfl
theorem atOf_has {gx gy gz x y z : Int} (hg : gridOk gx gy gz = true) (hx : 0 ≤ x ∧ x < gx) (hy : 0 ≤ y ∧ y < gy) (hz : 0 ≤ z ∧ z < gz) : hasBlock gx gy gz (atOf gx gy x y z) = true := by
  have hb := grid_ok hg
  have a1 : 0 ≤ z * gy := Int.mul_nonneg (by omega) (by omega)
  have a2 : (z + 1) * gy ≤ gz * gy := Int.mul_le_mul_of_nonneg_right (by omega) (by omega)
  have a3 : (z + 1) * gy = z * gy + gy := by rw [Int.add_mul, Int.one_mul]
  have a4 : gz * gy ≤ 5 * 6 := Int.mul_le_mul (by omega) (by omega) (by omega) (by omega)
  have b1 : 0 ≤ (z * gy + y) * gx := Int.mul_nonneg (by omega) (by omega)
  have b2 : (z * gy + y + 1) * gx ≤ gz * gy * gx := Int.mul_le_mul_of_nonneg_right (by omega) (by omega)
  have b3 : (z * gy + y + 1) * gx = (z * gy + y) * gx + gx := by rw [Int.add_mul (z * gy + y) 1, Int.one_mul]
  have b4 : gz * gy * gx = gx * gy * gz := by rw [Int.mul_comm (gz * gy) gx, Int.mul_comm gz gy, ← Int.mul_assoc]
  have e : atOf gx gy x y z = (z * gy + y) * gx + x := by
    unfold atOf
    rw [wrap_id (x := z * gy) (by omega) (by omega), wrap_id (x := z * gy + y) (by omega) (by omega), wrap_id (x := (z * gy + y) * gx) (by omega) (by omega), wrap_id (by omega) (by omega)]
  rw [e]
  simp only [hasBlock, hg, Bool.true_and, decide_eq_true_eq]; omega
theorem holeAt_has {gx gy gz x y z t g : Int} (hg : gridOk gx gy gz = true) (hh : holeOk gx gy gz x y z t g = true) : hasBlock gx gy gz (holeAt gx gy x y z) = true := by
  simp only [holeOk, decide_eq_true_eq] at hh
  unfold holeAt
  rw [tdiv10 (by omega), tdiv10 (by omega), tdiv10 (by omega)]
  exact atOf_has hg (by omega) (by omega) (by omega)
/-- The weight of a hole for block i. -/
def wOf (gx gy i : Int) (h : S120) : Int := 60 / (stepsOf gx gy (holeAt gx gy h.f0 h.f1 h.f2) i + 1)
def estW (gx gy i reach : Int) : List S120 → Int
  | [] => 0
  | h :: hs => (if stepsOf gx gy (holeAt gx gy h.f0 h.f1 h.f2) i ≤ reach then wOf gx gy i h else 0) + estW gx gy i reach hs
def estG (gx gy i reach : Int) : List S120 → Int
  | [] => 0
  | h :: hs => (if stepsOf gx gy (holeAt gx gy h.f0 h.f1 h.f2) i ≤ reach then wOf gx gy i h * h.f4 else 0) + estG gx gy i reach hs
theorem w_bd {gx gy gz i : Int} {h : S120} (hg : gridOk gx gy gz = true) (hi : hasBlock gx gy gz i = true) (hh : holeOk gx gy gz h.f0 h.f1 h.f2 h.f3 h.f4 = true) : (0 ≤ wOf gx gy i h ∧ wOf gx gy i h ≤ 60) ∧ 0 ≤ wOf gx gy i h * h.f4 ∧ wOf gx gy i h * h.f4 ≤ 60000 := by
  have hs := steps_bd (holeAt_has hg hh) hi
  have h1 : 0 ≤ wOf gx gy i h := Int.ediv_nonneg (by omega) (by omega)
  have h2 : wOf gx gy i h ≤ 60 := Int.ediv_le_self _ (by omega)
  simp only [holeOk, decide_eq_true_eq] at hh
  exact ⟨⟨h1, h2⟩, Int.mul_nonneg h1 (by omega), Int.mul_le_mul (a := wOf gx gy i h) (b := h.f4) (c := 60) (d := 1000) h2 (by omega) (by omega) (by omega)⟩
-- needs: impl_areHoles est_model
theorem spec_bhEstimate_l0 (gx gy gz i reach : Int) (hg : gridOk gx gy gz = true) (hi : hasBlock gx gy gz i = true) (l : List S120) (hn : l.length ≤ 1048576) (hl : holesOk gx gy gz l = true) : ∀ (ys : List S120) (j : Nat) (g w : Int), l.drop j = ys → j + ys.length = l.length →
    (0 ≤ w ∧ w ≤ 60 * (j : Int)) → (0 ≤ g ∧ g ≤ 60000 * (j : Int)) → Ev (fun k => spec_bhEstimate.l0 k i reach g w l (l.length : Int) j gx gy gz) (meanRes (w + estW gx gy i reach ys) (g + estG gx gy i reach ys))
  | [], j, g, w, h, hj, hw, hgr => by
      have h0 := drop_nil h
      simp only [List.length_nil] at hj
      by_cases hz : w = 0
      · refine Ev.next0 fun k => ?_
        simp only [spec_bhEstimate.l0, estW, estG, meanRes, Int.add_zero]
        rw [if_neg (by omega), if_pos hz, if_pos hz]
      · refine Ev.next1 (spec_moPart_ev g w hgr.1 (by omega) (by omega) (by omega)) fun k hk => ?_
        simp only [spec_bhEstimate.l0, estW, estG, meanRes, Int.add_zero, hk, Option.bind_some]
        rw [if_neg (by omega), if_neg hz, if_neg hz]
  | y :: ys, j, g, w, h, hj, hw, hgr => by
      obtain ⟨h1, h2, h3⟩ := drop_cons h
      simp only [List.length_cons] at hj
      have oh := holesOk_mem hl y (List.mem_of_getElem? h2)
      have oy := w_bd hg hi oh
      have e : rd_T120 l j = y := getD_drop h
      have eb := spec_bhBlock_eq gx gy gz y.f0 y.f1 y.f2 y.f3 y.f4 hg oh
      have es := spec_grSteps_eq gx gy gz _ i (holeAt_has hg oh) hi
      have hs := steps_bd (holeAt_has hg oh) hi
      have ed : (60 : Int) / (stepsOf gx gy (holeAt gx gy y.f0 y.f1 y.f2) i + 1) = wOf gx gy i y := rfl
      by_cases hc : stepsOf gx gy (holeAt gx gy y.f0 y.f1 y.f2) i ≤ reach
      · refine Ev.next1 (spec_bhEstimate_l0 gx gy gz i reach hg hi l hn hl ys (j + 1) (g + wOf gx gy i y * y.f4) (w + wOf gx gy i y) h3 (by omega) (by omega) (by omega)) fun k hk => ?_
        simp only [spec_bhEstimate.l0, e, eb, es, Option.bind_some, estW, estG, if_pos hc]
        rw [if_pos (by omega), if_pos (by omega), if_pos (by omega), wrap_id (x := stepsOf gx gy (holeAt gx gy y.f0 y.f1 y.f2) i + 1) (by omega) (by omega), if_neg (by omega), wrap_succ h1 (by omega), ed, wrap_id (x := wOf gx gy i y) (by omega) (by omega), wrap_id (x := wOf gx gy i y * y.f4) (by omega) (by omega), wrap_id (x := g + wOf gx gy i y * y.f4) (by omega) (by omega), wrap_id (x := w + wOf gx gy i y) (by omega) (by omega), ← Int.add_assoc, ← Int.add_assoc]
        exact hk
      · refine Ev.next1 (spec_bhEstimate_l0 gx gy gz i reach hg hi l hn hl ys (j + 1) g w h3 (by omega) (by omega) (by omega)) fun k hk => ?_
        simp only [spec_bhEstimate.l0, e, eb, es, Option.bind_some, estW, estG, if_neg hc]
        rw [if_pos (by omega), if_pos (by omega), if_pos (by omega), wrap_succ h1 (by omega), Int.zero_add, Int.zero_add]
        exact hk
theorem spec_bhEstimate_ev (gx gy gz i reach : Int) (hg : gridOk gx gy gz = true) (hi : hasBlock gx gy gz i = true) (l : List S120) (hn : l.length ≤ 1048576) (hl : holesOk gx gy gz l = true) : Ev (fun k => spec_bhEstimate.f k gx gy gz l i reach) (meanRes (estW gx gy i reach l) (estG gx gy i reach l)) := by
  have h0 := spec_bhEstimate_l0 gx gy gz i reach hg hi l hn hl l 0 0 0 rfl (by omega) (by omega) (by omega)
  rw [Int.zero_add, Int.zero_add] at h0
  exact Ev.of1 h0 fun k hk => by simp only [spec_bhEstimate.f]; exact hk
theorem est_bd {gx gy gz c : Int} (hg : gridOk gx gy gz = true) {i : Int} (hi : hasBlock gx gy gz i = true) : ∀ (l : List S120), holesOk gx gy gz l = true → (0 ≤ estW gx gy i c l ∧ estW gx gy i c l ≤ 60 * (l.length : Int)) ∧ (0 ≤ estG gx gy i c l ∧ estG gx gy i c l ≤ 60000 * (l.length : Int))
  | [], _ => by simp [estW, estG]
  | h :: hs, hl => by
    have ho := w_bd hg hi (holesOk_mem hl h (by simp))
    have ih := est_bd (c := c) hg hi hs (by simp only [holesOk, Bool.and_eq_true] at hl; exact hl.2)
    simp only [estW, estG, List.length_cons]
    by_cases d : stepsOf gx gy (holeAt gx gy h.f0 h.f1 h.f2) i ≤ c
    · rw [if_pos d, if_pos d]; push_cast; omega
    · rw [if_neg d, if_neg d]; push_cast; omega
def estF (x y : Int) (l : List S120) (c : Int) (i : Nat) : Int × Int × Bool := meanRes (estW x y (i : Int) c l) (estG x y (i : Int) c l)
-- needs: update_model est_bd
def updateAll (x y z : Int) (t g r : List Int) (l : List S120) (c : Int) : ModelR := if modelOk x y z t g r = true ∧ (l.length ≤ 40 ∧ holesOk x y z l = true) ∧ (0 ≤ c ∧ c ≤ 5) then (x, y, z, t, upd (estF x y l c) g, r, true) else (0, 0, 0, [], [], [], false)
theorem updateAll_len (x y z : Int) (t g r : List Int) (ht : t.length ≤ 1048576) (hg : g.length ≤ 1048576) (hr : r.length ≤ 1048576) (l : List S120) (c : Int) : (updateAll x y z t g r l c).2.2.2.1.length ≤ 1048576 ∧ (updateAll x y z t g r l c).2.2.2.2.1.length ≤ 1048576 ∧ (updateAll x y z t g r l c).2.2.2.2.2.1.length ≤ 1048576 := by
  unfold updateAll
  split
  · exact ⟨ht, by simp only [upd_length]; exact hg, hr⟩
  · simp
-- needs: updateAll
theorem spec_UpdateAll_l0 (x y z : Int) (t g r : List Int) (l : List S120) (c : Int) (hm : modelOk x y z t g r = true) (hgn : g.length ≤ 1048576) (hn : l.length ≤ 1048576) (hl : holesOk x y z l = true) : ∀ (m i : Nat) (a : List Int), i + m = g.length → a.length = g.length → a.take i = (upd (estF x y l c) g).take i → a.drop i = g.drop i →
    Ev (fun k => spec_UpdateAll.l0 k l c (g.length : Int) i x y z t g r x y z t a r) (x, y, z, t, upd (estF x y l c) g, r, true)
  | 0, i, a, h, ha, hi, hd => Ev.next0 fun k => by
      have e : a = upd (estF x y l c) g := copy_end (by rw [ha, upd_length]) hi (by rw [upd_length]; omega)
      simp only [spec_UpdateAll.l0]
      rw [if_neg (by omega), e]
  | m + 1, i, a, h, ha, hi, hd => by
      obtain ⟨hgr, hlen, _⟩ := model_ok hm
      have ew := wrap_succ (i := i) (n := g.length) (by omega) (by omega)
      have hM := spec_bhEstimate_ev x y z (i : Int) c hgr (by simp only [hasBlock, hgr, Bool.true_and, decide_eq_true_eq]; omega) l hn hl
      have hs := est_bd (c := c) hgr (i := (i : Int)) (by simp only [hasBlock, hgr, Bool.true_and, decide_eq_true_eq]; omega) l hl
      have hu := upd_get (f := (estF x y l c)) (show i < g.length by omega)
      obtain ⟨c1, c2⟩ := copy_step hu (by rw [ha, upd_length]) hi
      rw [upd_length] at c1
      have b0 : (i : Int) < (g.length : Int) := by omega
      have b1 : 0 ≤ (i : Int) := by omega
      have b3 : (i : Int) < (a.length : Int) := by omega
      have c3 := drop_step (rnd ((estF x y l c) i) (rd g i)) hd
      have ih := spec_UpdateAll_l0 x y z t g r l c hm hgn hn hl m (i + 1) (a.set i (rnd ((estF x y l c) i) (rd g i))) (by omega) c1 c2 c3
      have hF : (estF x y l c) i = meanRes (estW x y (i : Int) c l) (estG x y (i : Int) c l) := rfl
      rw [← hF] at hM
      have hb0 := mean_bd hs.1.1 (by omega) hs.2.1 (by omega)
      rw [← hF] at hb0
      generalize (estF x y l c) i = p at hM hb0 ih
      obtain ⟨p1, p2, p3⟩ := p
      cases p3 with
      | true =>
        have hb := hb0 rfl
        simp only at hb
        have e : rnd (p1, p2, true) (rd g i) = (2 * p1 + p2) / (2 * p2) := by simp [rnd]
        rw [e] at ih
        refine Ev.next2 hM ih fun k k1 k2 => ?_
        simp only [spec_UpdateAll.l0, k1, Option.bind_some]
        rw [if_pos b0, if_pos (by simp), spec_bhRound_eq hb.1 hb.2.1 hb.2.2.1 hb.2.2.2, Option.bind_some, if_pos b1, if_pos b3, ew, toNat_cast]
        exact k2
      | false =>
        have e : rnd (p1, p2, false) (rd g i) = rd g i := by simp [rnd]
        rw [e, set_same hd (by omega)] at ih
        refine Ev.next2 hM ih fun k k1 k2 => ?_
        simp only [spec_UpdateAll.l0, k1, Option.bind_some]
        rw [if_pos b0, if_neg (by simp), ew]
        exact k2
theorem spec_UpdateAll_no (x y z : Int) (t g r : List Int) (l : List S120) (c : Int) : Ev (fun k => spec_UpdateAll.j0 k l c true x y z t g r) (0, 0, 0, [], [], [], false) := Ev.next0 fun k => by simp [spec_UpdateAll.j0]
theorem spec_UpdateAll_ev (x y z : Int) (t g r : List Int) (ht : t.length ≤ 1048576) (hg : g.length ≤ 1048576) (hr : r.length ≤ 1048576) (l : List S120) (c : Int) (hn : l.length ≤ 1048576) : Ev (fun k => spec_UpdateAll.f k x y z t g r l c) (updateAll x y z t g r l c) := by
  have h0 := spec_moGood_ev x y z t g r ht hg hr
  have hno := spec_UpdateAll_no x y z t g r l c
  by_cases h : modelOk x y z t g r = true
  · have hgr := (model_ok h).1
    have h2 := spec_bhList_ev x y z hgr l (by omega)
    by_cases hh : l.length ≤ 40 ∧ holesOk x y z l = true
    · have et : (decide (l.length ≤ 40) && holesOk x y z l) = true := by simp [hh]
      by_cases hc : 0 ≤ c ∧ c ≤ 5
      · have ef : updateAll x y z t g r l c = (x, y, z, t, upd (estF x y l c) g, r, true) := by rw [updateAll, if_pos ⟨h, hh, hc⟩]
        have i1 : Ev (fun k => spec_UpdateAll.j0 k l c false x y z t g r) (x, y, z, t, upd (estF x y l c) g, r, true) := Ev.next1 (spec_UpdateAll_l0 x y z t g r l c h hg hn hh.2 g.length 0 g (by omega) rfl (by simp) rfl) fun k hk => by
          simp only [spec_UpdateAll.j0, spec_moOwn_eq x y z t g r ht hg hr, Option.bind_some]
          rw [if_neg (by simp)]; exact hk
        refine (ev_and h0 <| ev_and h2 <| ev_one i1).ev fun k ⟨k1, k2, k3⟩ => ?_
        simp only [spec_UpdateAll.f, spec_bhReach_eq, k1, k2, Option.bind_some]
        rw [if_pos h, if_pos et, ef, show (!decide (0 ≤ c ∧ c ≤ 5)) = false by simp [hc]]; exact k3
      · have ef : updateAll x y z t g r l c = (0, 0, 0, [], [], [], false) := by rw [updateAll, if_neg (fun w => hc w.2.2)]
        refine (ev_and h0 <| ev_and h2 <| ev_one hno).ev fun k ⟨k1, k2, k3⟩ => ?_
        simp only [spec_UpdateAll.f, spec_bhReach_eq, k1, k2, Option.bind_some]
        rw [if_pos h, if_pos et, ef]
        rw [show (!decide (0 ≤ c ∧ c ≤ 5)) = true by rw [decide_eq_false hc]; rfl]; exact k3
    · have et : (decide (l.length ≤ 40) && holesOk x y z l) = false := by simpa using hh
      have ef : updateAll x y z t g r l c = (0, 0, 0, [], [], [], false) := by rw [updateAll, if_neg (fun w => hh w.2.1)]
      refine (ev_and h0 <| ev_and h2 <| ev_one hno).ev fun k ⟨k1, k2, k3⟩ => ?_
      simp only [spec_UpdateAll.f, k1, k2, Option.bind_some]
      rw [if_pos h, if_neg (by rw [et]; simp), ef]; exact k3
  · have ef : updateAll x y z t g r l c = (0, 0, 0, [], [], [], false) := by rw [updateAll, if_neg (fun w => h w.1)]
    refine (ev_and h0 <| ev_one hno).ev fun k ⟨k1, k3⟩ => ?_
    simp only [spec_UpdateAll.f, k1, Option.bind_some]
    rw [if_neg h, ef]; exact k3
theorem impl_copyModel_eq (x y z : Int) (t g r : List Int) (ht : t.length ≤ 1048576) (hg : g.length ≤ 1048576) (hr : r.length ≤ 1048576) : impl_copyModel.f x y z t g r = some (x, y, z, t, g, r) := by
  simp only [impl_copyModel.f, Option.bind_some, List.length_nil, List.nil_append]
  rw [if_pos (by omega), if_pos (by omega), if_pos (by omega)]
theorem impl_IsGrid_eq (x y z : Int) : impl_IsGrid.f x y z = some (gridOk x y z) := by
  simp only [impl_IsGrid.f, gridOk]
  by_cases hx : 1 ≤ x ∧ x ≤ 8
  · rw [if_pos (by omega), if_pos (by omega)]
    by_cases hy : 1 ≤ y ∧ y ≤ 6
    · rw [if_pos (by omega), if_pos (by omega)]
      by_cases hz : 1 ≤ z ∧ z ≤ 5
      · rw [if_pos (by omega), if_pos (by omega), grid_wrap hx hy hz]; congr 1; simp [hx, hy, hz]
      · have e : decide (1 ≤ x ∧ x ≤ 8 ∧ 1 ≤ y ∧ y ≤ 6 ∧ 1 ≤ z ∧ z ≤ 5 ∧ x * y * z ≤ 120) = false := by simp; omega
        rw [e]; split
        · rw [if_neg (by omega)]
        · rfl
    · have e : decide (1 ≤ x ∧ x ≤ 8 ∧ 1 ≤ y ∧ y ≤ 6 ∧ 1 ≤ z ∧ z ≤ 5 ∧ x * y * z ≤ 120) = false := by simp; omega
      rw [e]; split
      · rw [if_neg (by omega)]
      · rfl
  · have e : decide (1 ≤ x ∧ x ≤ 8 ∧ 1 ≤ y ∧ y ≤ 6 ∧ 1 ≤ z ∧ z ≤ 5 ∧ x * y * z ≤ 120) = false := by simp; omega
    rw [e]; split
    · rw [if_neg (by omega)]
    · rfl
theorem impl_blocksOf_eq (x y z : Int) (h : gridOk x y z = true) : impl_blocksOf.f x y z = some (x * y * z) := by
  have hb := grid_ok h
  simp only [impl_blocksOf.f]
  rw [grid_wrap hb.1 hb.2.1 hb.2.2.1]
theorem impl_IsModel_l0 (x y z : Int) (t g r : List Int) (n : Nat) (hn : n ≤ 1048576) (ht : t.length = n) (hg : g.length = n) (hr : r.length = n) : ∀ (ts gs rs : List Int) (i : Nat), t.drop i = ts → g.drop i = gs → r.drop i = rs → Ev (fun k => impl_IsModel.l0 k (n : Int) i x y z t g r) (allIn 0 10000 ts && (allIn 0 1000 gs && allIn 0 4 rs))
  | [], gs, rs, i, h, hg', hr' => Ev.next0 fun k => by
      have h0 := drop_nil h
      have e1 : gs = [] := by rw [← hg']; exact List.drop_of_length_le (by omega)
      have e2 : rs = [] := by rw [← hr']; exact List.drop_of_length_le (by omega)
      subst e1 e2
      simp only [impl_IsModel.l0, allIn]
      rw [if_neg (by omega)]; rfl
  | a :: ts, [], rs, i, h, hg', hr' => by have h1 := (drop_cons h).1; have h2 := drop_nil hg'; omega
  | a :: ts, b :: gs, [], i, h, hg', hr' => by have h1 := (drop_cons h).1; have h2 := drop_nil hr'; omega
  | a :: ts, b :: gs, c :: rs, i, h, hg', hr' => by
      obtain ⟨h1, h2, h3⟩ := drop_cons h
      obtain ⟨g1, g2, g3⟩ := drop_cons hg'
      obtain ⟨r1, r2, r3⟩ := drop_cons hr'
      have ea := rd_drop h
      have eb := rd_drop hg'
      have ec := rd_drop hr'
      refine Ev.next1 (impl_IsModel_l0 x y z t g r n hn ht hg hr ts gs rs (i + 1) h3 g3 r3) fun k hk => ?_
      simp only [impl_IsModel.l0, ea, eb, ec]
      rw [if_pos (by omega), if_pos (by omega), if_pos (by omega)]
      by_cases ka : 0 ≤ a ∧ a ≤ 10000
      · rw [if_neg (by omega), if_neg (by omega), if_pos (by omega)]
        by_cases kb : 0 ≤ b ∧ b ≤ 1000
        · rw [if_neg (by omega), if_neg (by omega), if_pos (by omega)]
          by_cases kc : 0 ≤ c ∧ c ≤ 4
          · rw [if_neg (by omega), if_neg (by omega), wrap_succ h1 (by omega), hk]
            simp [allIn, ka, kb, kc]
          · have e : (allIn 0 10000 (a :: ts) && (allIn 0 1000 (b :: gs) && allIn 0 4 (c :: rs))) = false := by simp [allIn, kc]
            rw [e]; split
            · rfl
            · rw [if_pos (by omega)]
        · have e : (allIn 0 10000 (a :: ts) && (allIn 0 1000 (b :: gs) && allIn 0 4 (c :: rs))) = false := by simp [allIn, kb]
          rw [e]; split
          · rfl
          · rw [if_pos (by omega)]
      · have e : (allIn 0 10000 (a :: ts) && (allIn 0 1000 (b :: gs) && allIn 0 4 (c :: rs))) = false := by simp [allIn, ka]
        rw [e]; split
        · rfl
        · rw [if_pos (by omega)]
theorem impl_IsModel_ev (x y z : Int) (t g r : List Int) (ht : t.length ≤ 1048576) (hg : g.length ≤ 1048576) (hr : r.length ≤ 1048576) : Ev (fun k => impl_IsModel.f k x y z t g r) (modelOk x y z t g r) := by
  by_cases h : gridOk x y z = true
  · have no : ∀ n : Int, Ev (fun k => impl_IsModel.j0 k n true x y z t g r) false := fun n => Ev.next0 fun k => by simp [impl_IsModel.j0]
    by_cases e : (t.length : Int) = x * y * z ∧ (g.length : Int) = x * y * z ∧ (r.length : Int) = x * y * z
    · obtain ⟨e1, e2, e3⟩ := e
      have h1 : Ev (fun k => impl_IsModel.j0 k (x * y * z) false x y z t g r) (allIn 0 10000 t && (allIn 0 1000 g && allIn 0 4 r)) := by
        refine Ev.next1 (impl_IsModel_l0 x y z t g r t.length ht rfl (by omega) (by omega) t g r 0 rfl rfl rfl) fun k hk => ?_
        simp only [impl_IsModel.j0]
        rw [if_neg (by simp), ← e1]; exact hk
      refine Ev.of1 h1 fun k hk => ?_
      simp only [impl_IsModel.f, impl_IsGrid_eq, Option.bind_some, impl_blocksOf_eq x y z h]
      rw [if_pos h, if_pos e1, if_pos e2, show ((r.length : Int) != x * y * z) = false by simp [e3], hk]
      simp [modelOk, h, e1, e2, e3]
    · refine Ev.of1 (no (x * y * z)) fun k hk => ?_
      have em : modelOk x y z t g r = false := by
        simp only [modelOk, decide_eq_false e, Bool.and_false, Bool.false_and]
      simp only [impl_IsModel.f, impl_IsGrid_eq, Option.bind_some, impl_blocksOf_eq x y z h]
      rw [if_pos h, em]
      by_cases e1 : (t.length : Int) = x * y * z
      · rw [if_pos e1]
        by_cases e2 : (g.length : Int) = x * y * z
        · rw [if_pos e2, show ((r.length : Int) != x * y * z) = true by
            have e3 : ¬ (r.length : Int) = x * y * z := fun e3 => e ⟨e1, e2, e3⟩
            simpa using e3, hk]
        · rw [if_neg e2, hk]
      · rw [if_neg e1, hk]
  · refine Ev.all fun k => ?_
    simp only [impl_IsModel.f, impl_IsGrid_eq, Option.bind_some]
    rw [if_neg h]; simp [modelOk, h]
theorem impl_abs_eq (a : Int) (h0 : -9223372036854775807 ≤ a) (h1 : a ≤ 9223372036854775807) : impl_abs.f a = some (max a (-a)) := by
  simp only [impl_abs.f, mx_eq]
  rw [wrap_id (by omega) (by omega)]
theorem impl_lowest_l0 (x y : Int) : ∀ (n b a : Nat), b ≤ n → 0 < a + b → Ev (fun k => impl_lowest.l0 k x y (a : Int) (b : Int)) (wrap64 (Int.tdiv x (Nat.gcd a b : Int)), wrap64 (Int.tdiv y (Nat.gcd a b : Int)))
  | n, 0, a, hn, h => Ev.next0 fun k => by
      simp only [impl_lowest.l0, Nat.gcd_zero_right]
      rw [if_pos (by omega), if_neg (by omega)]
  | 0, b + 1, a, hn, h => by omega
  | n + 1, b + 1, a, hn, h => by
      have hlt := Nat.mod_lt a (show 0 < b + 1 by omega)
      refine Ev.next1 (impl_lowest_l0 x y n (a % (b + 1)) (b + 1) (by omega) (by omega)) fun k hk => ?_
      have em : Int.tmod (a : Int) ((b + 1 : Nat) : Int) = ((a % (b + 1) : Nat) : Int) := by
        rw [Int.tmod_eq_emod_of_nonneg (by omega)]; exact (Int.natCast_emod a (b + 1)).symm
      have eg : Nat.gcd a (b + 1) = Nat.gcd (b + 1) (a % (b + 1)) := by
        rw [Nat.gcd_comm a (b + 1), Nat.gcd_rec (b + 1) a, Nat.gcd_comm]
      simp only [impl_lowest.l0]
      rw [if_neg (by omega), em]
      rw [eg]; exact hk
theorem impl_lowest_ev (a b : Int) (ha : 0 ≤ a) (hb : 0 < b) (ha' : a ≤ 4611686018427387904) (hb' : b ≤ 4611686018427387904) : Ev (fun k => impl_lowest.f k a b) (low a b) := by
  have hl := low_bd ha hb
  have h := impl_lowest_l0 a b b.natAbs b.natAbs a.natAbs (by omega) (by omega)
  rw [Int.tdiv_eq_ediv_of_nonneg ha, Int.tdiv_eq_ediv_of_nonneg (by omega)] at h
  have e : (wrap64 (a / (Nat.gcd a.natAbs b.natAbs : Int)), wrap64 (b / (Nat.gcd a.natAbs b.natAbs : Int))) = low a b := by
    rw [show a / (Nat.gcd a.natAbs b.natAbs : Int) = (low a b).1 from rfl, show b / (Nat.gcd a.natAbs b.natAbs : Int) = (low a b).2 from rfl, wrap_id (by omega) (by omega), wrap_id (by omega) (by omega)]
  rw [e] at h
  refine Ev.of1 h fun k hk => ?_
  simp only [impl_lowest.f, impl_abs_eq a (by omega) (by omega), Option.bind_some]
  rw [show ((a.natAbs : Nat) : Int) = max a (-a) by omega, show ((b.natAbs : Nat) : Int) = b by omega] at hk
  exact hk
-- needs: spec_grAt
theorem impl_blockAt_eq (gx gy gz x y z : Int) : impl_blockAt.f gx gy gz x y z = some (atOf gx gy x y z) := rfl
-- needs: spec_bhBlock
theorem impl_blockOfHole_eq (gx gy gz x y z t g : Int) (hg : gridOk gx gy gz = true) (hh : holeOk gx gy gz x y z t g = true) : impl_blockOfHole.f gx gy gz x y z t g = some (holeAt gx gy x y z) := by
  have hb := grid_ok hg
  simp only [holeOk, decide_eq_true_eq] at hh
  have h1 := tdiv10 (x := x) (by omega)
  have h2 := tdiv10 (x := y) (by omega)
  have h3 := tdiv10 (x := z) (by omega)
  simp only [impl_blockOfHole.f, holeAt, h1, h2, h3]
  rw [wrap_id (x := x / 10) (by omega) (by omega), wrap_id (x := y / 10) (by omega) (by omega), wrap_id (x := z / 10) (by omega) (by omega), impl_blockAt_eq]
  rfl
theorem impl_placeOf_eq (x y z i : Int) (h : hasBlock x y z i = true) : impl_placeOf.f x y z i = some (i % x, i / x % y, i / x / y) := by
  have hp := place_of h
  simp only [hasBlock, Bool.and_eq_true, decide_eq_true_eq] at h
  have hb := grid_ok h.1
  have e1 : Int.tdiv i x = i / x := Int.tdiv_eq_ediv_of_nonneg (by omega)
  have e2 : Int.tmod i x = i % x := Int.tmod_eq_emod_of_nonneg (by omega)
  have e3 : wrap64 (i / x) = i / x := wrap_id (by omega) (by omega)
  have e4 : Int.tmod (i / x) y = i / x % y := Int.tmod_eq_emod_of_nonneg (by omega)
  have e5 : Int.tdiv (i / x) y = i / x / y := Int.tdiv_eq_ediv_of_nonneg (by omega)
  have e6 : wrap64 (i / x / y) = i / x / y := wrap_id (by omega) (by omega)
  simp only [impl_placeOf.f, e1, e2, e3, e4, e5, e6]
  rw [if_neg (by omega), if_neg (by omega)]
-- needs: spec_grSteps
theorem impl_stepsBetween_eq (gx gy gz a b : Int) (ha : hasBlock gx gy gz a = true) (hb : hasBlock gx gy gz b = true) : impl_stepsBetween.f gx gy gz a b = some (stepsOf gx gy a b) := by
  have p := place_of ha; have q := place_of hb
  have hg : gridOk gx gy gz = true := by have h1 := ha; simp only [hasBlock, Bool.and_eq_true] at h1; exact h1.1
  have hg := grid_ok hg
  simp only [impl_stepsBetween.f, impl_placeOf_eq gx gy gz a ha, impl_placeOf_eq gx gy gz b hb, Option.bind_some, stepsOf]
  generalize a % gx = a1 at *; generalize b % gx = b1 at *; generalize a / gx % gy = a2 at *; generalize b / gx % gy = b2 at *; generalize a / gx / gy = a3 at *; generalize b / gx / gy = b3 at *
  rw [wrap_id (x := b1 - a1) (by omega) (by omega), wrap_id (x := b2 - a2) (by omega) (by omega), wrap_id (x := b3 - a3) (by omega) (by omega), impl_abs_eq _ (by omega) (by omega), impl_abs_eq _ (by omega) (by omega), impl_abs_eq _ (by omega) (by omega)]
  simp only [Option.bind_some]
  rw [show max (b1 - a1) (-(b1 - a1)) = max (a1 - b1) (-(a1 - b1)) by omega, show max (b2 - a2) (-(b2 - a2)) = max (a2 - b2) (-(a2 - b2)) by omega, show max (b3 - a3) (-(b3 - a3)) = max (a3 - b3) (-(a3 - b3)) by omega]
  rw [wrap_id (x := max (a1 - b1) (-(a1 - b1)) + max (a2 - b2) (-(a2 - b2))) (by omega) (by omega), wrap_id (by omega) (by omega)]
theorem impl_estimateBlock_l0 (gx gy gz i reach : Int) (hg : gridOk gx gy gz = true) (hi : hasBlock gx gy gz i = true) (l : List S120) (hn : l.length ≤ 1048576) (hl : holesOk gx gy gz l = true) : ∀ (ys : List S120) (j : Nat) (g w : Int), l.drop j = ys → j + ys.length = l.length →
    (0 ≤ w ∧ w ≤ 60 * (j : Int)) → (0 ≤ g ∧ g ≤ 60000 * (j : Int)) → Ev (fun k => impl_estimateBlock.l0 k i reach g w l (l.length : Int) j gx gy gz) (meanRes (w + estW gx gy i reach ys) (g + estG gx gy i reach ys))
  | [], j, g, w, h, hj, hw, hgr => by
      have h0 := drop_nil h
      simp only [List.length_nil] at hj
      by_cases hz : w = 0
      · refine Ev.next0 fun k => ?_
        simp only [impl_estimateBlock.l0, estW, estG, meanRes, Int.add_zero]
        rw [if_neg (by omega), if_pos hz, if_pos hz]
      · refine Ev.next1 (impl_lowest_ev g w hgr.1 (by omega) (by omega) (by omega)) fun k hk => ?_
        simp only [impl_estimateBlock.l0, estW, estG, meanRes, Int.add_zero, hk, Option.bind_some]
        rw [if_neg (by omega), if_neg hz, if_neg hz]
  | y :: ys, j, g, w, h, hj, hw, hgr => by
      obtain ⟨h1, h2, h3⟩ := drop_cons h
      simp only [List.length_cons] at hj
      have oh := holesOk_mem hl y (List.mem_of_getElem? h2)
      have oy := w_bd hg hi oh
      have e : rd_T120 l j = y := getD_drop h
      have eb := impl_blockOfHole_eq gx gy gz y.f0 y.f1 y.f2 y.f3 y.f4 hg oh
      have es := impl_stepsBetween_eq gx gy gz _ i (holeAt_has hg oh) hi
      have hs := steps_bd (holeAt_has hg oh) hi
      have ed : (60 : Int) / (stepsOf gx gy (holeAt gx gy y.f0 y.f1 y.f2) i + 1) = wOf gx gy i y := rfl
      by_cases hc : stepsOf gx gy (holeAt gx gy y.f0 y.f1 y.f2) i ≤ reach
      · refine Ev.next1 (impl_estimateBlock_l0 gx gy gz i reach hg hi l hn hl ys (j + 1) (g + wOf gx gy i y * y.f4) (w + wOf gx gy i y) h3 (by omega) (by omega) (by omega)) fun k hk => ?_
        simp only [impl_estimateBlock.l0, e, eb, es, Option.bind_some, estW, estG, if_pos hc]
        rw [if_pos (by omega), if_pos (by omega), if_pos (by omega), wrap_id (x := stepsOf gx gy (holeAt gx gy y.f0 y.f1 y.f2) i + 1) (by omega) (by omega), if_neg (by omega), wrap_succ h1 (by omega), ed, wrap_id (x := wOf gx gy i y) (by omega) (by omega), wrap_id (x := wOf gx gy i y * y.f4) (by omega) (by omega), wrap_id (x := g + wOf gx gy i y * y.f4) (by omega) (by omega), wrap_id (x := w + wOf gx gy i y) (by omega) (by omega), ← Int.add_assoc, ← Int.add_assoc]
        exact hk
      · refine Ev.next1 (impl_estimateBlock_l0 gx gy gz i reach hg hi l hn hl ys (j + 1) g w h3 (by omega) (by omega) (by omega)) fun k hk => ?_
        simp only [impl_estimateBlock.l0, e, eb, es, Option.bind_some, estW, estG, if_neg hc]
        rw [if_pos (by omega), if_pos (by omega), if_pos (by omega), wrap_succ h1 (by omega), Int.zero_add, Int.zero_add]
        exact hk
theorem impl_estimateBlock_ev (gx gy gz i reach : Int) (hg : gridOk gx gy gz = true) (hi : hasBlock gx gy gz i = true) (l : List S120) (hn : l.length ≤ 1048576) (hl : holesOk gx gy gz l = true) : Ev (fun k => impl_estimateBlock.f k gx gy gz l i reach) (meanRes (estW gx gy i reach l) (estG gx gy i reach l)) := by
  have h0 := impl_estimateBlock_l0 gx gy gz i reach hg hi l hn hl l 0 0 0 rfl (by omega) (by omega) (by omega)
  rw [Int.zero_add, Int.zero_add] at h0
  exact Ev.of1 h0 fun k hk => by simp only [impl_estimateBlock.f]; exact hk
-- needs: updateAll
theorem impl_UpdateAll_l0 (x y z : Int) (t g r : List Int) (l : List S120) (c : Int) (hm : modelOk x y z t g r = true) (hgn : g.length ≤ 1048576) (hn : l.length ≤ 1048576) (hl : holesOk x y z l = true) : ∀ (m i : Nat) (a : List Int), i + m = g.length → a.length = g.length → a.take i = (upd (estF x y l c) g).take i → a.drop i = g.drop i →
    Ev (fun k => impl_UpdateAll.l0 k l c (g.length : Int) i x y z t g r x y z t a r) (x, y, z, t, upd (estF x y l c) g, r, true)
  | 0, i, a, h, ha, hi, hd => Ev.next0 fun k => by
      have e : a = upd (estF x y l c) g := copy_end (by rw [ha, upd_length]) hi (by rw [upd_length]; omega)
      simp only [impl_UpdateAll.l0]
      rw [if_neg (by omega), e]
  | m + 1, i, a, h, ha, hi, hd => by
      obtain ⟨hgr, hlen, _⟩ := model_ok hm
      have ew := wrap_succ (i := i) (n := g.length) (by omega) (by omega)
      have hM := impl_estimateBlock_ev x y z (i : Int) c hgr (by simp only [hasBlock, hgr, Bool.true_and, decide_eq_true_eq]; omega) l hn hl
      have hs := est_bd (c := c) hgr (i := (i : Int)) (by simp only [hasBlock, hgr, Bool.true_and, decide_eq_true_eq]; omega) l hl
      have hu := upd_get (f := (estF x y l c)) (show i < g.length by omega)
      obtain ⟨c1, c2⟩ := copy_step hu (by rw [ha, upd_length]) hi
      rw [upd_length] at c1
      have b0 : (i : Int) < (g.length : Int) := by omega
      have b1 : 0 ≤ (i : Int) := by omega
      have b3 : (i : Int) < (a.length : Int) := by omega
      have c3 := drop_step (rnd ((estF x y l c) i) (rd g i)) hd
      have ih := impl_UpdateAll_l0 x y z t g r l c hm hgn hn hl m (i + 1) (a.set i (rnd ((estF x y l c) i) (rd g i))) (by omega) c1 c2 c3
      have hF : (estF x y l c) i = meanRes (estW x y (i : Int) c l) (estG x y (i : Int) c l) := rfl
      rw [← hF] at hM
      have hb0 := mean_bd hs.1.1 (by omega) hs.2.1 (by omega)
      rw [← hF] at hb0
      generalize (estF x y l c) i = p at hM hb0 ih
      obtain ⟨p1, p2, p3⟩ := p
      cases p3 with
      | true =>
        have hb := hb0 rfl
        simp only at hb
        have e : rnd (p1, p2, true) (rd g i) = (2 * p1 + p2) / (2 * p2) := by simp [rnd]
        rw [e] at ih
        refine Ev.next2 hM ih fun k k1 k2 => ?_
        simp only [impl_UpdateAll.l0, k1, Option.bind_some]
        rw [if_pos b0, if_pos (by simp), if_neg (by rw [wrap_id (by omega) (by omega)]; omega), if_pos b1, if_pos b3, ew, toNat_cast, round_eq hb.1 hb.2.1 hb.2.2.1 hb.2.2.2]
        exact k2
      | false =>
        have e : rnd (p1, p2, false) (rd g i) = rd g i := by simp [rnd]
        rw [e, set_same hd (by omega)] at ih
        refine Ev.next2 hM ih fun k k1 k2 => ?_
        simp only [impl_UpdateAll.l0, k1, Option.bind_some]
        rw [if_pos b0, if_neg (by simp), ew]
        exact k2
theorem impl_UpdateAll_no (x y z : Int) (t g r : List Int) (l : List S120) (c : Int) : Ev (fun k => impl_UpdateAll.j0 k l c true x y z t g r) (0, 0, 0, [], [], [], false) := Ev.next0 fun k => by simp [impl_UpdateAll.j0]
theorem impl_UpdateAll_ev (x y z : Int) (t g r : List Int) (ht : t.length ≤ 1048576) (hg : g.length ≤ 1048576) (hr : r.length ≤ 1048576) (l : List S120) (c : Int) (hn : l.length ≤ 1048576) : Ev (fun k => impl_UpdateAll.f k x y z t g r l c) (updateAll x y z t g r l c) := by
  have h0 := impl_IsModel_ev x y z t g r ht hg hr
  have hno := impl_UpdateAll_no x y z t g r l c
  by_cases h : modelOk x y z t g r = true
  · have hgr := (model_ok h).1
    have h2 := impl_areHoles_ev x y z hgr l (by omega)
    by_cases hh : l.length ≤ 40 ∧ holesOk x y z l = true
    · have et : (decide (l.length ≤ 40) && holesOk x y z l) = true := by simp [hh]
      by_cases hc : 0 ≤ c ∧ c ≤ 5
      · have ef : updateAll x y z t g r l c = (x, y, z, t, upd (estF x y l c) g, r, true) := by rw [updateAll, if_pos ⟨h, hh, hc⟩]
        have i1 : Ev (fun k => impl_UpdateAll.j0 k l c false x y z t g r) (x, y, z, t, upd (estF x y l c) g, r, true) := Ev.next1 (impl_UpdateAll_l0 x y z t g r l c h hg hn hh.2 g.length 0 g (by omega) rfl (by simp) rfl) fun k hk => by
          simp only [impl_UpdateAll.j0, impl_copyModel_eq x y z t g r ht hg hr, Option.bind_some]
          rw [if_neg (by simp)]; exact hk
        refine (ev_and h0 <| ev_and h2 <| ev_one i1).ev fun k ⟨k1, k2, k3⟩ => ?_
        simp only [impl_UpdateAll.f, k1, k2, Option.bind_some]
        rw [if_pos h, if_pos et, ef, if_neg (by omega), show decide (c > 5) = false by simp; omega]; exact k3
      · have ef : updateAll x y z t g r l c = (0, 0, 0, [], [], [], false) := by rw [updateAll, if_neg (fun w => hc w.2.2)]
        refine (ev_and h0 <| ev_and h2 <| ev_one hno).ev fun k ⟨k1, k2, k3⟩ => ?_
        simp only [impl_UpdateAll.f, k1, k2, Option.bind_some]
        rw [if_pos h, if_pos et, ef]
        by_cases h5 : c < 0
        · rw [if_pos h5]; exact k3
        · rw [if_neg h5, show decide (c > 5) = true by simp; omega]; exact k3
    · have et : (decide (l.length ≤ 40) && holesOk x y z l) = false := by simpa using hh
      have ef : updateAll x y z t g r l c = (0, 0, 0, [], [], [], false) := by rw [updateAll, if_neg (fun w => hh w.2.1)]
      refine (ev_and h0 <| ev_and h2 <| ev_one hno).ev fun k ⟨k1, k2, k3⟩ => ?_
      simp only [impl_UpdateAll.f, k1, k2, Option.bind_some]
      rw [if_pos h, if_neg (by rw [et]; simp), ef]; exact k3
  · have ef : updateAll x y z t g r l c = (0, 0, 0, [], [], [], false) := by rw [updateAll, if_neg (fun w => h w.1)]
    refine (ev_and h0 <| ev_one hno).ev fun k ⟨k1, k3⟩ => ?_
    simp only [impl_UpdateAll.f, k1, Option.bind_some]
    rw [if_neg h, ef]; exact k3
theorem j5_ev (X Y Z : Int) (a b d : Nat) (ha : a ≤ 1048576) (hb : b ≤ 1048576) (hd : d ≤ 1048576) : Ev (fun k => laws_FnExactUpdateAll.j5 k (1 + (a : Int) + (b : Int) + (d : Int)) false X Y Z (markI a 1) (markI b (1 + (a : Int))) (markI d (1 + (a : Int) + (b : Int)))) true :=
  (ev_one (laws_heldModel_ev X Y Z a b d ha hb hd 1 (by omega) (by omega))).next fun k h1 => by
    simp only [laws_FnExactUpdateAll.j5, h1, Option.bind_some]
    rw [if_neg (by simp), if_neg (by omega), if_pos (by simp)]
theorem j4_ev (x y z : Int) (t g r : List Int) (ht : t.length ≤ 1048576) (hg : g.length ≤ 1048576) (hr : r.length ≤ 1048576) (l : List S122) (c : Int) (hl : l.length ≤ 1048576) (hq : t.length + g.length + r.length + l.length ≤ 1048576) (X Y Z : Int) (T G R : List Int) (b : Bool) (hT : T.length ≤ 1048576) (hG : G.length ≤ 1048576) (hR : R.length ≤ 1048576) (hi : Ev (fun k => impl_UpdateAll.f k x y z t g r (l.map toHole) c) (X, Y, Z, T, G, R, b)) : Ev (fun k => laws_FnExactUpdateAll.j4 k l c b (1 + (T.length : Int) + (G.length : Int) + (R.length : Int)) (1 + (T.length : Int) + (G.length : Int) + (R.length : Int)) x y z t g r X Y Z T G R X Y Z (markI T.length 1) (markI G.length (1 + (T.length : Int))) (markI R.length (1 + (T.length : Int) + (G.length : Int)))) true :=
  (ev_and (laws_toModel_ev x y z t g r ht hg hr) <| ev_and (laws_toHoleS_ev l hl) <| ev_and hi <| ev_and (laws_eqModel_ev X Y Z T G R hT hG hR) <| ev_one (j5_ev X Y Z T.length G.length R.length hT hG hR)).next fun k ⟨h1, h5, h2, h3, h4⟩ => by
    simp only [laws_FnExactUpdateAll.j4, h1, h5, h2, h3, Option.bind_some]
    rw [if_pos (by simp), if_pos (by simp), bne_self_eq_false]; exact h4
theorem j3_ev (x y z : Int) (t g r : List Int) (ht : t.length ≤ 1048576) (hg : g.length ≤ 1048576) (hr : r.length ≤ 1048576) (l : List S122) (c : Int) (hl : l.length ≤ 1048576) (hq : t.length + g.length + r.length + l.length ≤ 1048576) (X Y Z : Int) (T G R : List Int) (b : Bool) (hT : T.length ≤ 1048576) (hG : G.length ≤ 1048576) (hR : R.length ≤ 1048576) (hi : Ev (fun k => impl_UpdateAll.f k x y z t g r (l.map toHole) c) (X, Y, Z, T, G, R, b)) : Ev (fun k => laws_FnExactUpdateAll.j3 k l c b false x y z t g r X Y Z T G R X Y Z T G R) true :=
  (ev_and (laws_markModel_ev X Y Z T G R hT hG hR 1 (by omega) (by omega)) <| ev_and (laws_heldModel_ev X Y Z T.length G.length R.length hT hG hR 1 (by omega) (by omega)) <| ev_one (j4_ev x y z t g r ht hg hr l c hl hq X Y Z T G R b hT hG hR hi)).next fun k ⟨h1, h2, h3⟩ => by
    simp only [laws_FnExactUpdateAll.j3, h1, h2, Option.bind_some]
    rw [if_neg (by simp), if_neg (by omega)]; exact h3
theorem j2_ev (x y z : Int) (t g r : List Int) (ht : t.length ≤ 1048576) (hg : g.length ≤ 1048576) (hr : r.length ≤ 1048576) (l : List S122) (c : Int) (hl : l.length ≤ 1048576) (hq : t.length + g.length + r.length + l.length ≤ 1048576) (X Y Z : Int) (T G R : List Int) (b : Bool) (hT : T.length ≤ 1048576) (hG : G.length ≤ 1048576) (hR : R.length ≤ 1048576) (hi : Ev (fun k => impl_UpdateAll.f k x y z t g r (l.map toHole) c) (X, Y, Z, T, G, R, b)) : Ev (fun k => laws_FnExactUpdateAll.j2 k l c b (l.map toHole) b x y z t g r X Y Z T G R x y z t g r X Y Z T G R) true := by
  obtain ⟨u, hu⟩ := laws_markHoleS_ev (l.map toHole) (1 + (t.length : Int) + (g.length : Int) + (r.length : Int)) (by omega) (by simp; omega)
  refine (ev_and (laws_markModel_ev x y z t g r ht hg hr 1 (by omega) (by omega)) <| ev_and hu <| ev_and (laws_eqModel_ev X Y Z T G R hT hG hR) <| ev_one (j3_ev x y z t g r ht hg hr l c hl hq X Y Z T G R b hT hG hR hi)).next fun k ⟨h1, h2, h3, h4⟩ => ?_
  simp only [laws_FnExactUpdateAll.j2, h1, h2, h3, Option.bind_some]
  rw [if_neg (by simp; omega), if_pos (by simp), bne_self_eq_false]; exact h4
theorem j1_ev (x y z : Int) (t g r : List Int) (ht : t.length ≤ 1048576) (hg : g.length ≤ 1048576) (hr : r.length ≤ 1048576) (l : List S122) (c : Int) (hl : l.length ≤ 1048576) (hq : t.length + g.length + r.length + l.length ≤ 1048576) (X Y Z : Int) (T G R : List Int) (b : Bool) (hT : T.length ≤ 1048576) (hG : G.length ≤ 1048576) (hR : R.length ≤ 1048576) (hi : Ev (fun k => impl_UpdateAll.f k x y z t g r (l.map toHole) c) (X, Y, Z, T, G, R, b)) : Ev (fun k => laws_FnExactUpdateAll.j1 k l c b (l.map toHole) b x y z t g r X Y Z T G R x y z t g r X Y Z T G R) true :=
  (ev_and (laws_toHoleS_ev l hl) <| ev_and (laws_eqHoleS_ev (l.map toHole) (by simp; omega)) <| ev_one (j2_ev x y z t g r ht hg hr l c hl hq X Y Z T G R b hT hG hR hi)).next fun k ⟨h1, h2, h3⟩ => by
    simp only [laws_FnExactUpdateAll.j1, h1, h2, Option.bind_some]
    rw [if_pos (by simp)]; exact h3
theorem j0_ev (x y z : Int) (t g r : List Int) (ht : t.length ≤ 1048576) (hg : g.length ≤ 1048576) (hr : r.length ≤ 1048576) (l : List S122) (c : Int) (hl : l.length ≤ 1048576) (hq : t.length + g.length + r.length + l.length ≤ 1048576) (X Y Z : Int) (T G R : List Int) (b : Bool) (hT : T.length ≤ 1048576) (hG : G.length ≤ 1048576) (hR : R.length ≤ 1048576) (hi : Ev (fun k => impl_UpdateAll.f k x y z t g r (l.map toHole) c) (X, Y, Z, T, G, R, b)) : Ev (fun k => laws_FnExactUpdateAll.j0 k l c b (l.map toHole) b false x y z t g r X Y Z T G R x y z t g r X Y Z T G R) true :=
  (ev_and (laws_toModel_ev x y z t g r ht hg hr) <| ev_and (laws_eqModel_ev x y z t g r ht hg hr) <| ev_one (j1_ev x y z t g r ht hg hr l c hl hq X Y Z T G R b hT hG hR hi)).next fun k ⟨h1, h2, h3⟩ => by
    simp only [laws_FnExactUpdateAll.j0, h1, h2, Option.bind_some]
    rw [if_neg (by simp), if_pos (by simp)]; exact h3
theorem law_ev (x y z : Int) (t g r : List Int) (ht : t.length ≤ 1048576) (hg : g.length ≤ 1048576) (hr : r.length ≤ 1048576) (l : List S122) (c : Int) (hl : l.length ≤ 1048576) (hq : t.length + g.length + r.length + l.length ≤ 1048576) (X Y Z : Int) (T G R : List Int) (b : Bool) (hT : T.length ≤ 1048576) (hG : G.length ≤ 1048576) (hR : R.length ≤ 1048576) (hs : Ev (fun k => spec_UpdateAll.f k x y z t g r (l.map toHole) c) (X, Y, Z, T, G, R, b)) (hi : Ev (fun k => impl_UpdateAll.f k x y z t g r (l.map toHole) c) (X, Y, Z, T, G, R, b)) : Ev (fun k => laws_FnExactUpdateAll.f k x y z t g r l c) true := by
  have hz := laws_szModel_eq x y z t g r 1048576 (by omega) (by omega) (by omega) (by omega) (by omega)
  have hy := laws_szHoleS_eq l (1048576 - ((t.length + g.length + r.length : Nat) : Int)) (by omega) (by omega) (by omega)
  rw [if_neg (by omega)] at hy
  refine (ev_and (laws_toModel_ev x y z t g r ht hg hr) <| ev_and (laws_toHoleS_ev l hl) <| ev_and hs <| ev_and hi <| ev_and (laws_eqModel_ev X Y Z T G R hT hG hR) <| ev_one (j0_ev x y z t g r ht hg hr l c hl hq X Y Z T G R b hT hG hR hi)).ev fun k ⟨a1, a6, a2, a3, a4, a5⟩ => ?_
  simp only [laws_FnExactUpdateAll.f, hz, Option.bind_some]
  rw [left_ge (by omega), if_neg (by omega), hy, Option.bind_some, if_neg (by omega)]
  simp only [a1, a2, a3, a4, a6, Option.bind_some]
  rw [if_pos (by simp), bne_self_eq_false]; exact a5
theorem FnExactUpdateAll : Stat.FnExactUpdateAll := by
  intro x y z t g r l c _ _ _ ht hg hr hl _
  refine Ev.rounds ?_
  have hz := laws_szModel_eq x y z t g r 1048576 (by omega) (by omega) ht.1 hg.1 hr.1
  by_cases hq : (1048576 : Int) < ((t.length + g.length + r.length : Nat) : Int)
  · refine Ev.all fun k => ?_
    simp only [laws_FnExactUpdateAll.f, hz, Option.bind_some]
    rw [left_lt hq, if_pos (by omega)]
  have hy := laws_szHoleS_eq l (1048576 - ((t.length + g.length + r.length : Nat) : Int)) (by omega) (by omega) hl.1
  by_cases hp : 1048576 - ((t.length + g.length + r.length : Nat) : Int) < (l.length : Int)
  · refine Ev.all fun k => ?_
    simp only [laws_FnExactUpdateAll.f, hz, Option.bind_some]
    rw [if_pos hp] at hy
    rw [left_ge (by omega), if_neg (by omega), hy, Option.bind_some, if_pos (by omega)]
  have h1 : t.length ≤ 1048576 := by omega
  have h2 : g.length ≤ 1048576 := by omega
  have h3 : r.length ≤ 1048576 := by omega
  have s1 := spec_UpdateAll_ev x y z t g r h1 h2 h3 (l.map toHole) c (by simp; omega)
  have s2 := impl_UpdateAll_ev x y z t g r h1 h2 h3 (l.map toHole) c (by simp; omega)
  have qq := updateAll_len x y z t g r h1 h2 h3 (l.map toHole) c
  generalize updateAll x y z t g r (l.map toHole) c = v at s1 s2 qq
  obtain ⟨X, Y, Z, T, G, R, b⟩ := v
  exact law_ev x y z t g r h1 h2 h3 l c (by omega) (by omega) X Y Z T G R b qq.1 qq.2.1 qq.2.2 s1 s2
end Go.Proofs.Ytagnldmaglbpaaa.PureFnExactUpdateAll
namespace Go.Proofs.Ytagnldmaglbpaaa.Pure
theorem FnExactUpdateAll : Stat.FnExactUpdateAll := PureFnExactUpdateAll.FnExactUpdateAll
end Go.Proofs.Ytagnldmaglbpaaa.Pure
