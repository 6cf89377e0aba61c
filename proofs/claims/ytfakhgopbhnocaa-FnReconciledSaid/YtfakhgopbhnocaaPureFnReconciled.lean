/- The law FnReconciled over numbers and lists: it is true of every input. -/
import Derived.Test.YtfakhgopbhnocaaStatFnReconciled
import Derived.Test.YtfakhgopbhnocaaWMore
set_option linter.unusedVariables false
set_option linter.unusedSimpArgs false
namespace Go.Proofs.Ytfakhgopbhnocaa.Kit
open Go.RowKit Go.Proofs.YtfakhgopbhnocaaW.PrintWords Go.Proofs.YtfakhgopbhnocaaW.PrintMore

/-! ### Rounds -/
theorem Ev.all {α : Type} {g : Nat → Option α} {r : α} (h : ∀ k, g k = some r) : Ev g r := ⟨0, fun k _ => h k⟩
theorem Ev.of1 {α β : Type} {g : Nat → Option α} {f : Nat → Option β} {r : α} {b : β} (h : Ev f b) (k : ∀ k, f k = some b → g k = some r) : Ev g r := by
  obtain ⟨K, h⟩ := h; exact ⟨K, fun n hn => k n (h n hn)⟩
theorem Ev.of2 {α β γ : Type} {g : Nat → Option α} {f : Nat → Option β} {f' : Nat → Option γ} {r : α} {b : β} {c : γ} (h : Ev f b) (h' : Ev f' c) (k : ∀ k, f k = some b → f' k = some c → g k = some r) : Ev g r := by
  obtain ⟨K, h⟩ := h; obtain ⟨K', h'⟩ := h'; exact ⟨K + K', fun n hn => k n (h n (by omega)) (h' n (by omega))⟩
theorem Ev.next0 {α : Type} {g : Nat → Option α} {r : α} (h : ∀ k, g (k + 1) = some r) : Ev g r :=
  ⟨1, fun n hn => by obtain ⟨m, rfl⟩ : ∃ m, n = m + 1 := ⟨n - 1, by omega⟩; exact h m⟩
theorem Ev.next1 {α β : Type} {g : Nat → Option α} {f : Nat → Option β} {r : α} {b : β} (h : Ev f b) (k : ∀ k, f k = some b → g (k + 1) = some r) : Ev g r := by
  obtain ⟨K, h⟩ := h
  exact ⟨K + 1, fun n hn => by obtain ⟨m, rfl⟩ : ∃ m, n = m + 1 := ⟨n - 1, by omega⟩; exact k m (h m (by omega))⟩
theorem Ev.next2 {α β γ : Type} {g : Nat → Option α} {f : Nat → Option β} {f' : Nat → Option γ} {r : α} {b : β} {c : γ} (h : Ev f b) (h' : Ev f' c) (k : ∀ k, f k = some b → f' k = some c → g (k + 1) = some r) : Ev g r := by
  obtain ⟨K, h⟩ := h; obtain ⟨K', h'⟩ := h'
  exact ⟨K + K' + 1, fun n hn => by obtain ⟨m, rfl⟩ : ∃ m, n = m + 1 := ⟨n - 1, by omega⟩; exact k m (h m (by omega)) (h' m (by omega))⟩
/-- From some number of rounds on. -/
def Evt (p : Nat → Prop) : Prop := ∃ K, ∀ k, K ≤ k → p k
theorem ev_one {α : Type} {f : Nat → Option α} {a : α} (h : Ev f a) : Evt (fun k => f k = some a) := h
theorem ev_and {α : Type} {f : Nat → Option α} {a : α} {p : Nat → Prop} (h : Ev f a) (h' : Evt p) : Evt (fun k => f k = some a ∧ p k) := by
  obtain ⟨K, h⟩ := h; obtain ⟨K', h'⟩ := h'; exact ⟨K + K', fun n hn => ⟨h n (by omega), h' n (by omega)⟩⟩
theorem Evt.ev {α : Type} {g : Nat → Option α} {r : α} {p : Nat → Prop} (h : Evt p) (k : ∀ k, p k → g k = some r) : Ev g r := by
  obtain ⟨K, h⟩ := h; exact ⟨K, fun n hn => k n (h n hn)⟩
theorem Evt.next {α : Type} {g : Nat → Option α} {r : α} {p : Nat → Prop} (h : Evt p) (k : ∀ k, p k → g (k + 1) = some r) : Ev g r := by
  obtain ⟨K, h⟩ := h
  exact ⟨K + 1, fun n hn => by obtain ⟨m, rfl⟩ : ∃ m, n = m + 1 := ⟨n - 1, by omega⟩; exact k m (h m (by omega))⟩

/-! ### Whole numbers -/
theorem wrap_id {x : Int} (h0 : -9223372036854775808 ≤ x) (h1 : x ≤ 9223372036854775807) : wrap64 x = x := by unfold wrap64; omega
theorem wrap_succ {i n : Nat} (h : i < n) (hn : n ≤ 9223372036854775807) : wrap64 ((i : Int) + 1) = ((i + 1 : Nat) : Int) := by unfold wrap64; omega
theorem toNat_cast (i : Nat) : ((i : Int)).toNat = i := by omega

theorem mx_eq (a b : Int) : mx a b = max a b := by unfold mx; split <;> omega
/-! ### Lists from an index on -/
theorem drop_cons {α : Type} {xs ys : List α} {y : α} {i : Nat} (h : xs.drop i = y :: ys) : i < xs.length ∧ xs[i]? = some y ∧ xs.drop (i + 1) = ys := by
  have hlt : i < xs.length := by
    by_cases hlt : i < xs.length
    · exact hlt
    · rw [List.drop_of_length_le (by omega)] at h; cases h
  rw [List.drop_eq_getElem_cons hlt] at h
  injection h with h1 h2
  exact ⟨hlt, by rw [List.getElem?_eq_getElem hlt, h1], h2⟩
theorem drop_nil {α : Type} {xs : List α} {i : Nat} (h : xs.drop i = []) : xs.length ≤ i := by simpa using h
theorem getD_drop {α : Type} {xs ys : List α} {y d : α} {i : Nat} (h : xs.drop i = y :: ys) : xs.getD ((i : Int)).toNat d = y := by
  rw [toNat_cast, List.getD_eq_getElem?_getD, (drop_cons h).2.1]; rfl
theorem rd_drop {xs ys : List Int} {y : Int} {i : Nat} (h : xs.drop i = y :: ys) : rd xs (i : Int) = y := getD_drop h
theorem getD_get {α : Type} {xs : List α} {y d : α} {i : Nat} (h : xs[i]? = some y) : xs.getD ((i : Int)).toNat d = y := by
  rw [toNat_cast, List.getD_eq_getElem?_getD, h]; rfl
theorem rd_get {xs : List Int} {y : Int} {i : Nat} (h : xs[i]? = some y) : rd xs (i : Int) = y := getD_get h
/-! ### A list that is copied, element for element -/
/-! ### Strictly increasing lists of 0..n-1 -/
def rise (n : Int) : Int → List Int → Bool
  | _, [] => true
  | p, y :: ys => decide (0 ≤ y ∧ y < n ∧ p < y) && rise n y ys
theorem rise_mem {n : Int} : ∀ {p : Int} {ys : List Int}, rise n p ys = true → ∀ y ∈ ys, 0 ≤ y ∧ y < n ∧ p < y
  | p, [], _, y, hy => by cases hy
  | p, z :: zs, h, y, hy => by
    simp only [rise, Bool.and_eq_true, decide_eq_true_eq] at h
    rcases List.mem_cons.1 hy with rfl | hy
    · exact h.1
    · have := rise_mem h.2 y hy; omega

/-! ### Numbers marked and held -/
end Go.Proofs.Ytfakhgopbhnocaa.Kit
namespace Go.Proofs.Ytfakhgopbhnocaa.Model
open Go.RowKit Go.Proofs.YtfakhgopbhnocaaW.PrintWords Go.Proofs.Ytfakhgopbhnocaa.Kit

/-- Numbers within bounds, all of them. -/
def allIn (lo hi : Int) : List Int → Bool
  | [] => true
  | y :: ys => decide (lo ≤ y ∧ y ≤ hi) && allIn lo hi ys
theorem allIn_mem {lo hi : Int} : ∀ {ys : List Int}, allIn lo hi ys = true → ∀ y ∈ ys, lo ≤ y ∧ y ≤ hi
  | [], _, y, hy => by cases hy
  | z :: zs, h, y, hy => by
    simp only [allIn, Bool.and_eq_true, decide_eq_true_eq] at h
    rcases List.mem_cons.1 hy with rfl | hy
    · exact h.1
    · exact allIn_mem h.2 y hy
theorem allIn_get {lo hi : Int} {ys : List Int} (h : allIn lo hi ys = true) {i : Nat} {y : Int} (hy : ys[i]? = some y) : lo ≤ y ∧ y ≤ hi := allIn_mem h y (List.mem_of_getElem? hy)
def gridOk (x y z : Int) : Bool := decide (1 ≤ x ∧ x ≤ 8 ∧ 1 ≤ y ∧ y ≤ 6 ∧ 1 ≤ z ∧ z ≤ 5 ∧ x * y * z ≤ 120)
theorem grid_prod {x y z : Int} (hx : 1 ≤ x ∧ x ≤ 8) (hy : 1 ≤ y ∧ y ≤ 6) (hz : 1 ≤ z ∧ z ≤ 5) : 1 ≤ x * y ∧ x * y ≤ 48 ∧ 1 ≤ x * y * z ∧ x * y * z ≤ 240 := by
  rcases (by omega : x = 1 ∨ x = 2 ∨ x = 3 ∨ x = 4 ∨ x = 5 ∨ x = 6 ∨ x = 7 ∨ x = 8) with rfl | rfl | rfl | rfl | rfl | rfl | rfl | rfl <;>
    rcases (by omega : z = 1 ∨ z = 2 ∨ z = 3 ∨ z = 4 ∨ z = 5) with rfl | rfl | rfl | rfl | rfl <;> omega
theorem grid_ok {x y z : Int} (h : gridOk x y z = true) : (1 ≤ x ∧ x ≤ 8) ∧ (1 ≤ y ∧ y ≤ 6) ∧ (1 ≤ z ∧ z ≤ 5) ∧ 1 ≤ x * y ∧ x * y ≤ 48 ∧ 1 ≤ x * y * z ∧ x * y * z ≤ 120 := by
  simp only [gridOk, decide_eq_true_eq] at h
  have := grid_prod (x := x) (y := y) (z := z) (by omega) (by omega) (by omega)
  omega
theorem grid_wrap {x y z : Int} (hx : 1 ≤ x ∧ x ≤ 8) (hy : 1 ≤ y ∧ y ≤ 6) (hz : 1 ≤ z ∧ z ≤ 5) : wrap64 (wrap64 (x * y) * z) = x * y * z := by
  have := grid_prod hx hy hz
  rw [wrap_id (x := x * y) (by omega) (by omega), wrap_id (by omega) (by omega)]
def modelOk (x y z : Int) (t g r : List Int) : Bool := gridOk x y z && decide ((t.length : Int) = x * y * z ∧ (g.length : Int) = x * y * z ∧ (r.length : Int) = x * y * z) && (allIn 0 10000 t && (allIn 0 1000 g && allIn 0 4 r))
/-- A fraction in lowest terms, of numbers that are not negative. -/
def low (a b : Int) : Int × Int := (a / (Nat.gcd a.natAbs b.natAbs : Int), b / (Nat.gcd a.natAbs b.natAbs : Int))
theorem low_bd {a b : Int} (ha : 0 ≤ a) (hb : 0 < b) : 1 ≤ (Nat.gcd a.natAbs b.natAbs : Int) ∧ 0 ≤ (low a b).1 ∧ (low a b).1 ≤ a ∧ 1 ≤ (low a b).2 ∧ (low a b).2 ≤ b ∧ a = (low a b).1 * (Nat.gcd a.natAbs b.natAbs : Int) ∧ b = (low a b).2 * (Nat.gcd a.natAbs b.natAbs : Int) := by
  have hg : 0 < Nat.gcd a.natAbs b.natAbs := Nat.gcd_pos_of_pos_right _ (by omega)
  have d1 : (Nat.gcd a.natAbs b.natAbs : Int) ∣ a := Int.natAbs_dvd_natAbs.1 (by simpa using Nat.gcd_dvd_left a.natAbs b.natAbs)
  have d2 : (Nat.gcd a.natAbs b.natAbs : Int) ∣ b := Int.natAbs_dvd_natAbs.1 (by simpa using Nat.gcd_dvd_right a.natAbs b.natAbs)
  have e1 := Int.ediv_mul_cancel d1
  have e2 := Int.ediv_mul_cancel d2
  have h1 : 0 ≤ a / (Nat.gcd a.natAbs b.natAbs : Int) := Int.ediv_nonneg ha (by omega)
  have h2 : a / (Nat.gcd a.natAbs b.natAbs : Int) ≤ a := Int.ediv_le_self _ ha
  have h3 : 0 ≤ b / (Nat.gcd a.natAbs b.natAbs : Int) := Int.ediv_nonneg (by omega) (by omega)
  have h4 : b / (Nat.gcd a.natAbs b.natAbs : Int) ≤ b := Int.ediv_le_self _ (by omega)
  refine ⟨by omega, h1, h2, ?_, h4, e1.symm, e2.symm⟩
  by_cases h5 : b / (Nat.gcd a.natAbs b.natAbs : Int) = 0
  · rw [h5] at e2; omega
  · show 1 ≤ b / (Nat.gcd a.natAbs b.natAbs : Int); omega
end Go.Proofs.Ytfakhgopbhnocaa.Model
namespace Go.Proofs.Ytfakhgopbhnocaa.PureFnReconciled
open Go.RowKit Go.Proofs.Ytfakhgopbhnocaa.PFnReconciled Go.Proofs.YtfakhgopbhnocaaW.PrintWords Go.Proofs.YtfakhgopbhnocaaW.PrintLast Go.Proofs.YtfakhgopbhnocaaW.PrintMore Go.Proofs.Ytfakhgopbhnocaa.Kit Go.Proofs.Ytfakhgopbhnocaa.Model
theorem wrap_u64' (n : Int) : IntKind.u64.wrap n = n % 18446744073709551616 := by simp [IntKind.wrap, IntKind.bits, IntKind.signed]
theorem and255 (x : Int) (h0 : 0 ≤ x) (h1 : x < 16777216) : Go.bits .and .u64 x 255 = x % 256 := bits_mask .u64 24 (by decide) (fun n a b => by rw [wrap_u64']; omega) 8 (by decide) x h0 h1
theorem tail_bd (y : Int) : 0 ≤ wrap64 (Go.bits .and .u64 (IntKind.u64.wrap y / 1099511627776) 255) ∧ wrap64 (Go.bits .and .u64 (IntKind.u64.wrap y / 1099511627776) 255) ≤ 255 := by
  rw [wrap_u64', and255 _ (by omega) (by omega), wrap_id (by omega) (by omega)]
  omega
theorem byte_bd {l : List Int} (hl : ∀ x ∈ l, 0 ≤ x ∧ x ≤ 255) {p : Int} (h0 : 0 ≤ p) (h1 : p < (l.length : Int)) : 0 ≤ rd l p ∧ rd l p ≤ 255 := by
  obtain ⟨i, rfl⟩ := Int.eq_ofNat_of_zero_le h0
  have hi : i < l.length := by omega
  have e : l[i]? = some l[i] := List.getElem?_eq_getElem hi
  have r : rd l ((i : Nat) : Int) = l[i] := rd_get e
  show 0 ≤ rd l ((i : Nat) : Int) ∧ rd l ((i : Nat) : Int) ≤ 255
  rw [r]
  exact hl _ (List.getElem_mem hi)
theorem spec_l1Cur_next_some (l : List Int) (hl : ∀ x ∈ l, 0 ≤ x ∧ x ≤ 255) (hn : l.length ≤ 9223372036854775807) (p s : Int) (h0 : 0 ≤ p) (h1 : p ≤ 1000000) : ∃ r s', spec_l1Cur_next.f l p s = some (r, p + 1, s') ∧ 0 ≤ r ∧ r ≤ 255 := by
  have ew : wrap64 (p + 1) = p + 1 := wrap_id (by omega) (by omega)
  simp only [spec_l1Cur_next.f, ew]
  by_cases c : p < (l.length : Int)
  · rw [if_pos c, if_pos h0, if_pos (by omega)]
    have b := byte_bd hl h0 c
    exact ⟨_, _, rfl, by rw [wrap_id (by omega) (by omega)]; exact b⟩
  · rw [if_neg c, if_neg (by omega)]
    exact ⟨_, _, rfl, tail_bd _⟩
theorem spec_l1Cur_pick_some (l : List Int) (hl : ∀ x ∈ l, 0 ≤ x ∧ x ≤ 255) (hn : l.length ≤ 9223372036854775807) (p s : Int) (h0 : 0 ≤ p) (h1 : p ≤ 900000) (n : Int) : ∃ r p' s', spec_l1Cur_pick.f l p s n = some (r, p', s') ∧ (0 ≤ r ∧ (1 ≤ n → r < n)) ∧ p ≤ p' ∧ p' ≤ p + 2 := by
  by_cases c : n ≤ 1
  · refine ⟨0, p, s, ?_, by omega, by omega, by omega⟩
    simp only [spec_l1Cur_pick.f]
    rw [if_pos c]
  · obtain ⟨x, s1, e1, b1⟩ := spec_l1Cur_next_some l hl hn p s h0 (by omega)
    have tm : ∀ v : Int, 0 ≤ v → 0 ≤ Int.tmod v n ∧ Int.tmod v n < n := fun v hv => by
      rw [Int.tmod_eq_emod_of_nonneg hv]
      exact ⟨Int.emod_nonneg v (by omega), Int.emod_lt_of_pos v (by omega)⟩
    by_cases d : n > 200
    · obtain ⟨y, s2, e2, b2⟩ := spec_l1Cur_next_some l hl hn (p + 1) s1 (by omega) (by omega)
      have t := tm (x * 256 + y) (by omega)
      refine ⟨Int.tmod (x * 256 + y) n, p + 1 + 1, s2, ?_, ⟨t.1, fun _ => t.2⟩, by omega, by omega⟩
      simp only [spec_l1Cur_pick.f, e1, e2, Option.bind_some]
      rw [if_neg c, if_pos d, if_neg (by omega), wrap_id (x := x * 256) (by omega) (by omega), wrap_id (x := x * 256 + y) (by omega) (by omega)]
    · have t := tm x b1.1
      refine ⟨Int.tmod x n, p + 1, s1, ?_, ⟨t.1, fun _ => t.2⟩, by omega, by omega⟩
      simp only [spec_l1Cur_pick.f, e1, Option.bind_some]
      rw [if_neg c, if_neg d, if_neg (by omega)]
theorem spec_l1Cur_among_some (l : List Int) (hl : ∀ x ∈ l, 0 ≤ x ∧ x ≤ 255) (hn : l.length ≤ 9223372036854775807) (p s : Int) (h0 : 0 ≤ p) (h1 : p ≤ 900000) (xs : List Int) (hx : 1 ≤ xs.length) : ∃ r p' s', spec_l1Cur_among.f l p s xs = some (r, p', s') ∧ p ≤ p' ∧ p' ≤ p + 2 := by
  obtain ⟨r, p', s', e, b, c⟩ := spec_l1Cur_pick_some l hl hn p s h0 h1 (xs.length : Int)
  have d := b.2 (by omega)
  refine ⟨rd xs r, p', s', ?_, c⟩
  simp only [spec_l1Cur_among.f, e, Option.bind_some]
  rw [if_pos b.1, if_pos d]
theorem spec_l1Cur_one_some (l : List Int) (hl : ∀ x ∈ l, 0 ≤ x ∧ x ≤ 255) (hn : l.length ≤ 9223372036854775807) (p s : Int) (h0 : 0 ≤ p) (h1 : p ≤ 900000) (n : Int) : ∃ r p' s', spec_l1Cur_one.f l p s n = some (r, p', s') ∧ p ≤ p' ∧ p' ≤ p + 2 := by
  obtain ⟨r, p', s', e, _, c⟩ := spec_l1Cur_pick_some l hl hn p s h0 h1 n
  exact ⟨(r == 0), p', s', by simp only [spec_l1Cur_one.f, e, Option.bind_some], c⟩
theorem spec_l1Cur_grid_some (l : List Int) (hl : ∀ x ∈ l, 0 ≤ x ∧ x ≤ 255) (hn : l.length ≤ 9223372036854775807) (p s : Int) (h0 : 0 ≤ p) (h1 : p ≤ 800000) : ∃ x y z p' s', spec_l1Cur_grid.f l p s = some (x, y, z, p', s') ∧ ((1 ≤ x ∧ x ≤ 8) ∧ (1 ≤ y ∧ y ≤ 6) ∧ (1 ≤ z ∧ z ≤ 5) ∧ x * y * z ≤ 120) ∧ p ≤ p' ∧ p' ≤ p + 8 := by
  obtain ⟨o, p1, s1, e1, b1⟩ := spec_l1Cur_one_some l hl hn p s h0 (by omega) 24
  obtain ⟨q, p2, s2, e2, c2, b2⟩ := spec_l1Cur_pick_some l hl hn p1 s1 (by omega) (by omega) 4
  have c2' := c2.2 (by omega)
  by_cases c : o = true
  · obtain ⟨x, y, z, hq, hb⟩ : ∃ x y z : Int, rd_T24 [(⟨8, 5, 3⟩ : S24), ⟨8, 3, 5⟩, ⟨4, 6, 5⟩, ⟨1, 1, 1⟩] q = ⟨x, y, z⟩ ∧ ((1 ≤ x ∧ x ≤ 8) ∧ (1 ≤ y ∧ y ≤ 6) ∧ (1 ≤ z ∧ z ≤ 5) ∧ x * y * z ≤ 120) := by
      obtain h | h | h | h : q = 0 ∨ q = 1 ∨ q = 2 ∨ q = 3 := by omega
      · subst h; exact ⟨8, 5, 3, rfl, by decide⟩
      · subst h; exact ⟨8, 3, 5, rfl, by decide⟩
      · subst h; exact ⟨4, 6, 5, rfl, by decide⟩
      · subst h; exact ⟨1, 1, 1, rfl, by decide⟩
    refine ⟨x, y, z, p2, s2, ?_, hb, by omega, by omega⟩
    simp only [spec_l1Cur_grid.f, e1, e2, Option.bind_some]
    rw [if_pos c, if_pos c2.1, if_pos (by simpa using c2'), hq]
  · obtain ⟨r, p3, s3, e3, c3, b3⟩ := spec_l1Cur_pick_some l hl hn p2 s2 (by omega) (by omega) 3
    obtain ⟨t, p4, s4, e4, c4, b4⟩ := spec_l1Cur_pick_some l hl hn p3 s3 (by omega) (by omega) 3
    have c3' := c3.2 (by omega)
    have c4' := c4.2 (by omega)
    have m0 : (1 + q) * (1 + r) ≤ 4 * 3 := Int.mul_le_mul (by omega) (by omega) (by omega) (by omega)
    have m1 : 1 ≤ (1 + q) * (1 + r) := Int.mul_pos (by omega) (by omega)
    have m2 : (1 + q) * (1 + r) * (1 + t) ≤ 12 * 3 := Int.mul_le_mul m0 (by omega) (by omega) (by omega)
    refine ⟨1 + q, 1 + r, 1 + t, p4, s4, ?_, ⟨by omega, by omega, by omega, by omega⟩, by omega, by omega⟩
    simp only [spec_l1Cur_grid.f, e1, e2, e3, e4, Option.bind_some]
    rw [if_neg c, wrap_id (x := 1 + q) (by omega) (by omega), wrap_id (x := 1 + r) (by omega) (by omega), wrap_id (x := 1 + t) (by omega) (by omega)]
theorem spec_l1Cur_anyGrid_some (l : List Int) (hl : ∀ x ∈ l, 0 ≤ x ∧ x ≤ 255) (hn : l.length ≤ 9223372036854775807) (p s : Int) (h0 : 0 ≤ p) (h1 : p ≤ 700000) : ∃ x y z p' s', spec_l1Cur_anyGrid.f l p s = some (x, y, z, p', s') ∧ p ≤ p' ∧ p' ≤ p + 12 := by
  obtain ⟨x, y, z, p1, s1, e1, _, b1⟩ := spec_l1Cur_grid_some l hl hn p s h0 (by omega)
  obtain ⟨q, p2, s2, e2, _, b2⟩ := spec_l1Cur_pick_some l hl hn p1 s1 (by omega) (by omega) 30
  by_cases c0 : q = 0
  · obtain ⟨r, p3, s3, e3, b3⟩ := spec_l1Cur_among_some l hl hn p2 s2 (by omega) (by omega) [0, 8, 9, (-1)] (by simp)
    refine ⟨r, y, z, p3, s3, ?_, by omega, by omega⟩
    simp only [spec_l1Cur_anyGrid.f, e1, e2, e3, Option.bind_some]
    rw [if_pos c0]
  by_cases c1 : q = 1
  · obtain ⟨r, p3, s3, e3, b3⟩ := spec_l1Cur_among_some l hl hn p2 s2 (by omega) (by omega) [0, 6, 7, (-1)] (by simp)
    refine ⟨x, r, z, p3, s3, ?_, by omega, by omega⟩
    simp only [spec_l1Cur_anyGrid.f, e1, e2, e3, Option.bind_some]
    rw [if_neg c0, if_pos c1]
  by_cases c2 : q = 2
  · obtain ⟨r, p3, s3, e3, b3⟩ := spec_l1Cur_among_some l hl hn p2 s2 (by omega) (by omega) [0, 5, 6, (-1)] (by simp)
    refine ⟨x, y, r, p3, s3, ?_, by omega, by omega⟩
    simp only [spec_l1Cur_anyGrid.f, e1, e2, e3, Option.bind_some]
    rw [if_neg c0, if_neg c1, if_pos c2]
  by_cases c3 : q = 3
  · obtain ⟨r, p3, s3, e3, b3⟩ := spec_l1Cur_among_some l hl hn p2 s2 (by omega) (by omega) [2, 3] (by simp)
    refine ⟨8, 6, r, p3, s3, ?_, by omega, by omega⟩
    simp only [spec_l1Cur_anyGrid.f, e1, e2, e3, Option.bind_some]
    rw [if_neg c0, if_neg c1, if_neg c2, if_pos c3]
  by_cases c4 : q = 4
  · refine ⟨1, 1, 4611686018427387904, p2, s2, ?_, by omega, by omega⟩
    simp only [spec_l1Cur_anyGrid.f, e1, e2, Option.bind_some]
    rw [if_neg c0, if_neg c1, if_neg c2, if_neg c3, if_pos c4]
  · refine ⟨x, y, z, p2, s2, ?_, by omega, by omega⟩
    simp only [spec_l1Cur_anyGrid.f, e1, e2, Option.bind_some]
    rw [if_neg c0, if_neg c1, if_neg c2, if_neg c3, if_neg c4]
theorem spec_grCount_eq (x y z : Int) (h : gridOk x y z = true) : spec_grCount.f x y z = some (x * y * z) := by
  have hb := grid_ok h
  simp only [spec_grCount.f]
  rw [grid_wrap hb.1 hb.2.1 hb.2.2.1]
theorem spec_l1Cur_model_l0 (l : List Int) (hl : ∀ x ∈ l, 0 ≤ x ∧ x ≤ 255) (hn : l.length ≤ 9223372036854775807) (x y z : Int) : ∀ (d : Nat) (t g r : List Int) (p s : Int), t.length + d ≤ 120 → g.length = t.length → r.length = t.length → 0 ≤ p → p + 10 * (d : Int) ≤ 700000 →
    ∃ t' g' r' p' s', Ev (fun k => spec_l1Cur_model.l0 k (d : Int) l p s x y z t g r) (x, y, z, t', g', r', p', s') ∧ (t'.length = t.length + d ∧ g'.length = t'.length ∧ r'.length = t'.length) ∧ p ≤ p' ∧ p' ≤ p + 10 * (d : Int)
  | 0, t, g, r, p, s, h1, h2, h3, h4, h5 => by
      refine ⟨t, g, r, p, s, Ev.next0 fun k => ?_, by omega, by omega, by omega⟩
      simp only [spec_l1Cur_model.l0]
      rw [if_neg (by omega)]
  | d + 1, t, g, r, p, s, h1, h2, h3, h4, h5 => by
      obtain ⟨q1, p1, s1, e1, _, b1⟩ := spec_l1Cur_pick_some l hl hn p s h4 (by omega) 10001
      obtain ⟨v1, p2, s2, e2, b2⟩ := spec_l1Cur_among_some l hl hn p1 s1 (by omega) (by omega) [0, 100, 100, 200, 500, 1000, q1] (by simp)
      obtain ⟨q2, p3, s3, e3, _, b3⟩ := spec_l1Cur_pick_some l hl hn p2 s2 (by omega) (by omega) 1001
      obtain ⟨v2, p4, s4, e4, b4⟩ := spec_l1Cur_among_some l hl hn p3 s3 (by omega) (by omega) [0, 0, 5, 10, 20, 50, q2] (by simp)
      obtain ⟨v3, p5, s5, e5, _, b5⟩ := spec_l1Cur_pick_some l hl hn p4 s4 (by omega) (by omega) 5
      obtain ⟨t', g', r', p', s', h, ⟨g1, g2, g3⟩, g4, g5⟩ := spec_l1Cur_model_l0 l hl hn x y z d (t ++ [v1]) (g ++ [v2]) (r ++ [v3]) p5 s5 (by simp; omega) (by simp; omega) (by simp; omega) (by omega) (by push_cast at h5; omega)
      refine ⟨t', g', r', p', s', Ev.next1 h fun k hk => ?_, ⟨by simp at g1; omega, g2, g3⟩, by omega, by push_cast; omega⟩
      simp only [spec_l1Cur_model.l0, e1, e2, e3, e4, e5, Option.bind_some]
      rw [if_pos (by omega), if_pos (by omega), if_pos (by omega), if_pos (by omega), wrap_id (x := ((d + 1 : Nat) : Int) - 1) (by omega) (by omega), show ((d + 1 : Nat) : Int) - 1 = (d : Int) by omega]
      exact hk
theorem spec_grCount_small {x y z : Int} (h : (1 ≤ x ∧ x ≤ 8) ∧ (1 ≤ y ∧ y ≤ 6) ∧ (1 ≤ z ∧ z ≤ 5) ∧ x * y * z ≤ 120) : spec_grCount.f x y z = some (x * y * z) ∧ 1 ≤ x * y * z := by
  obtain ⟨hx, hy, hz, hxyz⟩ := h
  have m0 : 1 ≤ x * y := Int.mul_pos (by omega) (by omega)
  have m1 : x * y ≤ 8 * 6 := Int.mul_le_mul hx.2 hy.2 (by omega) (by omega)
  have m2 : 1 ≤ x * y * z := Int.mul_pos (by omega) (by omega)
  refine ⟨?_, m2⟩
  simp only [spec_grCount.f]
  rw [wrap_id (x := x * y) (by omega) (by omega), wrap_id (x := x * y * z) (by omega) (by omega)]
theorem spec_l1Cur_model_some (l : List Int) (hl : ∀ x ∈ l, 0 ≤ x ∧ x ≤ 255) (hn : l.length ≤ 9223372036854775807) (p s : Int) (h0 : 0 ≤ p) (h1 : p ≤ 600000) : ∃ x y z t g r p' s', Ev (fun k => spec_l1Cur_model.f k l p s) (x, y, z, t, g, r, p', s') ∧ ((1 ≤ x ∧ x ≤ 8) ∧ (1 ≤ y ∧ y ≤ 6) ∧ (1 ≤ z ∧ z ≤ 5) ∧ x * y * z ≤ 120) ∧ ((t.length : Int) = x * y * z ∧ g.length = t.length ∧ r.length = t.length) ∧ p ≤ p' ∧ p' ≤ p + 1300 := by
  obtain ⟨x, y, z, p1, s1, e1, hb, b1⟩ := spec_l1Cur_grid_some l hl hn p s h0 (by omega)
  obtain ⟨ec, c0⟩ := spec_grCount_small hb
  obtain ⟨d, hd⟩ := Int.eq_ofNat_of_zero_le (show 0 ≤ x * y * z by omega)
  obtain ⟨t, g, r, p2, s2, e2, ⟨g1, g2, g3⟩, g4, g5⟩ := spec_l1Cur_model_l0 l hl hn x y z d [] [] [] p1 s1 (by simp; omega) rfl rfl (by omega) (by omega)
  refine ⟨x, y, z, t, g, r, p2, s2, Ev.of1 e2 fun k hk => ?_, hb, ⟨by simp at g1; omega, g2, g3⟩, by omega, by omega⟩
  simp only [spec_l1Cur_model.f, e1, ec, Option.bind_some]
  rw [hd]
  exact hk
theorem spec_l1Cur_anyModel_some (l : List Int) (hl : ∀ x ∈ l, 0 ≤ x ∧ x ≤ 255) (hn : l.length ≤ 9223372036854775807) (p s : Int) (h0 : 0 ≤ p) (h1 : p ≤ 500000) : ∃ x y z t g r p' s', Ev (fun k => spec_l1Cur_anyModel.f k l p s) (x, y, z, t, g, r, p', s') ∧ (t.length ≤ 120 ∧ g.length ≤ 120 ∧ r.length ≤ 121) ∧ p ≤ p' ∧ p' ≤ p + 1400 := by
  obtain ⟨x, y, z, t, g, r, p1, s1, e1, hb, ⟨g1, g2, g3⟩, b1⟩ := spec_l1Cur_model_some l hl hn p s h0 (by omega)
  obtain ⟨ec, c0⟩ := spec_grCount_small hb
  obtain ⟨q, p2, s2, e2, _, b2⟩ := spec_l1Cur_pick_some l hl hn p1 s1 (by omega) (by omega) 30
  obtain ⟨i, p3, s3, e3, c3, b3⟩ := spec_l1Cur_pick_some l hl hn p2 s2 (by omega) (by omega) (x * y * z)
  have c3' := c3.2 c0
  by_cases q0 : q = 0
  · obtain ⟨x', y', z', p4, s4, e4, b4⟩ := spec_l1Cur_anyGrid_some l hl hn p2 s2 (by omega) (by omega)
    refine ⟨x', y', z', t, g, r, p4, s4, Ev.of1 e1 fun k hk => ?_, by omega, by omega, by omega⟩
    simp only [spec_l1Cur_anyModel.f, hk, ec, e2, e4, Option.bind_some]
    rw [if_pos q0]
  by_cases q1 : q = 1
  · obtain ⟨v, p4, s4, e4, b4⟩ := spec_l1Cur_among_some l hl hn p3 s3 (by omega) (by omega) [(-1), 10000, 10001] (by simp)
    refine ⟨x, y, z, t.set i.toNat v, g, r, p4, s4, Ev.of1 e1 fun k hk => ?_, by simp only [List.length_set]; omega, by omega, by omega⟩
    simp only [spec_l1Cur_anyModel.f, hk, ec, e2, e3, e4, Option.bind_some]
    rw [if_neg q0, if_pos q1, if_pos c3.1, if_pos (by omega)]
  by_cases q2 : q = 2
  · obtain ⟨v, p4, s4, e4, b4⟩ := spec_l1Cur_among_some l hl hn p3 s3 (by omega) (by omega) [(-1), 1000, 1001] (by simp)
    refine ⟨x, y, z, t, g.set i.toNat v, r, p4, s4, Ev.of1 e1 fun k hk => ?_, by simp only [List.length_set]; omega, by omega, by omega⟩
    simp only [spec_l1Cur_anyModel.f, hk, ec, e2, e3, e4, Option.bind_some]
    rw [if_neg q0, if_neg q1, if_pos q2, if_pos c3.1, if_pos (by omega)]
  by_cases q3 : q = 3
  · obtain ⟨v, p4, s4, e4, b4⟩ := spec_l1Cur_among_some l hl hn p3 s3 (by omega) (by omega) [(-1), 4, 5] (by simp)
    refine ⟨x, y, z, t, g, r.set i.toNat v, p4, s4, Ev.of1 e1 fun k hk => ?_, by simp only [List.length_set]; omega, by omega, by omega⟩
    simp only [spec_l1Cur_anyModel.f, hk, ec, e2, e3, e4, Option.bind_some]
    rw [if_neg q0, if_neg q1, if_neg q2, if_pos q3, if_pos c3.1, if_pos (by omega)]
  by_cases q4 : q = 4
  · refine ⟨x, y, z, t, g, r ++ [0], p2, s2, Ev.of1 e1 fun k hk => ?_, by simp only [List.length_append, List.length_singleton]; omega, by omega, by omega⟩
    simp only [spec_l1Cur_anyModel.f, hk, ec, e2, Option.bind_some]
    rw [if_neg q0, if_neg q1, if_neg q2, if_neg q3, if_pos q4, if_pos (by omega)]
  · refine ⟨x, y, z, t, g, r, p2, s2, Ev.of1 e1 fun k hk => ?_, by omega, by omega, by omega⟩
    simp only [spec_l1Cur_anyModel.f, hk, ec, e2, Option.bind_some]
    rw [if_neg q0, if_neg q1, if_neg q2, if_neg q3, if_neg q4]
theorem spec_l1Own_eq (l : List Int) (h : l.length < 17592186044416) : spec_l1Own.f l = some l := by
  simp only [spec_l1Own.f, Option.bind_some, List.length_nil, List.nil_append]
  rw [if_pos (by omega)]
theorem spec_moOwn_eq (x y z : Int) (t g r : List Int) (ht : t.length ≤ 1048576) (hg : g.length ≤ 1048576) (hr : r.length ≤ 1048576) : spec_moOwn.f x y z t g r = some (x, y, z, t, g, r) := by
  simp only [spec_moOwn.f, spec_l1Own_eq t (by omega), spec_l1Own_eq g (by omega), spec_l1Own_eq r (by omega), Option.bind_some]
theorem least_eq (a b : Int) : spec_l1Least.f a b = some (if a < b then a else b) := by
  simp only [spec_l1Least.f]
  by_cases h : a < b
  · rw [if_pos h, if_pos h]
  · rw [if_neg h, if_neg h]
theorem spec_l1Most_eq (a b : Int) : spec_l1Most.f a b = some (max a b) := by
  unfold spec_l1Most.f
  split <;> (congr 1; omega)
theorem spec_l1Cur_beside_l0 (l : List Int) (hl : ∀ x ∈ l, 0 ≤ x ∧ x ≤ 255) (hn : l.length ≤ 9223372036854775807) (x y z : Int) (t g r : List Int) (x' y' z' : Int) (r' : List Int) : ∀ (d i : Nat) (t' g' : List Int) (p s : Int), g'.length = i + d → g'.length ≤ 120 → 0 ≤ p → p + 4 * (d : Int) ≤ 700000 →
    ∃ t2 g2 p' s', Ev (fun k => spec_l1Cur_beside.l0 k (g'.length : Int) (i : Int) l p s x y z t g r x' y' z' t' g' r') (x, y, z, t, g, r, x', y', z', t2, g2, r', p', s') ∧ (t2.length = t'.length ∧ g2.length = g'.length) ∧ p ≤ p' ∧ p' ≤ p + 4 * (d : Int)
  | 0, i, t', g', p, s, h1, h2, h3, h4 => by
      refine ⟨t', g', p, s, Ev.next0 fun k => ?_, by omega, by omega, by omega⟩
      simp only [spec_l1Cur_beside.l0]
      rw [if_neg (by omega)]
  | d + 1, i, t', g', p, s, h1, h2, h3, h4 => by
      have hi : wrap64 ((i : Int) + 1) = ((i + 1 : Nat) : Int) := wrap_succ (n := 120) (by omega) (by omega)
      obtain ⟨q, p1, s1, e1, _, b1⟩ := spec_l1Cur_pick_some l hl hn p s h3 (by omega) 4
      by_cases q0 : q = 0
      · obtain ⟨v, p2, s2, e2, _, b2⟩ := spec_l1Cur_pick_some l hl hn p1 s1 (by omega) (by omega) 30
        obtain ⟨t2, g2, p', s', h, ⟨a1, a2⟩, a3, a4⟩ := spec_l1Cur_beside_l0 l hl hn x y z t g r x' y' z' r' d (i + 1) t' (g'.set ((i : Int)).toNat (if 1000 < max 0 (wrap64 (wrap64 (rd g' (i : Int) + v) - 15)) then 1000 else max 0 (wrap64 (wrap64 (rd g' (i : Int) + v) - 15)))) p2 s2 (by simp; omega) (by simp; omega) (by omega) (by push_cast at h4; omega)
        refine ⟨t2, g2, p', s', Ev.next1 h fun k hk => ?_, ⟨a1, by simpa using a2⟩, by omega, by push_cast; omega⟩
        simp only [spec_l1Cur_beside.l0, e1, e2, spec_l1Most_eq, least_eq, Option.bind_some]
        rw [if_pos (by omega), if_pos q0, if_pos (by omega), if_pos (by omega), hi]
        simpa using hk
      by_cases q1 : q = 1
      · by_cases c : (i : Int) < (t'.length : Int)
        · obtain ⟨v, p2, s2, e2, _, b2⟩ := spec_l1Cur_pick_some l hl hn p1 s1 (by omega) (by omega) 200
          obtain ⟨t2, g2, p', s', h, ⟨a1, a2⟩, a3, a4⟩ := spec_l1Cur_beside_l0 l hl hn x y z t g r x' y' z' r' d (i + 1) (t'.set ((i : Int)).toNat (max 0 (wrap64 (rd t' (i : Int) - v)))) g' p2 s2 (by omega) (by omega) (by omega) (by push_cast at h4; omega)
          refine ⟨t2, g2, p', s', Ev.next1 h fun k hk => ?_, ⟨by simpa using a1, a2⟩, by omega, by push_cast; omega⟩
          simp only [spec_l1Cur_beside.l0, e1, e2, spec_l1Most_eq, Option.bind_some]
          rw [if_pos (by omega), if_neg q0, if_pos q1, if_pos c, if_pos (by omega), hi]
          exact hk
        · obtain ⟨t2, g2, p', s', h, ⟨a1, a2⟩, a3, a4⟩ := spec_l1Cur_beside_l0 l hl hn x y z t g r x' y' z' r' d (i + 1) t' g' p1 s1 (by omega) (by omega) (by omega) (by push_cast at h4; omega)
          refine ⟨t2, g2, p', s', Ev.next1 h fun k hk => ?_, ⟨a1, a2⟩, by omega, by push_cast; omega⟩
          simp only [spec_l1Cur_beside.l0, e1, Option.bind_some]
          rw [if_pos (by omega), if_neg q0, if_pos q1, if_neg c, hi]
          exact hk
      · obtain ⟨t2, g2, p', s', h, ⟨a1, a2⟩, a3, a4⟩ := spec_l1Cur_beside_l0 l hl hn x y z t g r x' y' z' r' d (i + 1) t' g' p1 s1 (by omega) (by omega) (by omega) (by push_cast at h4; omega)
        refine ⟨t2, g2, p', s', Ev.next1 h fun k hk => ?_, ⟨a1, a2⟩, by omega, by push_cast; omega⟩
        simp only [spec_l1Cur_beside.l0, e1, Option.bind_some]
        rw [if_pos (by omega), if_neg q0, if_neg q1, hi]
        exact hk
theorem spec_l1Cur_beside_some (l : List Int) (hl : ∀ x ∈ l, 0 ≤ x ∧ x ≤ 255) (hn : l.length ≤ 9223372036854775807) (p s : Int) (h0 : 0 ≤ p) (h1 : p ≤ 300000) : ∃ x y z t g r x' y' z' t' g' r' p' s', Ev (fun k => spec_l1Cur_beside.f k l p s) (x, y, z, t, g, r, x', y', z', t', g', r', p', s') ∧ (t.length ≤ 120 ∧ g.length ≤ 120 ∧ r.length ≤ 121) ∧ (t'.length ≤ 120 ∧ g'.length ≤ 120 ∧ r'.length ≤ 121) ∧ p ≤ p' ∧ p' ≤ p + 4000 := by
  obtain ⟨x, y, z, t, g, r, p1, s1, e1, g1, b1⟩ := spec_l1Cur_anyModel_some l hl hn p s h0 (by omega)
  obtain ⟨o, p2, s2, e2, b2⟩ := spec_l1Cur_one_some l hl hn p1 s1 (by omega) (by omega) 10
  by_cases c : o = true
  · obtain ⟨x', y', z', t', g', r', p3, s3, e3, g3, b3⟩ := spec_l1Cur_anyModel_some l hl hn p2 s2 (by omega) (by omega)
    refine ⟨x, y, z, t, g, r, x', y', z', t', g', r', p3, s3, Ev.of2 e1 e3 fun k hk hk' => ?_, g1, g3, by omega, by omega⟩
    simp only [spec_l1Cur_beside.f, hk, e2, hk', Option.bind_some]
    rw [if_pos c]
  · obtain ⟨t2, g2, p3, s3, e3, ⟨a1, a2⟩, a3, a4⟩ := spec_l1Cur_beside_l0 l hl hn x y z t g r x y z r g.length 0 t g p2 s2 (by omega) (by omega) (by omega) (by omega)
    refine ⟨x, y, z, t, g, r, x, y, z, t2, g2, r, p3, s3, Ev.of2 e1 e3 fun k hk hk' => ?_, g1, by omega, by omega, by omega⟩
    simp only [spec_l1Cur_beside.f, hk, e2, spec_moOwn_eq x y z t g r (by omega) (by omega) (by omega), Option.bind_some]
    rw [if_neg c]
    exact hk'
theorem spec_l1Cur_some_l1 (l : List Int) (p s : Int) (n : Nat) (hn : n ≤ 1000) : ∀ (d i : Nat) (v : List Int), i + d = n → v.length ≤ i → ∃ v', Ev (fun k => spec_l1Cur_some.l1 k (n : Int) v (i : Int) l p s) (v', p, s) ∧ v'.length ≤ n
  | 0, i, v, h, hv => ⟨v, Ev.next0 fun k => by
      simp only [spec_l1Cur_some.l1]
      rw [if_neg (by omega)], by omega⟩
  | d + 1, i, v, h, hv => by
    obtain ⟨v', e, g⟩ := spec_l1Cur_some_l1 l p s n hn d (i + 1) (v ++ [(i : Int)]) (by omega) (by simp; omega)
    refine ⟨v', Ev.next1 e fun k hk => ?_, g⟩
    simp only [spec_l1Cur_some.l1]
    rw [if_pos (by omega), if_pos (by omega), wrap_succ (n := n) (by omega) (by omega)]
    exact hk
theorem spec_l1Cur_some_l0 (l : List Int) (hl : ∀ x ∈ l, 0 ≤ x ∧ x ≤ 255) (hL : l.length ≤ 9223372036854775807) (n : Nat) (hn : n ≤ 1000) : ∀ (d i : Nat) (v : List Int) (p s : Int), i + d = n → v.length ≤ i → 0 ≤ p → p + 2 * (d : Int) ≤ 700000 →
    ∃ v' p' s', Ev (fun k => spec_l1Cur_some.l0 k (n : Int) v (i : Int) l p s) (v', p', s') ∧ v'.length ≤ n + 1 ∧ p ≤ p' ∧ p' ≤ p + 2 * (d : Int) + 4
  | 0, i, v, p, s, h, hv, h3, h4 => by
    obtain ⟨q, p1, s1, e1, _, b1⟩ := spec_l1Cur_pick_some l hl hL p s h3 (by omega) 24
    by_cases q0 : q = 0
    · obtain ⟨w, p2, s2, e2, b2⟩ := spec_l1Cur_among_some l hl hL p1 s1 (by omega) (by omega) [(-1), (n : Int), 0] (by simp)
      refine ⟨v ++ [w], p2, s2, Ev.next0 fun k => ?_, by simp; omega, by omega, by omega⟩
      simp only [spec_l1Cur_some.l0, e1, e2, Option.bind_some]
      rw [if_neg (by omega), if_pos q0, if_pos (by omega)]
    by_cases q1 : q = 1
    · obtain ⟨v', e, g⟩ := spec_l1Cur_some_l1 l p1 s1 n hn n 0 [] (by omega) (by simp)
      refine ⟨v', p1, s1, Ev.next1 e fun k hk => ?_, by omega, by omega, by omega⟩
      simp only [spec_l1Cur_some.l0, e1, Option.bind_some]
      rw [if_neg (by omega), if_neg q0, if_pos q1]
      exact hk
    · refine ⟨v, p1, s1, Ev.next0 fun k => ?_, by omega, by omega, by omega⟩
      simp only [spec_l1Cur_some.l0, e1, Option.bind_some]
      rw [if_neg (by omega), if_neg q0, if_neg q1]
  | d + 1, i, v, p, s, h, hv, h3, h4 => by
    obtain ⟨o, p1, s1, e1, b1⟩ := spec_l1Cur_one_some l hl hL p s h3 (by omega) 3
    by_cases c : o = true
    · obtain ⟨v', p', s', e, g, g1, g2⟩ := spec_l1Cur_some_l0 l hl hL n hn d (i + 1) (v ++ [(i : Int)]) p1 s1 (by omega) (by simp; omega) (by omega) (by push_cast at h4; omega)
      refine ⟨v', p', s', Ev.next1 e fun k hk => ?_, g, by omega, by push_cast; omega⟩
      simp only [spec_l1Cur_some.l0, e1, Option.bind_some]
      rw [if_pos (by omega), if_pos c, if_pos (by omega), wrap_succ (n := n) (by omega) (by omega)]
      exact hk
    · obtain ⟨v', p', s', e, g, g1, g2⟩ := spec_l1Cur_some_l0 l hl hL n hn d (i + 1) v p1 s1 (by omega) (by omega) (by omega) (by push_cast at h4; omega)
      refine ⟨v', p', s', Ev.next1 e fun k hk => ?_, g, by omega, by push_cast; omega⟩
      simp only [spec_l1Cur_some.l0, e1, Option.bind_some]
      rw [if_pos (by omega), if_neg c, wrap_succ (n := n) (by omega) (by omega)]
      exact hk
theorem spec_l1Cur_some_some (l : List Int) (hl : ∀ x ∈ l, 0 ≤ x ∧ x ≤ 255) (hL : l.length ≤ 9223372036854775807) (p s : Int) (h0 : 0 ≤ p) (h1 : p ≤ 600000) (n : Nat) (hn : n ≤ 1000) : ∃ v p' s', Ev (fun k => spec_l1Cur_some.f k l p s (n : Int)) (v, p', s') ∧ v.length ≤ 1001 ∧ p ≤ p' ∧ p' ≤ p + 2100 := by
  obtain ⟨v', p', s', e, g, g1, g2⟩ := spec_l1Cur_some_l0 l hl hL n hn n 0 [] p s (by omega) (by simp) h0 (by omega)
  refine ⟨v', p', s', Ev.of1 e fun k hk => ?_, by omega, by omega, by omega⟩
  simp only [spec_l1Cur_some.f]
  exact hk
theorem spec_DrawFactorOf_some (l : List Int) (hl : ∀ x ∈ l, 0 ≤ x ∧ x ≤ 255) (hn : l.length ≤ 9223372036854775807) : ∃ x y z t g r x' y' z' t' g' r' v c, Ev (fun k => spec_DrawFactorOf.f k l) (x, y, z, t, g, r, x', y', z', t', g', r', v, c) ∧ (t.length ≤ 120 ∧ g.length ≤ 120 ∧ r.length ≤ 121) ∧ (t'.length ≤ 120 ∧ g'.length ≤ 120 ∧ r'.length ≤ 121) ∧ v.length ≤ 1001 := by
  obtain ⟨x, y, z, t, g, r, x', y', z', t', g', r', p, s, e, g1, g2, b1, b2⟩ := spec_l1Cur_beside_some l hl hn 0 0 (by omega) (by omega)
  obtain ⟨v, p2, s2, e2, g3, b3⟩ := spec_l1Cur_some_some l hl hn p s (by omega) (by omega) t.length (by omega)
  obtain ⟨q, p3, s3, e3, _, b4⟩ := spec_l1Cur_pick_some l hl hn p2 s2 (by omega) (by omega) 4
  obtain ⟨w, p4, s4, e4, _, b5⟩ := spec_l1Cur_pick_some l hl hn p3 s3 (by omega) (by omega) 20
  refine ⟨x, y, z, t, g, r, x', y', z', t', g', r', v, wrap64 (q - (wrap64 (Int.tdiv w 19))), Ev.of2 e e2 fun k hk hk' => ?_, g1, g2, g3⟩
  simp only [spec_DrawFactorOf.f, hk, hk', e3, e4, Option.bind_some]
theorem impl_IsGrid_eq (x y z : Int) : impl_IsGrid.f x y z = some (gridOk x y z) := by
  simp only [impl_IsGrid.f, gridOk]
  by_cases hx : 1 ≤ x ∧ x ≤ 8
  · rw [if_pos (by omega), if_pos (by omega)]
    by_cases hy : 1 ≤ y ∧ y ≤ 6
    · rw [if_pos (by omega), if_pos (by omega)]
      by_cases hz : 1 ≤ z ∧ z ≤ 5
      · rw [if_pos (by omega), if_pos (by omega), grid_wrap hx hy hz]; congr 1; simp [hx, hy, hz]
      · have e : decide (1 ≤ x ∧ x ≤ 8 ∧ 1 ≤ y ∧ y ≤ 6 ∧ 1 ≤ z ∧ z ≤ 5 ∧ x * y * z ≤ 120) = false := by simp; omega
        rw [e]; split
        · rw [if_neg (by omega)]
        · rfl
    · have e : decide (1 ≤ x ∧ x ≤ 8 ∧ 1 ≤ y ∧ y ≤ 6 ∧ 1 ≤ z ∧ z ≤ 5 ∧ x * y * z ≤ 120) = false := by simp; omega
      rw [e]; split
      · rw [if_neg (by omega)]
      · rfl
  · have e : decide (1 ≤ x ∧ x ≤ 8 ∧ 1 ≤ y ∧ y ≤ 6 ∧ 1 ≤ z ∧ z ≤ 5 ∧ x * y * z ≤ 120) = false := by simp; omega
    rw [e]; split
    · rw [if_neg (by omega)]
    · rfl
theorem impl_blocksOf_eq (x y z : Int) (h : gridOk x y z = true) : impl_blocksOf.f x y z = some (x * y * z) := by
  have hb := grid_ok h
  simp only [impl_blocksOf.f]
  rw [grid_wrap hb.1 hb.2.1 hb.2.2.1]
theorem impl_IsModel_l0 (x y z : Int) (t g r : List Int) (n : Nat) (hn : n ≤ 1048576) (ht : t.length = n) (hg : g.length = n) (hr : r.length = n) : ∀ (ts gs rs : List Int) (i : Nat), t.drop i = ts → g.drop i = gs → r.drop i = rs → Ev (fun k => impl_IsModel.l0 k (n : Int) i x y z t g r) (allIn 0 10000 ts && (allIn 0 1000 gs && allIn 0 4 rs))
  | [], gs, rs, i, h, hg', hr' => Ev.next0 fun k => by
      have h0 := drop_nil h
      have e1 : gs = [] := by rw [← hg']; exact List.drop_of_length_le (by omega)
      have e2 : rs = [] := by rw [← hr']; exact List.drop_of_length_le (by omega)
      subst e1 e2
      simp only [impl_IsModel.l0, allIn]
      rw [if_neg (by omega)]; rfl
  | a :: ts, [], rs, i, h, hg', hr' => by have h1 := (drop_cons h).1; have h2 := drop_nil hg'; omega
  | a :: ts, b :: gs, [], i, h, hg', hr' => by have h1 := (drop_cons h).1; have h2 := drop_nil hr'; omega
  | a :: ts, b :: gs, c :: rs, i, h, hg', hr' => by
      obtain ⟨h1, h2, h3⟩ := drop_cons h
      obtain ⟨g1, g2, g3⟩ := drop_cons hg'
      obtain ⟨r1, r2, r3⟩ := drop_cons hr'
      have ea := rd_drop h
      have eb := rd_drop hg'
      have ec := rd_drop hr'
      refine Ev.next1 (impl_IsModel_l0 x y z t g r n hn ht hg hr ts gs rs (i + 1) h3 g3 r3) fun k hk => ?_
      simp only [impl_IsModel.l0, ea, eb, ec]
      rw [if_pos (by omega), if_pos (by omega), if_pos (by omega)]
      by_cases ka : 0 ≤ a ∧ a ≤ 10000
      · rw [if_neg (by omega), if_neg (by omega), if_pos (by omega)]
        by_cases kb : 0 ≤ b ∧ b ≤ 1000
        · rw [if_neg (by omega), if_neg (by omega), if_pos (by omega)]
          by_cases kc : 0 ≤ c ∧ c ≤ 4
          · rw [if_neg (by omega), if_neg (by omega), wrap_succ h1 (by omega), hk]
            simp [allIn, ka, kb, kc]
          · have e : (allIn 0 10000 (a :: ts) && (allIn 0 1000 (b :: gs) && allIn 0 4 (c :: rs))) = false := by simp [allIn, kc]
            rw [e]; split
            · rfl
            · rw [if_pos (by omega)]
        · have e : (allIn 0 10000 (a :: ts) && (allIn 0 1000 (b :: gs) && allIn 0 4 (c :: rs))) = false := by simp [allIn, kb]
          rw [e]; split
          · rfl
          · rw [if_pos (by omega)]
      · have e : (allIn 0 10000 (a :: ts) && (allIn 0 1000 (b :: gs) && allIn 0 4 (c :: rs))) = false := by simp [allIn, ka]
        rw [e]; split
        · rfl
        · rw [if_pos (by omega)]
theorem impl_IsModel_ev (x y z : Int) (t g r : List Int) (ht : t.length ≤ 1048576) (hg : g.length ≤ 1048576) (hr : r.length ≤ 1048576) : Ev (fun k => impl_IsModel.f k x y z t g r) (modelOk x y z t g r) := by
  by_cases h : gridOk x y z = true
  · have no : ∀ n : Int, Ev (fun k => impl_IsModel.j0 k n true x y z t g r) false := fun n => Ev.next0 fun k => by simp [impl_IsModel.j0]
    by_cases e : (t.length : Int) = x * y * z ∧ (g.length : Int) = x * y * z ∧ (r.length : Int) = x * y * z
    · obtain ⟨e1, e2, e3⟩ := e
      have h1 : Ev (fun k => impl_IsModel.j0 k (x * y * z) false x y z t g r) (allIn 0 10000 t && (allIn 0 1000 g && allIn 0 4 r)) := by
        refine Ev.next1 (impl_IsModel_l0 x y z t g r t.length ht rfl (by omega) (by omega) t g r 0 rfl rfl rfl) fun k hk => ?_
        simp only [impl_IsModel.j0]
        rw [if_neg (by simp), ← e1]; exact hk
      refine Ev.of1 h1 fun k hk => ?_
      simp only [impl_IsModel.f, impl_IsGrid_eq, Option.bind_some, impl_blocksOf_eq x y z h]
      rw [if_pos h, if_pos e1, if_pos e2, show ((r.length : Int) != x * y * z) = false by simp [e3], hk]
      simp [modelOk, h, e1, e2, e3]
    · refine Ev.of1 (no (x * y * z)) fun k hk => ?_
      have em : modelOk x y z t g r = false := by
        simp only [modelOk, decide_eq_false e, Bool.and_false, Bool.false_and]
      simp only [impl_IsModel.f, impl_IsGrid_eq, Option.bind_some, impl_blocksOf_eq x y z h]
      rw [if_pos h, em]
      by_cases e1 : (t.length : Int) = x * y * z
      · rw [if_pos e1]
        by_cases e2 : (g.length : Int) = x * y * z
        · rw [if_pos e2, show ((r.length : Int) != x * y * z) = true by
            have e3 : ¬ (r.length : Int) = x * y * z := fun e3 => e ⟨e1, e2, e3⟩
            simpa using e3, hk]
        · rw [if_neg e2, hk]
      · rw [if_neg e1, hk]
  · refine Ev.all fun k => ?_
    simp only [impl_IsModel.f, impl_IsGrid_eq, Option.bind_some]
    rw [if_neg h]; simp [modelOk, h]
theorem impl_areTwins_ev (x y z : Int) (t g r : List Int) (x' y' z' : Int) (t' g' r' : List Int) (ht : t.length ≤ 1048576) (hg : g.length ≤ 1048576) (hr : r.length ≤ 1048576) (ht' : t'.length ≤ 1048576) (hg' : g'.length ≤ 1048576) (hr' : r'.length ≤ 1048576) : Ev (fun k => impl_areTwins.f k x y z t g r x' y' z' t' g' r') (modelOk x y z t g r && (modelOk x' y' z' t' g' r' && (x == x' && (y == y' && (z == z'))))) :=
  (ev_and (impl_IsModel_ev x y z t g r ht hg hr) <| ev_one (impl_IsModel_ev x' y' z' t' g' r' ht' hg' hr')).ev fun k ⟨h1, h2⟩ => by
    simp only [impl_areTwins.f, h1, h2, Option.bind_some]
    by_cases h : modelOk x y z t g r = true
    · rw [if_pos h, h]
      by_cases h' : modelOk x' y' z' t' g' r' = true
      · rw [if_pos h', h']; rfl
      · rw [if_neg h']; simp [h']
    · rw [if_neg h]; simp [h]
theorem impl_areBlocks_l0 (n : Int) (l : List Int) (hn : l.length ≤ 9223372036854775807) : ∀ (ys : List Int) (i : Nat) (p : Int), l.drop i = ys → (i = 0 ∧ p = -1 ∨ 0 < i ∧ l[i - 1]? = some p) → Ev (fun k => impl_areBlocks.l0 k l n l (l.length : Int) i) (rise n p ys)
  | [], i, p, h, hp => Ev.next0 fun k => by
      have h0 := drop_nil h
      simp only [impl_areBlocks.l0, rise]
      rw [if_neg (by omega)]
  | y :: ys, i, p, h, hp => by
      obtain ⟨h1, h2, h3⟩ := drop_cons h
      refine Ev.next1 (impl_areBlocks_l0 n l hn ys (i + 1) y h3 (.inr ⟨by omega, by simpa using h2⟩)) fun k hk => ?_
      have e := rd_drop h
      simp only [impl_areBlocks.l0, e, rise]
      rw [if_pos (by omega), if_pos (by omega), if_pos (by omega), wrap_succ h1 hn]
      by_cases hy : 0 ≤ y ∧ y < n
      · rw [if_neg (by omega), if_neg (by omega)]
        rcases hp with ⟨rfl, rfl⟩ | ⟨hi, hp⟩
        · rw [if_neg (by omega), hk]; simp; omega
        · have e2 : rd l ((i : Int) - 1) = p := by
            rw [show (i : Int) - 1 = ((i - 1 : Nat) : Int) by omega]; exact rd_get hp
          rw [if_pos (by omega), wrap_id (by omega) (by omega), if_pos (by omega), if_pos (by omega), e2]
          by_cases hq : p < y
          · rw [if_neg (by omega), hk]; simp [hy, hq]
          · rw [if_pos (by omega)]; simp [hq]
      · have e3 : (decide (0 ≤ y ∧ y < n ∧ p < y) && rise n y ys) = false := by simp; omega
        rw [e3]; split
        · rfl
        · rw [if_pos (by omega)]
theorem impl_areBlocks_ev (n : Int) (l : List Int) (hn : l.length ≤ 9223372036854775807) : Ev (fun k => impl_areBlocks.f k l n) (rise n (-1) l) :=
  Ev.of1 (impl_areBlocks_l0 n l hn l 0 (-1) rfl (.inl ⟨rfl, rfl⟩)) fun k hk => by simp only [impl_areBlocks.f]; exact hk
/-- The lists of a model that is good: their lengths and bounds. -/
theorem model_ok {x y z : Int} {t g r : List Int} (h : modelOk x y z t g r = true) : gridOk x y z = true ∧ ((t.length : Int) = x * y * z ∧ (g.length : Int) = x * y * z ∧ (r.length : Int) = x * y * z) ∧ allIn 0 10000 t = true ∧ allIn 0 1000 g = true ∧ allIn 0 4 r = true := by
  simp only [modelOk, Bool.and_eq_true, decide_eq_true_eq] at h
  exact ⟨h.1.1, h.1.2, h.2.1, h.2.2.1, h.2.2.2⟩
-- needs: model_facts
theorem rd_in {lo hi : Int} {l : List Int} (h : allIn lo hi l = true) {i : Int} (h0 : 0 ≤ i) (h1 : i < (l.length : Int)) : lo ≤ rd l i ∧ rd l i ≤ hi := by
  have hg : l[i.toNat]? = some (l[i.toNat]'(by omega)) := List.getElem?_eq_getElem (by omega)
  have h5 := rd_get hg
  rw [show ((i.toNat : Nat) : Int) = i by omega] at h5
  rw [h5]; exact allIn_get h hg
theorem metal_bd {t g : List Int} (ht : allIn 0 10000 t = true) (hg : allIn 0 1000 g = true) {i : Int} (h0 : 0 ≤ i) (h1 : i < (t.length : Int)) (h2 : i < (g.length : Int)) : (0 ≤ rd t i ∧ rd t i ≤ 10000) ∧ 0 ≤ rd t i * rd g i ∧ rd t i * rd g i ≤ 10000000 := by
  have a := rd_in ht h0 h1; have b := rd_in hg h0 h2
  exact ⟨a, Int.mul_nonneg a.1 b.1, Int.mul_le_mul (a := rd t i) (b := rd g i) (c := 10000) (d := 1000) a.2 b.2 b.1 (by omega)⟩
theorem spec_moMetal_eq (x y z : Int) (t g r : List Int) (i : Int) (ht : allIn 0 10000 t = true) (hg : allIn 0 1000 g = true) (h0 : 0 ≤ i) (h1 : i < (t.length : Int)) (h2 : i < (g.length : Int)) : spec_moMetal.f x y z t g r i = some (rd t i * rd g i) := by
  have hb := metal_bd ht hg h0 h1 h2
  simp only [spec_moMetal.f]
  rw [if_pos h0, if_pos h1, if_pos h2, wrap_id (by omega) (by omega)]
-- needs: spec_moMetal
/-- Tonnes, and metal, of chosen blocks. -/
def selT (t : List Int) : List Int → Int
  | [] => 0
  | q :: qs => rd t q + selT t qs
def selM (t g : List Int) : List Int → Int
  | [] => 0
  | q :: qs => rd t q * rd g q + selM t g qs
theorem sel_bd {t g : List Int} (ht : allIn 0 10000 t = true) (hg : allIn 0 1000 g = true) : ∀ I : List Int, (∀ q ∈ I, 0 ≤ q ∧ q < (t.length : Int) ∧ q < (g.length : Int)) → (0 ≤ selT t I ∧ selT t I ≤ 10000 * (I.length : Int)) ∧ (0 ≤ selM t g I ∧ selM t g I ≤ 10000000 * (I.length : Int))
  | [], _ => by simp [selT, selM]
  | q :: qs, h => by
    have hq := h q (by simp)
    have hb := metal_bd ht hg hq.1 hq.2.1 hq.2.2
    have ih := sel_bd ht hg qs (fun u hu => h u (by simp [hu]))
    simp only [selT, selM, List.length_cons]; push_cast; omega
-- needs: sel_model
theorem impl_sumsOf_l0 (x y z : Int) (t g r : List Int) (ht : allIn 0 10000 t = true) (hg : allIn 0 1000 g = true) (I : List Int) (hI : I.length ≤ 1048576) (hin : ∀ q ∈ I, 0 ≤ q ∧ q < (t.length : Int) ∧ q < (g.length : Int)) : ∀ (qs : List Int) (j : Nat) (a m : Int), I.drop j = qs → (0 ≤ a ∧ a ≤ 10000 * (j : Int)) → (0 ≤ m ∧ m ≤ 10000000 * (j : Int)) →
    Ev (fun k => impl_sumsOf.l0 k a m I (I.length : Int) j x y z t g r) (a + selT t qs, m + selM t g qs)
  | [], j, a, m, hj, ha, hm => Ev.next0 fun k => by
      have h0 := drop_nil hj
      simp only [impl_sumsOf.l0, selT, selM, Int.add_zero]
      rw [if_neg (by omega)]
  | q :: qs, j, a, m, hj, ha, hm => by
      obtain ⟨h1, h2, h3⟩ := drop_cons hj
      have e := rd_drop hj
      have hq := hin q (List.mem_of_getElem? h2)
      have hb := metal_bd ht hg hq.1 hq.2.1 hq.2.2
      refine Ev.next1 (impl_sumsOf_l0 x y z t g r ht hg I hI hin qs (j + 1) (a + rd t q) (m + rd t q * rd g q) h3 (by omega) (by omega)) fun k hk => ?_
      simp only [impl_sumsOf.l0, e, Option.bind_some, selT, selM]
      rw [if_pos (by omega), if_pos (by omega), if_pos (by omega), if_pos hq.1, if_pos hq.2.1, if_pos hq.2.2, wrap_id (x := rd t q * rd g q) (by omega) (by omega), wrap_succ h1 (by omega), wrap_id (x := a + rd t q) (by omega) (by omega), wrap_id (x := m + rd t q * rd g q) (by omega) (by omega), ← Int.add_assoc, ← Int.add_assoc]
      exact hk
theorem impl_sumsOf_ev (x y z : Int) (t g r : List Int) (ht : allIn 0 10000 t = true) (hg : allIn 0 1000 g = true) (I : List Int) (hI : I.length ≤ 1048576) (hin : ∀ q ∈ I, 0 ≤ q ∧ q < (t.length : Int) ∧ q < (g.length : Int)) : Ev (fun k => impl_sumsOf.f k x y z t g r I) (selT t I, selM t g I) := by
  have h0 := impl_sumsOf_l0 x y z t g r ht hg I hI hin I 0 0 0 rfl (by omega) (by omega)
  rw [Int.zero_add, Int.zero_add] at h0
  exact Ev.of1 h0 fun k hk => by simp only [impl_sumsOf.f]; exact hk
theorem impl_abs_eq (a : Int) (h0 : -9223372036854775807 ≤ a) (h1 : a ≤ 9223372036854775807) : impl_abs.f a = some (max a (-a)) := by
  simp only [impl_abs.f, mx_eq]
  rw [wrap_id (by omega) (by omega)]
theorem impl_lowest_l0 (x y : Int) : ∀ (n b a : Nat), b ≤ n → 0 < a + b → Ev (fun k => impl_lowest.l0 k x y (a : Int) (b : Int)) (wrap64 (Int.tdiv x (Nat.gcd a b : Int)), wrap64 (Int.tdiv y (Nat.gcd a b : Int)))
  | n, 0, a, hn, h => Ev.next0 fun k => by
      simp only [impl_lowest.l0, Nat.gcd_zero_right]
      rw [if_pos (by omega), if_neg (by omega)]
  | 0, b + 1, a, hn, h => by omega
  | n + 1, b + 1, a, hn, h => by
      have hlt := Nat.mod_lt a (show 0 < b + 1 by omega)
      refine Ev.next1 (impl_lowest_l0 x y n (a % (b + 1)) (b + 1) (by omega) (by omega)) fun k hk => ?_
      have em : Int.tmod (a : Int) ((b + 1 : Nat) : Int) = ((a % (b + 1) : Nat) : Int) := by
        rw [Int.tmod_eq_emod_of_nonneg (by omega)]; exact (Int.natCast_emod a (b + 1)).symm
      have eg : Nat.gcd a (b + 1) = Nat.gcd (b + 1) (a % (b + 1)) := by
        rw [Nat.gcd_comm a (b + 1), Nat.gcd_rec (b + 1) a, Nat.gcd_comm]
      simp only [impl_lowest.l0]
      rw [if_neg (by omega), em]
      rw [eg]; exact hk
theorem impl_lowest_ev (a b : Int) (ha : 0 ≤ a) (hb : 0 < b) (ha' : a ≤ 4611686018427387904) (hb' : b ≤ 4611686018427387904) : Ev (fun k => impl_lowest.f k a b) (low a b) := by
  have hl := low_bd ha hb
  have h := impl_lowest_l0 a b b.natAbs b.natAbs a.natAbs (by omega) (by omega)
  rw [Int.tdiv_eq_ediv_of_nonneg ha, Int.tdiv_eq_ediv_of_nonneg (by omega)] at h
  have e : (wrap64 (a / (Nat.gcd a.natAbs b.natAbs : Int)), wrap64 (b / (Nat.gcd a.natAbs b.natAbs : Int))) = low a b := by
    rw [show a / (Nat.gcd a.natAbs b.natAbs : Int) = (low a b).1 from rfl, show b / (Nat.gcd a.natAbs b.natAbs : Int) = (low a b).2 from rfl, wrap_id (by omega) (by omega), wrap_id (by omega) (by omega)]
  rw [e] at h
  refine Ev.of1 h fun k hk => ?_
  simp only [impl_lowest.f, impl_abs_eq a (by omega) (by omega), Option.bind_some]
  rw [show ((a.natAbs : Nat) : Int) = max a (-a) by omega, show ((b.natAbs : Nat) : Int) = b by omega] at hk
  exact hk
-- needs: spec_moMetal
theorem rise_len {n : Int} : ∀ {p : Int} {ys : List Int}, rise n p ys = true → p < n → (ys.length : Int) ≤ n - 1 - p
  | p, [], _, hp => by simp; omega
  | p, y :: ys, h, hp => by
    simp only [rise, Bool.and_eq_true, decide_eq_true_eq] at h
    have ih := rise_len h.2 h.1.2.1
    simp only [List.length_cons]; push_cast; omega
theorem prod_bd {a b A B : Int} (ha : 0 ≤ a) (hA : a ≤ A) (hb : 0 ≤ b) (hB : b ≤ B) : 0 ≤ a * b ∧ a * b ≤ A * B :=
  ⟨Int.mul_nonneg ha hb, Int.mul_le_mul hA hB hb (by omega)⟩
def ratio (a b : Int) : Int × Int × Bool := if b = 0 then (0, 0, false) else ((low a b).1, (low a b).2, true)
def factor (c ta ma tb mb : Int) : Int × Int × Bool := if c = 0 then ratio tb ta else if c = 1 then ratio mb ma else if ta = 0 then (0, 0, false) else ratio (mb * ta) (tb * ma)
-- needs: sel_model
theorem spec_moSums_l0 (x y z : Int) (t g r : List Int) (ht : allIn 0 10000 t = true) (hg : allIn 0 1000 g = true) (I : List Int) (hI : I.length ≤ 1048576) (hin : ∀ q ∈ I, 0 ≤ q ∧ q < (t.length : Int) ∧ q < (g.length : Int)) : ∀ (qs : List Int) (j : Nat) (a m : Int), I.drop j = qs → (0 ≤ a ∧ a ≤ 10000 * (j : Int)) → (0 ≤ m ∧ m ≤ 10000000 * (j : Int)) →
    Ev (fun k => spec_moSums.l0 k a m I (I.length : Int) j x y z t g r) (a + selT t qs, m + selM t g qs)
  | [], j, a, m, hj, ha, hm => Ev.next0 fun k => by
      have h0 := drop_nil hj
      simp only [spec_moSums.l0, selT, selM, Int.add_zero]
      rw [if_neg (by omega)]
  | q :: qs, j, a, m, hj, ha, hm => by
      obtain ⟨h1, h2, h3⟩ := drop_cons hj
      have e := rd_drop hj
      have hq := hin q (List.mem_of_getElem? h2)
      have hb := metal_bd ht hg hq.1 hq.2.1 hq.2.2
      refine Ev.next1 (spec_moSums_l0 x y z t g r ht hg I hI hin qs (j + 1) (a + rd t q) (m + rd t q * rd g q) h3 (by omega) (by omega)) fun k hk => ?_
      simp only [spec_moSums.l0, e, spec_moMetal_eq x y z t g r q ht hg hq.1 hq.2.1 hq.2.2, Option.bind_some, selT, selM]
      rw [if_pos (by omega), if_pos (by omega), if_pos (by omega), if_pos hq.1, if_pos hq.2.1, wrap_succ h1 (by omega), wrap_id (x := a + rd t q) (by omega) (by omega), wrap_id (x := m + rd t q * rd g q) (by omega) (by omega), ← Int.add_assoc, ← Int.add_assoc]
      exact hk
theorem spec_moSums_ev (x y z : Int) (t g r : List Int) (ht : allIn 0 10000 t = true) (hg : allIn 0 1000 g = true) (I : List Int) (hI : I.length ≤ 1048576) (hin : ∀ q ∈ I, 0 ≤ q ∧ q < (t.length : Int) ∧ q < (g.length : Int)) : Ev (fun k => spec_moSums.f k x y z t g r I) (selT t I, selM t g I) := by
  have h0 := spec_moSums_l0 x y z t g r ht hg I hI hin I 0 0 0 rfl (by omega) (by omega)
  rw [Int.zero_add, Int.zero_add] at h0
  exact Ev.of1 h0 fun k hk => by simp only [spec_moSums.f]; exact hk
-- needs: factor_model spec_moSums
def factorOf (x y z : Int) (t g r : List Int) (x' y' z' : Int) (t' g' r' s : List Int) (c : Int) : Int × Int × Bool := if (modelOk x y z t g r = true ∧ modelOk x' y' z' t' g' r' = true ∧ x = x' ∧ y = y' ∧ z = z') ∧ rise (x * y * z) (-1) s = true ∧ (0 ≤ c ∧ c ≤ 2) then factor c (selT t s) (selM t g s) (selT t' s) (selM t' g' s) else (0, 0, false)
theorem factor_facts {x y z : Int} {t g r : List Int} {x' y' z' : Int} {t' g' r' s : List Int} (h : modelOk x y z t g r = true ∧ modelOk x' y' z' t' g' r' = true ∧ x = x' ∧ y = y' ∧ z = z') (hs : rise (x * y * z) (-1) s = true) : s.length ≤ 120 ∧ (∀ q ∈ s, 0 ≤ q ∧ q < (t.length : Int) ∧ q < (g.length : Int)) ∧ (∀ q ∈ s, 0 ≤ q ∧ q < (t'.length : Int) ∧ q < (g'.length : Int)) ∧ (t.length : Int) = x * y * z := by
  obtain ⟨hgr, l1, _⟩ := model_ok h.1
  obtain ⟨_, l2, _⟩ := model_ok h.2.1
  have hb := grid_ok hgr
  rw [← h.2.2.1, ← h.2.2.2.1, ← h.2.2.2.2] at l2
  generalize x * y * z = p at l1 l2 hb hs ⊢
  have := rise_len hs (by omega)
  refine ⟨by omega, fun q hq => ?_, fun q hq => ?_, by omega⟩ <;> (have := rise_mem hs q hq; omega)
-- needs: factor_of
theorem impl_FactorOf_ratio (a b : Int) (ha : 0 ≤ a) (hb : 0 ≤ b) (ha' : a ≤ 1500000000000000) (hb' : b ≤ 1500000000000000) : Ev (fun k => if b = 0 then (some (0, 0, false) : Option (Int × Int × Bool)) else (impl_lowest.f k a b).bind fun p => (some (p.1, p.2, true))) (ratio a b) := by
  by_cases h : b = 0
  · exact Ev.all fun k => by rw [if_pos h, ratio, if_pos h]
  · exact (ev_one (impl_lowest_ev a b ha (by omega) (by omega) (by omega))).ev fun k h1 => by
      rw [if_neg h, h1, ratio, if_neg h]; rfl
theorem impl_FactorOf_yes (x y z : Int) (t g r : List Int) (x' y' z' : Int) (t' g' r' : List Int) (ht : t.length ≤ 1048576) (hg : g.length ≤ 1048576) (hr : r.length ≤ 1048576) (ht' : t'.length ≤ 1048576) (hg' : g'.length ≤ 1048576) (hr' : r'.length ≤ 1048576) (s : List Int) (c : Int) (h : modelOk x y z t g r = true ∧ modelOk x' y' z' t' g' r' = true ∧ x = x' ∧ y = y' ∧ z = z') (hs : rise (x * y * z) (-1) s = true) (hc : 0 ≤ c ∧ c ≤ 2) : Ev (fun k => impl_FactorOf.j0 k s c false x y z t g r x' y' z' t' g' r') (factor c (selT t s) (selM t g s) (selT t' s) (selM t' g' s)) := by
  obtain ⟨f1, f2, f3, _⟩ := factor_facts h hs
  obtain ⟨_, _, v1, v2, _⟩ := model_ok h.1
  obtain ⟨_, _, u1, u2, _⟩ := model_ok h.2.1
  have s1 := impl_sumsOf_ev x y z t g r v1 v2 s (by omega) f2
  have s2 := impl_sumsOf_ev x' y' z' t' g' r' u1 u2 s (by omega) f3
  have q1 := sel_bd v1 v2 s f2
  have q2 := sel_bd u1 u2 s f3
  generalize selT t s = ta at s1 q1 ⊢
  generalize selM t g s = ma at s1 q1 ⊢
  generalize selT t' s = tb at s2 q2 ⊢
  generalize selM t' g' s = mb at s2 q2 ⊢
  have a0 : 0 ≤ ta := q1.1.1
  have a1 : ta ≤ 1200000 := by omega
  have b0 : 0 ≤ ma := q1.2.1
  have b1 : ma ≤ 1200000000 := by omega
  have c0 : 0 ≤ tb := q2.1.1
  have c1 : tb ≤ 1200000 := by omega
  have d0 : 0 ≤ mb := q2.2.1
  have d1 : mb ≤ 1200000000 := by omega
  clear q1 q2
  rcases (by omega : c = 0 ∨ c = 1 ∨ c = 2) with e | e | e
  · refine (ev_and s1 <| ev_and s2 <| ev_one (impl_FactorOf_ratio tb ta c0 a0 (by omega) (by omega))).next fun k ⟨h1, h2, h3⟩ => ?_
    simp only [impl_FactorOf.j0, h1, h2, Option.bind_some]
    have hf : factor c ta ma tb mb = ratio tb ta := by rw [factor, if_pos e]
    rw [if_neg (by simp), if_pos e, hf]; exact h3
  · refine (ev_and s1 <| ev_and s2 <| ev_one (impl_FactorOf_ratio mb ma d0 b0 (by omega) (by omega))).next fun k ⟨h1, h2, h3⟩ => ?_
    simp only [impl_FactorOf.j0, h1, h2, Option.bind_some]
    have hf : factor c ta ma tb mb = ratio mb ma := by rw [factor, if_neg (by omega), if_pos e]
    rw [if_neg (by simp), if_neg (by omega), if_pos e, hf]; exact h3
  · have p1 := prod_bd d0 d1 a0 a1
    have p2 := prod_bd c0 c1 b0 b1
    refine (ev_and s1 <| ev_and s2 <| ev_one (impl_FactorOf_ratio (mb * ta) (tb * ma) p1.1 p2.1 (by omega) (by omega))).next fun k ⟨h1, h2, h3⟩ => ?_
    simp only [impl_FactorOf.j0, h1, h2, Option.bind_some]
    have hf : factor c ta ma tb mb = if ta = 0 then (0, 0, false) else ratio (mb * ta) (tb * ma) := by rw [factor, if_neg (by omega), if_neg (by omega)]
    rw [if_neg (by simp), if_neg (by omega), if_neg (by omega), hf]
    by_cases ha : ta = 0
    · rw [if_pos ha, if_pos ha]
    · rw [if_neg ha, if_neg ha, wrap_id (x := tb * ma) (by omega) (by omega), wrap_id (x := mb * ta) (by omega) (by omega)]; exact h3
theorem impl_FactorOf_no (x y z : Int) (t g r : List Int) (x' y' z' : Int) (t' g' r' : List Int) (s : List Int) (c : Int) : Ev (fun k => impl_FactorOf.j0 k s c true x y z t g r x' y' z' t' g' r') (0, 0, false) := Ev.next0 fun k => by simp [impl_FactorOf.j0]
theorem impl_FactorOf_ev (x y z : Int) (t g r : List Int) (x' y' z' : Int) (t' g' r' : List Int) (ht : t.length ≤ 1048576) (hg : g.length ≤ 1048576) (hr : r.length ≤ 1048576) (ht' : t'.length ≤ 1048576) (hg' : g'.length ≤ 1048576) (hr' : r'.length ≤ 1048576) (s : List Int) (hs : s.length ≤ 1048576) (c : Int) : Ev (fun k => impl_FactorOf.f k x y z t g r x' y' z' t' g' r' s c) (factorOf x y z t g r x' y' z' t' g' r' s c) := by
  have h0 := impl_areTwins_ev x y z t g r x' y' z' t' g' r' ht hg hr ht' hg' hr'
  have hl := impl_areBlocks_ev (t.length : Int) s (by omega)
  have hn := impl_FactorOf_no x y z t g r x' y' z' t' g' r' s c
  by_cases h : modelOk x y z t g r = true ∧ modelOk x' y' z' t' g' r' = true ∧ x = x' ∧ y = y' ∧ z = z'
  · have et : (modelOk x y z t g r && (modelOk x' y' z' t' g' r' && (x == x' && (y == y' && (z == z'))))) = true := by simp only [h.1, h.2.1, Bool.true_and]; simp [h.2.2]
    have hL : (t.length : Int) = x * y * z := (model_ok h.1).2.1.1
    rw [hL] at hl
    by_cases hr1 : rise (x * y * z) (-1) s = true
    · by_cases hc : 0 ≤ c ∧ c ≤ 2
      · refine (ev_and h0 <| ev_and hl <| ev_one (impl_FactorOf_yes x y z t g r x' y' z' t' g' r' ht hg hr ht' hg' hr' s c h hr1 hc)).ev fun k ⟨k1, k2, k3⟩ => ?_
        simp only [impl_FactorOf.f, k1, hL, k2, Option.bind_some]
        have ef : factorOf x y z t g r x' y' z' t' g' r' s c = factor c (selT t s) (selM t g s) (selT t' s) (selM t' g' s) := by rw [factorOf, if_pos ⟨h, hr1, hc⟩]
        rw [if_pos et, if_pos hr1, ef]
        rw [if_neg (by omega), show decide (c > 2) = false by simp; omega]; exact k3
      · refine (ev_and h0 <| ev_and hl <| ev_one hn).ev fun k ⟨k1, k2, k3⟩ => ?_
        simp only [impl_FactorOf.f, k1, hL, k2, Option.bind_some]
        have ef : factorOf x y z t g r x' y' z' t' g' r' s c = (0, 0, false) := by rw [factorOf, if_neg (fun q => hc q.2.2)]
        rw [if_pos et, if_pos hr1, ef]
        by_cases h5 : c < 0
        · rw [if_pos h5]; exact k3
        · rw [if_neg h5, show decide (c > 2) = true by simp; omega]; exact k3
    · refine (ev_and h0 <| ev_and hl <| ev_one hn).ev fun k ⟨k1, k2, k3⟩ => ?_
      simp only [impl_FactorOf.f, k1, hL, k2, Option.bind_some]
      have ef : factorOf x y z t g r x' y' z' t' g' r' s c = (0, 0, false) := by rw [factorOf, if_neg (fun q => hr1 q.2.1)]
      rw [if_pos et, if_neg hr1, ef]; exact k3
  · refine (ev_and h0 <| ev_one hn).ev fun k ⟨k1, k3⟩ => ?_
    simp only [impl_FactorOf.f, k1, Option.bind_some]
    rw [if_neg (by simpa using h), factorOf, if_neg (fun q => h q.1)]; exact k3
theorem spec_l1In_eq (a lo hi : Int) : spec_l1In.f a lo hi = some (decide (lo ≤ a ∧ a ≤ hi)) := by
  unfold spec_l1In.f
  split
  · congr 1; simp; omega
  · congr 1; simp; omega
theorem spec_grGood_eq (x y z : Int) : spec_grGood.f x y z = some (gridOk x y z) := by
  simp only [spec_grGood.f, spec_l1In_eq, Option.bind_some, decide_eq_true_eq, gridOk]
  by_cases hx : 1 ≤ x ∧ x ≤ 8
  · rw [if_pos hx]
    by_cases hy : 1 ≤ y ∧ y ≤ 6
    · rw [if_pos hy]
      by_cases hz : 1 ≤ z ∧ z ≤ 5
      · rw [if_pos hz, grid_wrap hx hy hz]; congr 1; simp [hx, hy, hz]
      · rw [if_neg hz]; congr 1; symm; simp; omega
    · rw [if_neg hy]; congr 1; symm; simp; omega
  · rw [if_neg hx]; congr 1; symm; simp; omega
theorem spec_l1All_l0 (lo hi : Int) (l : List Int) (hn : l.length ≤ 9223372036854775807) : ∀ (ys : List Int) (i : Nat), l.drop i = ys → Ev (fun k => spec_l1All.l0 k lo hi l (l.length : Int) i) (allIn lo hi ys)
  | [], i, h => Ev.next0 fun k => by
      have h0 := drop_nil h
      simp only [spec_l1All.l0, allIn]
      rw [if_neg (by omega)]
  | y :: ys, i, h => by
      obtain ⟨h1, h2, h3⟩ := drop_cons h
      refine Ev.next1 (spec_l1All_l0 lo hi l hn ys (i + 1) h3) fun k hk => ?_
      have e := rd_drop h
      simp only [spec_l1All.l0, e, spec_l1In_eq, Option.bind_some]
      rw [if_pos (by omega), if_pos (by omega), if_pos (by omega), wrap_succ h1 hn]
      by_cases hy : lo ≤ y ∧ y ≤ hi
      · rw [if_pos (decide_eq_true hy), hk]; simp [allIn, hy]
      · rw [if_neg (by simp; omega)]; simp [allIn, hy]
theorem spec_l1All_ev (l : List Int) (lo hi : Int) (hn : l.length ≤ 9223372036854775807) : Ev (fun k => spec_l1All.f k l lo hi) (allIn lo hi l) :=
  Ev.of1 (spec_l1All_l0 lo hi l hn l 0 rfl) fun k hk => by simp only [spec_l1All.f]; exact hk
theorem spec_moGood_ev (x y z : Int) (t g r : List Int) (ht : t.length ≤ 1048576) (hg : g.length ≤ 1048576) (hr : r.length ≤ 1048576) : Ev (fun k => spec_moGood.f k x y z t g r) (modelOk x y z t g r) :=
  (ev_and (spec_l1All_ev t 0 10000 (by omega)) <| ev_and (spec_l1All_ev g 0 1000 (by omega)) <| ev_one (spec_l1All_ev r 0 4 (by omega))).ev fun k ⟨h1, h2, h3⟩ => by
    simp only [spec_moGood.f, spec_grGood_eq, Option.bind_some, modelOk]
    by_cases h : gridOk x y z = true
    · rw [if_pos h, spec_grCount_eq x y z h, Option.bind_some, h1, h2, h3]
      simp only [Option.bind_some, h, Bool.true_and]
      by_cases e1 : (t.length : Int) = x * y * z
      · rw [if_pos e1]
        by_cases e2 : (g.length : Int) = x * y * z
        · rw [if_pos e2]
          by_cases e3 : (r.length : Int) = x * y * z
          · rw [if_pos e3, decide_eq_true ⟨e1, e2, e3⟩]
            cases allIn 0 10000 t <;> cases allIn 0 1000 g <;> simp
          · rw [if_neg e3, decide_eq_false (fun h => e3 h.2.2)]; rfl
        · rw [if_neg e2, decide_eq_false (fun h => e2 h.2.1)]; rfl
      · rw [if_neg e1, decide_eq_false (fun h => e1 h.1)]; rfl
    · rw [if_neg h]; simp [h]
theorem spec_rcBoth_ev (x y z : Int) (t g r : List Int) (x' y' z' : Int) (t' g' r' : List Int) (ht : t.length ≤ 1048576) (hg : g.length ≤ 1048576) (hr : r.length ≤ 1048576) (ht' : t'.length ≤ 1048576) (hg' : g'.length ≤ 1048576) (hr' : r'.length ≤ 1048576) : Ev (fun k => spec_rcBoth.f k x y z t g r x' y' z' t' g' r') (modelOk x y z t g r && (modelOk x' y' z' t' g' r' && (x == x' && (y == y' && (z == z'))))) :=
  (ev_and (spec_moGood_ev x y z t g r ht hg hr) <| ev_one (spec_moGood_ev x' y' z' t' g' r' ht' hg' hr')).ev fun k ⟨h1, h2⟩ => by
    simp only [spec_rcBoth.f, h1, h2, Option.bind_some]
    by_cases h : modelOk x y z t g r = true
    · rw [if_pos h, h]
      by_cases h' : modelOk x' y' z' t' g' r' = true
      · rw [if_pos h', h']; rfl
      · rw [if_neg h']; simp [h']
    · rw [if_neg h]; simp [h]
theorem spec_l1Rising_l0 (n : Int) (l : List Int) (hn : l.length ≤ 9223372036854775807) : ∀ (ys : List Int) (i : Nat) (p : Int), l.drop i = ys → (i = 0 ∧ p = -1 ∨ 0 < i ∧ l[i - 1]? = some p) → Ev (fun k => spec_l1Rising.l0 k l 0 (n - 1) l (l.length : Int) i) (rise n p ys)
  | [], i, p, h, hp => Ev.next0 fun k => by
      have h0 := drop_nil h
      simp only [spec_l1Rising.l0, rise]
      rw [if_neg (by omega)]
  | y :: ys, i, p, h, hp => by
      obtain ⟨h1, h2, h3⟩ := drop_cons h
      refine Ev.next1 (spec_l1Rising_l0 n l hn ys (i + 1) y h3 (.inr ⟨by omega, by simpa using h2⟩)) fun k hk => ?_
      have e := rd_drop h
      simp only [spec_l1Rising.l0, e, spec_l1In_eq, Option.bind_some, rise]
      rw [if_pos (by omega), if_pos (by omega), if_pos (by omega), wrap_succ h1 hn]
      by_cases hy : 0 ≤ y ∧ y < n
      · rw [if_pos (by simp; omega)]
        rcases hp with ⟨rfl, rfl⟩ | ⟨hi, hp⟩
        · rw [if_neg (by omega), hk]; simp; omega
        · have e2 : rd l (wrap64 ((i : Int) - 1)) = p := by
            rw [wrap_id (by omega) (by omega), show (i : Int) - 1 = ((i - 1 : Nat) : Int) by omega]; exact rd_get hp
          rw [if_pos (by omega), wrap_id (by omega) (by omega), if_pos (by omega), if_pos (by omega)]
          rw [wrap_id (by omega) (by omega)] at e2
          rw [e2]
          by_cases hq : p < y
          · rw [if_neg (by omega), hk]; simp [hy, hq]
          · rw [if_pos (by omega)]; simp [hq]
      · rw [if_neg (by simp; omega)]; congr 1; symm; simp; omega
theorem spec_l1Rising_ev (n : Int) (l : List Int) (hn : l.length ≤ 9223372036854775807) : Ev (fun k => spec_l1Rising.f k l 0 (n - 1)) (rise n (-1) l) :=
  Ev.of1 (spec_l1Rising_l0 n l hn l 0 (-1) rfl (.inl ⟨rfl, rfl⟩)) fun k hk => by simp only [spec_l1Rising.f]; exact hk
theorem spec_moList_ev (x y z : Int) (t g r s : List Int) (ht : t.length ≤ 1048576) (hg : g.length ≤ 1048576) (hr : r.length ≤ 1048576) (hs : s.length ≤ 1048576) : Ev (fun k => spec_moList.f k x y z t g r s) (modelOk x y z t g r && rise (x * y * z) (-1) s) := by
  by_cases h : modelOk x y z t g r = true
  · have hgr : gridOk x y z = true := by have h1 := h; simp only [modelOk, Bool.and_eq_true] at h1; exact h1.1.1
    have hb := grid_ok hgr
    refine (ev_and (spec_moGood_ev x y z t g r ht hg hr) <| ev_one (spec_l1Rising_ev (x * y * z) s (by omega))).ev fun k ⟨h1, h2⟩ => ?_
    simp only [spec_moList.f, h1, spec_grCount_eq x y z hgr, Option.bind_some]
    rw [if_pos h, wrap_id (by omega) (by omega), h2]; simp [h]
  · refine (ev_one (spec_moGood_ev x y z t g r ht hg hr)).ev fun k h1 => ?_
    simp only [spec_moList.f, h1, Option.bind_some]
    rw [if_neg h]; simp [h]
theorem spec_moPart_l0 (x y : Int) : ∀ (n b a : Nat), b ≤ n → 0 < a + b → Ev (fun k => spec_moPart.l0 k x y (a : Int) (b : Int)) (wrap64 (Int.tdiv x (Nat.gcd a b : Int)), wrap64 (Int.tdiv y (Nat.gcd a b : Int)))
  | n, 0, a, hn, h => Ev.next0 fun k => by
      simp only [spec_moPart.l0, Nat.gcd_zero_right]
      rw [if_neg (by omega), if_neg (by omega)]
  | 0, b + 1, a, hn, h => by omega
  | n + 1, b + 1, a, hn, h => by
      have hlt := Nat.mod_lt a (show 0 < b + 1 by omega)
      refine Ev.next1 (spec_moPart_l0 x y n (a % (b + 1)) (b + 1) (by omega) (by omega)) fun k hk => ?_
      have em : Int.tmod (a : Int) ((b + 1 : Nat) : Int) = ((a % (b + 1) : Nat) : Int) := by
        rw [Int.tmod_eq_emod_of_nonneg (by omega)]; exact (Int.natCast_emod a (b + 1)).symm
      have eg : Nat.gcd a (b + 1) = Nat.gcd (b + 1) (a % (b + 1)) := by
        rw [Nat.gcd_comm a (b + 1), Nat.gcd_rec (b + 1) a, Nat.gcd_comm]
      simp only [spec_moPart.l0]
      rw [if_pos (by omega), if_neg (by omega), em]
      rw [eg]; exact hk
theorem spec_moPart_ev (a b : Int) (ha : 0 ≤ a) (hb : 0 < b) (ha' : a ≤ 4611686018427387904) (hb' : b ≤ 4611686018427387904) : Ev (fun k => spec_moPart.f k a b) (low a b) := by
  have hl := low_bd ha hb
  have h := spec_moPart_l0 a b b.natAbs b.natAbs a.natAbs (by omega) (by omega)
  rw [Int.tdiv_eq_ediv_of_nonneg ha, Int.tdiv_eq_ediv_of_nonneg (by omega)] at h
  have e : (wrap64 (a / (Nat.gcd a.natAbs b.natAbs : Int)), wrap64 (b / (Nat.gcd a.natAbs b.natAbs : Int))) = low a b := by
    rw [show a / (Nat.gcd a.natAbs b.natAbs : Int) = (low a b).1 from rfl, show b / (Nat.gcd a.natAbs b.natAbs : Int) = (low a b).2 from rfl, wrap_id (by omega) (by omega), wrap_id (by omega) (by omega)]
  rw [e] at h
  refine Ev.of1 h fun k hk => ?_
  simp only [spec_moPart.f]
  rw [show ((a.natAbs : Nat) : Int) = a by omega, show ((b.natAbs : Nat) : Int) = b by omega] at hk
  exact hk
-- needs: factor_of
theorem spec_FactorOf_ratio (a b : Int) (ha : 0 ≤ a) (hb : 0 ≤ b) (ha' : a ≤ 1500000000000000) (hb' : b ≤ 1500000000000000) : Ev (fun k => if b = 0 then (some (0, 0, false) : Option (Int × Int × Bool)) else (spec_moPart.f k a b).bind fun p => (some (p.1, p.2, true))) (ratio a b) := by
  by_cases h : b = 0
  · exact Ev.all fun k => by rw [if_pos h, ratio, if_pos h]
  · exact (ev_one (spec_moPart_ev a b ha (by omega) (by omega) (by omega))).ev fun k h1 => by
      rw [if_neg h, h1, ratio, if_neg h]; rfl
theorem spec_FactorOf_j1 (ta ma tb mb : Int) (a0 : 0 ≤ ta) (a1 : ta ≤ 1200000) (b0 : 0 ≤ ma) (b1 : ma ≤ 1200000000) (c0 : 0 ≤ tb) (c1 : tb ≤ 1200000) (d0 : 0 ≤ mb) (d1 : mb ≤ 1200000000) : Ev (fun k => spec_FactorOf.j1 k ta ma tb mb false) (ratio (mb * ta) (tb * ma)) := by
  have p1 := prod_bd d0 d1 a0 a1
  have p2 := prod_bd c0 c1 b0 b1
  refine (ev_one (spec_FactorOf_ratio (mb * ta) (tb * ma) p1.1 p2.1 (by omega) (by omega))).next fun k h1 => ?_
  simp only [spec_FactorOf.j1]
  rw [if_neg (by simp), wrap_id (x := tb * ma) (by omega) (by omega), wrap_id (x := mb * ta) (by omega) (by omega)]; exact h1
theorem spec_FactorOf_j1no (ta ma tb mb : Int) : Ev (fun k => spec_FactorOf.j1 k ta ma tb mb true) (0, 0, false) := Ev.next0 fun k => by simp [spec_FactorOf.j1]
theorem spec_FactorOf_yes (x y z : Int) (t g r : List Int) (x' y' z' : Int) (t' g' r' : List Int) (ht : t.length ≤ 1048576) (hg : g.length ≤ 1048576) (hr : r.length ≤ 1048576) (ht' : t'.length ≤ 1048576) (hg' : g'.length ≤ 1048576) (hr' : r'.length ≤ 1048576) (s : List Int) (c : Int) (h : modelOk x y z t g r = true ∧ modelOk x' y' z' t' g' r' = true ∧ x = x' ∧ y = y' ∧ z = z') (hs : rise (x * y * z) (-1) s = true) (hc : 0 ≤ c ∧ c ≤ 2) : Ev (fun k => spec_FactorOf.j0 k s c false x y z t g r x' y' z' t' g' r') (factor c (selT t s) (selM t g s) (selT t' s) (selM t' g' s)) := by
  obtain ⟨f1, f2, f3, _⟩ := factor_facts h hs
  obtain ⟨_, _, v1, v2, _⟩ := model_ok h.1
  obtain ⟨_, _, u1, u2, _⟩ := model_ok h.2.1
  have s1 := spec_moSums_ev x y z t g r v1 v2 s (by omega) f2
  have s2 := spec_moSums_ev x' y' z' t' g' r' u1 u2 s (by omega) f3
  have q1 := sel_bd v1 v2 s f2
  have q2 := sel_bd u1 u2 s f3
  generalize selT t s = ta at s1 q1 ⊢
  generalize selM t g s = ma at s1 q1 ⊢
  generalize selT t' s = tb at s2 q2 ⊢
  generalize selM t' g' s = mb at s2 q2 ⊢
  have a0 : 0 ≤ ta := q1.1.1
  have a1 : ta ≤ 1200000 := by omega
  have b0 : 0 ≤ ma := q1.2.1
  have b1 : ma ≤ 1200000000 := by omega
  have c0 : 0 ≤ tb := q2.1.1
  have c1 : tb ≤ 1200000 := by omega
  have d0 : 0 ≤ mb := q2.2.1
  have d1 : mb ≤ 1200000000 := by omega
  clear q1 q2
  rcases (by omega : c = 0 ∨ c = 1 ∨ c = 2) with e | e | e
  · refine (ev_and s1 <| ev_and s2 <| ev_one (spec_FactorOf_ratio tb ta c0 a0 (by omega) (by omega))).next fun k ⟨h1, h2, h3⟩ => ?_
    simp only [spec_FactorOf.j0, h1, h2, Option.bind_some]
    have hf : factor c ta ma tb mb = ratio tb ta := by rw [factor, if_pos e]
    rw [if_neg (by simp), if_neg (by omega), if_neg (by omega), hf]; exact h3
  · refine (ev_and s1 <| ev_and s2 <| ev_one (spec_FactorOf_ratio mb ma d0 b0 (by omega) (by omega))).next fun k ⟨h1, h2, h3⟩ => ?_
    simp only [spec_FactorOf.j0, h1, h2, Option.bind_some]
    have hf : factor c ta ma tb mb = ratio mb ma := by rw [factor, if_neg (by omega), if_pos e]
    rw [if_neg (by simp), if_pos e, hf]; exact h3
  · refine (ev_and s1 <| ev_and s2 <| ev_and (spec_FactorOf_j1 ta ma tb mb a0 a1 b0 b1 c0 c1 d0 d1) <| ev_one (spec_FactorOf_j1no ta ma tb mb)).next fun k ⟨h1, h2, h3, h4⟩ => ?_
    simp only [spec_FactorOf.j0, h1, h2, Option.bind_some]
    have hf : factor c ta ma tb mb = if ta = 0 then (0, 0, false) else ratio (mb * ta) (tb * ma) := by rw [factor, if_neg (by omega), if_neg (by omega)]
    rw [if_neg (by simp), if_neg (by omega), if_pos e, hf]
    by_cases hb : tb = 0
    · rw [if_pos hb, h4]
      by_cases ha : ta = 0
      · rw [if_pos ha]
      · rw [if_neg ha, ratio, if_pos (by rw [hb, Int.zero_mul])]
    · rw [if_neg hb]
      by_cases ha : ta = 0
      · rw [if_pos ha, show (ta == 0) = true by simp [ha], h4]
      · rw [if_neg ha, show (ta == 0) = false by simp [ha], h3]
theorem spec_FactorOf_no (x y z : Int) (t g r : List Int) (x' y' z' : Int) (t' g' r' : List Int) (s : List Int) (c : Int) : Ev (fun k => spec_FactorOf.j0 k s c true x y z t g r x' y' z' t' g' r') (0, 0, false) := Ev.next0 fun k => by simp [spec_FactorOf.j0]
theorem spec_FactorOf_ev (x y z : Int) (t g r : List Int) (x' y' z' : Int) (t' g' r' : List Int) (ht : t.length ≤ 1048576) (hg : g.length ≤ 1048576) (hr : r.length ≤ 1048576) (ht' : t'.length ≤ 1048576) (hg' : g'.length ≤ 1048576) (hr' : r'.length ≤ 1048576) (s : List Int) (hs : s.length ≤ 1048576) (c : Int) : Ev (fun k => spec_FactorOf.f k x y z t g r x' y' z' t' g' r' s c) (factorOf x y z t g r x' y' z' t' g' r' s c) := by
  have h0 := spec_rcBoth_ev x y z t g r x' y' z' t' g' r' ht hg hr ht' hg' hr'
  have hl := spec_moList_ev x y z t g r s ht hg hr hs
  have hn := spec_FactorOf_no x y z t g r x' y' z' t' g' r' s c
  by_cases h : modelOk x y z t g r = true ∧ modelOk x' y' z' t' g' r' = true ∧ x = x' ∧ y = y' ∧ z = z'
  · have et : (modelOk x y z t g r && (modelOk x' y' z' t' g' r' && (x == x' && (y == y' && (z == z'))))) = true := by simp only [h.1, h.2.1, Bool.true_and]; simp [h.2.2]
    
    by_cases hr1 : rise (x * y * z) (-1) s = true
    · by_cases hc : 0 ≤ c ∧ c ≤ 2
      · refine (ev_and h0 <| ev_and hl <| ev_one (spec_FactorOf_yes x y z t g r x' y' z' t' g' r' ht hg hr ht' hg' hr' s c h hr1 hc)).ev fun k ⟨k1, k2, k3⟩ => ?_
        simp only [spec_FactorOf.f, spec_l1In_eq, k1, k2, Option.bind_some]
        have ef : factorOf x y z t g r x' y' z' t' g' r' s c = factor c (selT t s) (selM t g s) (selT t' s) (selM t' g' s) := by rw [factorOf, if_pos ⟨h, hr1, hc⟩]
        rw [if_pos et, if_pos (by simp [h.1, hr1]), ef]
        rw [show (!decide (0 ≤ c ∧ c ≤ 2)) = false by simp [hc]]; exact k3
      · refine (ev_and h0 <| ev_and hl <| ev_one hn).ev fun k ⟨k1, k2, k3⟩ => ?_
        simp only [spec_FactorOf.f, spec_l1In_eq, k1, k2, Option.bind_some]
        have ef : factorOf x y z t g r x' y' z' t' g' r' s c = (0, 0, false) := by rw [factorOf, if_neg (fun q => hc q.2.2)]
        rw [if_pos et, if_pos (by simp [h.1, hr1]), ef]
        rw [show (!decide (0 ≤ c ∧ c ≤ 2)) = true by rw [decide_eq_false hc]; rfl]; exact k3
    · refine (ev_and h0 <| ev_and hl <| ev_one hn).ev fun k ⟨k1, k2, k3⟩ => ?_
      simp only [spec_FactorOf.f, k1, k2, Option.bind_some]
      have ef : factorOf x y z t g r x' y' z' t' g' r' s c = (0, 0, false) := by rw [factorOf, if_neg (fun q => hr1 q.2.1)]
      rw [if_pos et, if_neg (by simp [hr1]), ef]; exact k3
  · refine (ev_and h0 <| ev_one hn).ev fun k ⟨k1, k3⟩ => ?_
    simp only [spec_FactorOf.f, k1, Option.bind_some]
    rw [if_neg (by simpa using h), factorOf, if_neg (fun q => h q.1)]; exact k3
/-- n blocks from s on. -/
def lv (s : Int) (n : Nat) : List Int := (List.range n).map fun (j : Nat) => s + (j : Int)
theorem lv_succ (s : Int) (n : Nat) : lv s (n + 1) = lv s n ++ [s + (n : Int)] := by simp [lv, List.range_succ]
theorem lv_length (s : Int) (n : Nat) : (lv s n).length = n := by simp [lv]
theorem lv_mem {s : Int} {n : Nat} {q : Int} (h : q ∈ lv s n) : s ≤ q ∧ q < s + (n : Int) := by
  simp only [lv, List.mem_map, List.mem_range] at h
  obtain ⟨j, hj, rfl⟩ := h; omega
theorem level_bd {x y Z w : Int} (hx : 1 ≤ x ∧ x ≤ 8) (hy : 1 ≤ y ∧ y ≤ 6) (hz : 1 ≤ Z ∧ Z ≤ 5) (h : 0 ≤ w ∧ w < Z) : 0 ≤ w * x ∧ w * x ≤ 40 ∧ 0 ≤ w * x * y ∧ w * x * y ≤ 240 ∧ w * x * y + x * y ≤ x * y * Z ∧ (w + 1) * x * y = w * x * y + x * y ∧ (w + 1) * x ≤ 48 ∧ 0 ≤ (w + 1) * x ∧ 1 ≤ x * y ∧ x * y ≤ 48 := by
  rcases (by omega : w = 0 ∨ w = 1 ∨ w = 2 ∨ w = 3 ∨ w = 4) with rfl | rfl | rfl | rfl | rfl <;>
    rcases (by omega : x = 1 ∨ x = 2 ∨ x = 3 ∨ x = 4 ∨ x = 5 ∨ x = 6 ∨ x = 7 ∨ x = 8) with rfl | rfl | rfl | rfl | rfl | rfl | rfl | rfl <;>
      rcases (by omega : Z = 1 ∨ Z = 2 ∨ Z = 3 ∨ Z = 4 ∨ Z = 5) with rfl | rfl | rfl | rfl | rfl <;> omega
-- needs: level_model
theorem impl_LevelBlocks_l0 (x y Z w : Int) (hx : 1 ≤ x ∧ x ≤ 8) (hy : 1 ≤ y ∧ y ≤ 6) (hz : 1 ≤ Z ∧ Z ≤ 5) (h : 0 ≤ w ∧ w < Z) (n : Nat) (hn : (n : Int) = x * y) : ∀ (m i : Nat), i + m = n → Ev (fun k => impl_LevelBlocks.l0 k w (lv (w * x * y) i) (w * x * y + (i : Int)) x y Z) (lv (w * x * y) n, true)
  | 0, i, hi => Ev.next0 fun k => by
      have hb := level_bd hx hy hz h
      simp only [impl_LevelBlocks.l0]
      rw [wrap_id (x := w + 1) (by omega) (by omega), wrap_id (x := (w + 1) * x) (by omega) (by omega), wrap_id (x := (w + 1) * x * y) (by omega) (by omega), if_neg (by omega), show i = n by omega]
  | m + 1, i, hi => by
      have hb := level_bd hx hy hz h
      refine Ev.next1 (impl_LevelBlocks_l0 x y Z w hx hy hz h n hn m (i + 1) (by omega)) fun k hk => ?_
      simp only [impl_LevelBlocks.l0]
      rw [wrap_id (x := w + 1) (by omega) (by omega), wrap_id (x := (w + 1) * x) (by omega) (by omega), wrap_id (x := (w + 1) * x * y) (by omega) (by omega), if_pos (by omega), if_pos (by rw [lv_length]; omega), wrap_id (x := w * x * y + (i : Int) + 1) (by omega) (by omega), ← lv_succ, show w * x * y + (i : Int) + 1 = w * x * y + ((i + 1 : Nat) : Int) by push_cast; omega]
      exact hk
theorem impl_LevelBlocks_ev (x y Z w : Int) (hg : gridOk x y Z = true) (h : 0 ≤ w ∧ w < Z) (n : Nat) (hn : (n : Int) = x * y) : Ev (fun k => impl_LevelBlocks.f k x y Z w) (lv (w * x * y) n, true) := by
  have hb := grid_ok hg
  have hb2 := level_bd hb.1 hb.2.1 hb.2.2.1 h
  have i1 : Ev (fun k => impl_LevelBlocks.j0 k w false x y Z) (lv (w * x * y) n, true) := Ev.next1 (impl_LevelBlocks_l0 x y Z w hb.1 hb.2.1 hb.2.2.1 h n hn n 0 (by omega)) fun k hk => by
    simp only [impl_LevelBlocks.j0]
    rw [if_neg (by simp), wrap_id (x := w * x) (by omega) (by omega), wrap_id (x := w * x * y) (by omega) (by omega)]
    rw [show w * x * y + ((0 : Nat) : Int) = w * x * y by omega, show lv (w * x * y) 0 = [] from rfl] at hk; exact hk
  refine (ev_one i1).ev fun k k1 => ?_
  simp only [impl_LevelBlocks.f, impl_IsGrid_eq, Option.bind_some]
  rw [if_pos hg, if_neg (by omega), show decide (w ≥ Z) = false by simp; omega]; exact k1
-- needs: spec_moMetal spec_moSums level_model
/-- What a level holds, and by how much two levels differ. -/
def lvT (x y : Int) (t : List Int) (n i : Nat) : Int := selT t (lv ((i : Int) * x * y) n)
def lvM (x y : Int) (t g : List Int) (n i : Nat) : Int := selM t g (lv ((i : Int) * x * y) n)
def sumsTo (x y : Int) (t g : List Int) (n Z : Nat) : List (List Int) := (List.range Z).map fun i => [lvT x y t n i, lvM x y t g n i]
def gapsTo (x y : Int) (t g t' g' : List Int) (n Z : Nat) : List (List Int) := (List.range Z).map fun i => [lvT x y t' n i - lvT x y t n i, lvM x y t' g' n i - lvM x y t g n i]
theorem sumsTo_succ (x y : Int) (t g : List Int) (n Z : Nat) : sumsTo x y t g n (Z + 1) = sumsTo x y t g n Z ++ [[lvT x y t n Z, lvM x y t g n Z]] := by simp [sumsTo, List.range_succ]
theorem gapsTo_succ (x y : Int) (t g t' g' : List Int) (n Z : Nat) : gapsTo x y t g t' g' n (Z + 1) = gapsTo x y t g t' g' n Z ++ [[lvT x y t' n Z - lvT x y t n Z, lvM x y t' g' n Z - lvM x y t g n Z]] := by simp [gapsTo, List.range_succ]
theorem sumsTo_length (x y : Int) (t g : List Int) (n Z : Nat) : (sumsTo x y t g n Z).length = Z := by simp [sumsTo]
theorem gapsTo_length (x y : Int) (t g t' g' : List Int) (n Z : Nat) : (gapsTo x y t g t' g' n Z).length = Z := by simp [gapsTo]
theorem sumsTo_get {x y : Int} {t g : List Int} {n Z i : Nat} (h : i < Z) : rd_L3 (sumsTo x y t g n Z) (i : Int) = [lvT x y t n i, lvM x y t g n i] := getD_get (by simp [sumsTo, h])
theorem gapsTo_get {x y : Int} {t g t' g' : List Int} {n Z i : Nat} (h : i < Z) : rd_L3 (gapsTo x y t g t' g' n Z) (i : Int) = [lvT x y t' n i - lvT x y t n i, lvM x y t' g' n i - lvM x y t g n i] := getD_get (by simp [gapsTo, h])
/-- A level of a good model. -/
theorem level_in {x y z : Int} {t g r : List Int} (h : modelOk x y z t g r = true) {n i : Nat} (hn : (n : Int) = x * y) (hi : (i : Int) < z) : (∀ q ∈ lv ((i : Int) * x * y) n, 0 ≤ q ∧ q < (t.length : Int) ∧ q < (g.length : Int)) ∧ n ≤ 48 ∧ (0 ≤ lvT x y t n i ∧ lvT x y t n i ≤ 480000) ∧ (0 ≤ lvM x y t g n i ∧ lvM x y t g n i ≤ 480000000) := by
  obtain ⟨hgr, l1, v1, v2, _⟩ := model_ok h
  have hb := grid_ok hgr
  have hb2 := level_bd hb.1 hb.2.1 hb.2.2.1 (w := (i : Int)) (by omega)
  have hin : ∀ q ∈ lv ((i : Int) * x * y) n, 0 ≤ q ∧ q < (t.length : Int) ∧ q < (g.length : Int) := fun q hq => by have := lv_mem hq; omega
  have hs := sel_bd v1 v2 _ hin
  rw [lv_length] at hs
  refine ⟨hin, by omega, ?_, ?_⟩
  · simp only [lvT]; omega
  · simp only [lvM]; omega
-- needs: gap_model
theorem impl_LevelSums_l0 (x y z : Int) (t g r : List Int) (h : modelOk x y z t g r = true) (n Z : Nat) (hn : (n : Int) = x * y) (hz : (Z : Int) = z) : ∀ (m i : Nat), i + m = Z → Ev (fun k => impl_LevelSums.l0 k (sumsTo x y t g n i) (i : Int) x y z t g r) (sumsTo x y t g n Z, true)
  | 0, i, hi => Ev.next0 fun k => by
      simp only [impl_LevelSums.l0]
      rw [if_neg (by omega), show i = Z by omega]
  | m + 1, i, hi => by
      obtain ⟨hgr, _, v1, v2, _⟩ := model_ok h
      have hb := grid_ok hgr
      have q1 := level_in h hn (i := i) (by omega)
      have e0 := impl_LevelBlocks_ev x y z (i : Int) hgr (by omega) n hn
      have e1 := impl_sumsOf_ev x y z t g r v1 v2 _ (by rw [lv_length]; omega) q1.1
      refine ((ev_and e0 <| ev_and e1 <| ev_one (impl_LevelSums_l0 x y z t g r h n Z hn hz m (i + 1) (by omega))).next fun k ⟨k0, k1, k3⟩ => ?_)
      simp only [impl_LevelSums.l0, k0, k1, Option.bind_some]
      rw [if_pos (by omega), if_pos (by rw [sumsTo_length]; omega), wrap_succ (n := Z) (by omega) (by omega)]
      rw [sumsTo_succ] at k3
      exact k3
theorem impl_LevelSums_ev (x y z : Int) (t g r : List Int) (ht : t.length ≤ 1048576) (hg : g.length ≤ 1048576) (hr : r.length ≤ 1048576) (h : modelOk x y z t g r = true) (n Z : Nat) (hn : (n : Int) = x * y) (hz : (Z : Int) = z) : Ev (fun k => impl_LevelSums.f k x y z t g r) (sumsTo x y t g n Z, true) :=
  (ev_and (impl_IsModel_ev x y z t g r ht hg hr) <| ev_one (impl_LevelSums_l0 x y z t g r h n Z hn hz Z 0 (by omega))).ev fun k ⟨k1, k2⟩ => by
    simp only [impl_LevelSums.f, k1, Option.bind_some]
    rw [if_pos h]; exact k2
-- needs: gap_model
def levelGaps (x y z : Int) (t g r : List Int) (x' y' z' : Int) (t' g' r' : List Int) : List (List Int) × Bool := if modelOk x y z t g r = true ∧ modelOk x' y' z' t' g' r' = true ∧ x = x' ∧ y = y' ∧ z = z' then (gapsTo x y t g t' g' (x * y).toNat z.toNat, true) else ([], false)
-- needs: level_gaps
theorem impl_LevelGaps_l0 (x y z : Int) (t g r : List Int) (x' y' z' : Int) (t' g' r' : List Int) (h : modelOk x y z t g r = true ∧ modelOk x' y' z' t' g' r' = true ∧ x = x' ∧ y = y' ∧ z = z') (n Z : Nat) (hn : (n : Int) = x * y) (hz : (Z : Int) = z) : ∀ (m i : Nat), i + m = Z → Ev (fun k => impl_LevelGaps.l0 k (sumsTo x y t g n Z) (sumsTo x y t' g' n Z) (gapsTo x y t g t' g' n i) (Z : Int) (i : Int)) (gapsTo x y t g t' g' n Z, true)
  | 0, i, hi => Ev.next0 fun k => by
      simp only [impl_LevelGaps.l0]
      rw [if_neg (by omega), show i = Z by omega]
  | m + 1, i, hi => by
      have hb := grid_ok (model_ok h.1).1
      have q1 := level_in h.1 hn (i := i) (by omega)
      have q2 := level_in h.2.1 (n := n) (i := i) (by rw [hn, h.2.2.1, h.2.2.2.1]) (by omega)
      rw [← h.2.2.1, ← h.2.2.2.1] at q2
      have p1 := q1.2.2; have p2 := q2.2.2
      have ih := impl_LevelGaps_l0 x y z t g r x' y' z' t' g' r' h n Z hn hz m (i + 1) (by omega)
      rw [gapsTo_succ] at ih
      refine Ev.next1 ih fun k k3 => ?_
      simp only [impl_LevelGaps.l0, sumsTo_get (show i < Z by omega)]
      generalize lvT x y t n i = a1 at *
      generalize lvM x y t g n i = a2 at *
      generalize lvT x y t' n i = a3 at *
      generalize lvM x y t' g' n i = a4 at *
      have c0 : rd [a1, a2] 0 = a1 := rfl
      have c1 : rd [a1, a2] 1 = a2 := rfl
      have c2 : rd [a3, a4] 0 = a3 := rfl
      have c3 : rd [a3, a4] 1 = a4 := rfl
      have n1 : ([a1, a2] : List Int).length = 2 := rfl
      have n2 : ([a3, a4] : List Int).length = 2 := rfl
      rw [sumsTo_length, sumsTo_length, gapsTo_length, n1, n2, c0, c1, c2, c3, if_pos (by omega), if_pos (by omega), if_pos (by omega), if_pos (by omega), if_pos (by omega), if_pos (by omega), if_pos (by omega), if_pos (by omega), if_pos (by omega), wrap_succ (n := Z) (by omega) (by omega), wrap_id (x := a3 - a1) (by omega) (by omega), wrap_id (x := a4 - a2) (by omega) (by omega)]
      exact k3
theorem impl_LevelGaps_ev (x y z : Int) (t g r : List Int) (x' y' z' : Int) (t' g' r' : List Int) (ht : t.length ≤ 1048576) (hg : g.length ≤ 1048576) (hr : r.length ≤ 1048576) (ht' : t'.length ≤ 1048576) (hg' : g'.length ≤ 1048576) (hr' : r'.length ≤ 1048576) : Ev (fun k => impl_LevelGaps.f k x y z t g r x' y' z' t' g' r') (levelGaps x y z t g r x' y' z' t' g' r') := by
  have h0 := impl_areTwins_ev x y z t g r x' y' z' t' g' r' ht hg hr ht' hg' hr'
  by_cases h : modelOk x y z t g r = true ∧ modelOk x' y' z' t' g' r' = true ∧ x = x' ∧ y = y' ∧ z = z'
  · have hb := grid_ok (model_ok h.1).1
    have hn : (((x * y).toNat : Nat) : Int) = x * y := by omega
    have hz : ((z.toNat : Nat) : Int) = z := by omega
    have ef : levelGaps x y z t g r x' y' z' t' g' r' = (gapsTo x y t g t' g' (x * y).toNat z.toNat, true) := by rw [levelGaps, if_pos h]
    have s1 := impl_LevelSums_ev x y z t g r ht hg hr h.1 _ _ hn hz
    have s2 := impl_LevelSums_ev x' y' z' t' g' r' ht' hg' hr' h.2.1 (x * y).toNat z.toNat (by rw [hn, h.2.2.1, h.2.2.2.1]) (by omega)
    rw [← h.2.2.1, ← h.2.2.2.1] at s2
    have s3 := impl_LevelGaps_l0 x y z t g r x' y' z' t' g' r' h _ _ hn hz z.toNat 0 (by omega)
    rw [← h.2.2.1, ← h.2.2.2.1] at h0
    refine (ev_and h0 <| ev_and s1 <| ev_and s2 <| ev_one s3).ev fun k ⟨k0, k1, k2, k3⟩ => ?_
    have e1 := h.2.2.1; have e2 := h.2.2.2.1
    subst e1; subst e2
    simp only [impl_LevelGaps.f, k0, k1, k2, Option.bind_some]
    rw [if_pos (by simp only [h.1, h.2.1, Bool.true_and]; simp [h.2.2.2.2]), ef, sumsTo_length]; exact k3
  · have ef : levelGaps x y z t g r x' y' z' t' g' r' = ([], false) := by rw [levelGaps, if_neg h]
    refine (ev_one h0).ev fun k k0 => ?_
    simp only [impl_LevelGaps.f, k0, Option.bind_some]
    rw [if_neg (by simpa using h), ef]
-- needs: level_model
theorem spec_LevelBlocks_l0 (x y Z w : Int) (hx : 1 ≤ x ∧ x ≤ 8) (hy : 1 ≤ y ∧ y ≤ 6) (hz : 1 ≤ Z ∧ Z ≤ 5) (h : 0 ≤ w ∧ w < Z) (n : Nat) (hn : (n : Int) = x * y) : ∀ (m i : Nat), i + m = n → Ev (fun k => spec_LevelBlocks.l0 k w (lv (w * x * y) i) (i : Int) x y Z) (lv (w * x * y) n, true)
  | 0, i, hi => Ev.next0 fun k => by
      have hb := level_bd hx hy hz h
      simp only [spec_LevelBlocks.l0]
      rw [wrap_id (x := x * y) (by omega) (by omega), if_neg (by omega), show i = n by omega]
  | m + 1, i, hi => by
      have hb := level_bd hx hy hz h
      refine Ev.next1 (spec_LevelBlocks_l0 x y Z w hx hy hz h n hn m (i + 1) (by omega)) fun k hk => ?_
      simp only [spec_LevelBlocks.l0]
      rw [wrap_id (x := x * y) (by omega) (by omega), if_pos (by omega), if_pos (by rw [lv_length]; omega), wrap_id (x := w * x) (by omega) (by omega), wrap_id (x := w * x * y) (by omega) (by omega), wrap_id (x := w * x * y + (i : Int)) (by omega) (by omega), wrap_succ (n := n) (by omega) (by omega), ← lv_succ]
      exact hk
theorem spec_LevelBlocks_ev (x y Z w : Int) (hg : gridOk x y Z = true) (h : 0 ≤ w ∧ w < Z) (n : Nat) (hn : (n : Int) = x * y) : Ev (fun k => spec_LevelBlocks.f k x y Z w) (lv (w * x * y) n, true) := by
  have hb := grid_ok hg
  have i1 : Ev (fun k => spec_LevelBlocks.j0 k w false x y Z) (lv (w * x * y) n, true) := Ev.next1 (spec_LevelBlocks_l0 x y Z w hb.1 hb.2.1 hb.2.2.1 h n hn n 0 (by omega)) fun k hk => by
    simp only [spec_LevelBlocks.j0]
    rw [show lv (w * x * y) 0 = [] from rfl] at hk
    rw [if_neg (by simp)]; exact hk
  refine (ev_one i1).ev fun k k1 => ?_
  simp only [spec_LevelBlocks.f, spec_grGood_eq, spec_l1In_eq, Option.bind_some]
  rw [if_pos hg, wrap_id (x := Z - 1) (by omega) (by omega), show (!decide (0 ≤ w ∧ w ≤ Z - 1)) = false by simp; omega]; exact k1
-- needs: gap_model
theorem spec_rcLevels_l0 (x y z : Int) (t g r : List Int) (x' y' z' : Int) (t' g' r' : List Int) (h : modelOk x y z t g r = true ∧ modelOk x' y' z' t' g' r' = true ∧ x = x' ∧ y = y' ∧ z = z') (n Z : Nat) (hn : (n : Int) = x * y) (hz : (Z : Int) = z) : ∀ (m i : Nat), i + m = Z → Ev (fun k => spec_rcLevels.l0 k (gapsTo x y t g t' g' n i) (i : Int) x y z t g r x' y' z' t' g' r') (gapsTo x y t g t' g' n Z)
  | 0, i, hi => Ev.next0 fun k => by
      simp only [spec_rcLevels.l0]
      rw [if_neg (by omega), show i = Z by omega]
  | m + 1, i, hi => by
      obtain ⟨hgr, _, v1, v2, _⟩ := model_ok h.1
      obtain ⟨_, _, u1, u2, _⟩ := model_ok h.2.1
      have hb := grid_ok hgr
      have q1 := level_in h.1 hn (i := i) (by omega)
      have q2 := level_in h.2.1 (n := n) (i := i) (by rw [hn, h.2.2.1, h.2.2.2.1]) (by omega)
      rw [← h.2.2.1, ← h.2.2.2.1] at q2
      have e0 := spec_LevelBlocks_ev x y z (i : Int) hgr (by omega) n hn
      have e1 := spec_moSums_ev x y z t g r v1 v2 _ (by rw [lv_length]; omega) q1.1
      have e2 := spec_moSums_ev x' y' z' t' g' r' u1 u2 _ (by rw [lv_length]; omega) q2.1
      refine ((ev_and e0 <| ev_and e1 <| ev_and e2 <| ev_one (spec_rcLevels_l0 x y z t g r x' y' z' t' g' r' h n Z hn hz m (i + 1) (by omega))).next fun k ⟨k0, k1, k2, k3⟩ => ?_)
      simp only [spec_rcLevels.l0, k0, k1, k2, Option.bind_some]
      rw [if_pos (by omega), if_pos (by rw [gapsTo_length]; omega), wrap_succ (n := Z) (by omega) (by omega)]
      have p1 := q1.2.2; have p2 := q2.2.2
      rw [gapsTo_succ] at k3
      simp only [lvT, lvM] at p1 p2 k3
      rw [wrap_id (by omega) (by omega), wrap_id (by omega) (by omega)]
      exact k3
theorem spec_rcLevels_ev (x y z : Int) (t g r : List Int) (x' y' z' : Int) (t' g' r' : List Int) (h : modelOk x y z t g r = true ∧ modelOk x' y' z' t' g' r' = true ∧ x = x' ∧ y = y' ∧ z = z') (n Z : Nat) (hn : (n : Int) = x * y) (hz : (Z : Int) = z) : Ev (fun k => spec_rcLevels.f k x y z t g r x' y' z' t' g' r') (gapsTo x y t g t' g' n Z) :=
  Ev.of1 (spec_rcLevels_l0 x y z t g r x' y' z' t' g' r' h n Z hn hz Z 0 (by omega)) fun k hk => by simp only [spec_rcLevels.f]; exact hk
-- needs: level_gaps
theorem spec_LevelGaps_ev (x y z : Int) (t g r : List Int) (x' y' z' : Int) (t' g' r' : List Int) (ht : t.length ≤ 1048576) (hg : g.length ≤ 1048576) (hr : r.length ≤ 1048576) (ht' : t'.length ≤ 1048576) (hg' : g'.length ≤ 1048576) (hr' : r'.length ≤ 1048576) : Ev (fun k => spec_LevelGaps.f k x y z t g r x' y' z' t' g' r') (levelGaps x y z t g r x' y' z' t' g' r') := by
  have h0 := spec_rcBoth_ev x y z t g r x' y' z' t' g' r' ht hg hr ht' hg' hr'
  by_cases h : modelOk x y z t g r = true ∧ modelOk x' y' z' t' g' r' = true ∧ x = x' ∧ y = y' ∧ z = z'
  · have hb := grid_ok (model_ok h.1).1
    have hn : (((x * y).toNat : Nat) : Int) = x * y := by omega
    have hz : ((z.toNat : Nat) : Int) = z := by omega
    have ef : levelGaps x y z t g r x' y' z' t' g' r' = (gapsTo x y t g t' g' (x * y).toNat z.toNat, true) := by rw [levelGaps, if_pos h]
    have s1 := spec_rcLevels_ev x y z t g r x' y' z' t' g' r' h _ _ hn hz
    refine (ev_and h0 <| ev_one s1).ev fun k ⟨k0, k1⟩ => ?_
    simp only [spec_LevelGaps.f, k0, k1, Option.bind_some]
    rw [if_pos (by simp only [h.1, h.2.1, Bool.true_and]; simp [h.2.2]), ef]
  · have ef : levelGaps x y z t g r x' y' z' t' g' r' = ([], false) := by rw [levelGaps, if_neg h]
    refine (ev_one h0).ev fun k k0 => ?_
    simp only [spec_LevelGaps.f, k0, Option.bind_some]
    rw [if_neg (by simpa using h), ef]
-- needs: level_gaps
def ab (v : Int) : Int := max v (-v)
def worst (G : List (List Int)) : Nat → Nat → Nat → Nat
  | 0, _, b => b
  | m + 1, i, b => worst G m (i + 1) (if ab (rd (rd_L3 G (i : Int)) 1) > ab (rd (rd_L3 G (b : Int)) 1) then i else b)
def worstLevel (x y z : Int) (t g r : List Int) (x' y' z' : Int) (t' g' r' : List Int) : Int × Bool := if modelOk x y z t g r = true ∧ modelOk x' y' z' t' g' r' = true ∧ x = x' ∧ y = y' ∧ z = z' then ((worst (gapsTo x y t g t' g' (x * y).toNat z.toNat) z.toNat 0 0 : Nat), true) else (0, false)
/-- Rows of two numbers that aren't great. -/
def RowsTwo (G : List (List Int)) : Prop := ∀ i : Nat, i < G.length → (rd_L3 G (i : Int)).length = 2 ∧ -1000000000 ≤ rd (rd_L3 G (i : Int)) 1 ∧ rd (rd_L3 G (i : Int)) 1 ≤ 1000000000
theorem gaps_two {x y z : Int} {t g r : List Int} {x' y' z' : Int} {t' g' r' : List Int} (h : modelOk x y z t g r = true ∧ modelOk x' y' z' t' g' r' = true ∧ x = x' ∧ y = y' ∧ z = z') (n Z : Nat) (hn : (n : Int) = x * y) (hz : (Z : Int) = z) : RowsTwo (gapsTo x y t g t' g' n Z) := by
  intro i hi
  rw [gapsTo_length] at hi
  have q1 := level_in h.1 hn (i := i) (by omega)
  have q2 := level_in h.2.1 (n := n) (i := i) (by rw [hn, h.2.2.1, h.2.2.2.1]) (by omega)
  rw [← h.2.2.1, ← h.2.2.2.1] at q2
  rw [gapsTo_get hi]
  refine ⟨rfl, ?_⟩
  show -1000000000 ≤ lvM x y t' g' n i - lvM x y t g n i ∧ lvM x y t' g' n i - lvM x y t g n i ≤ 1000000000
  omega
-- needs: worst_model
theorem impl_WorstLevel_l0 (G : List (List Int)) (hG : RowsTwo G) (hn : G.length ≤ 1048576) : ∀ (m i b : Nat), i + m = G.length → (m = 0 ∨ b < G.length) → Ev (fun k => impl_WorstLevel.l0 k G (b : Int) G (G.length : Int) (i : Int)) (((worst G m i b : Nat) : Int), true)
  | 0, i, b, hi, hb => Ev.next0 fun k => by
      simp only [impl_WorstLevel.l0, worst]
      rw [if_neg (by omega)]
  | m + 1, i, b, hi, hb => by
      have gi := hG i (by omega)
      have gb := hG b (by omega)
      have ew := wrap_succ (i := i) (n := G.length) (by omega) (by omega)
      have a1 := impl_abs_eq (rd (rd_L3 G (i : Int)) 1) (by omega) (by omega)
      have a2 := impl_abs_eq (rd (rd_L3 G (b : Int)) 1) (by omega) (by omega)
      by_cases c : ab (rd (rd_L3 G (i : Int)) 1) > ab (rd (rd_L3 G (b : Int)) 1)
      · refine Ev.next1 (impl_WorstLevel_l0 G hG hn m (i + 1) i (by omega) (by omega)) fun k hk => ?_
        simp only [impl_WorstLevel.l0, worst, a1, a2, Option.bind_some]
        rw [if_pos (by omega), if_pos (by omega), if_pos (by omega), if_pos (by omega), if_pos (by omega), if_pos (by omega), if_pos (by omega), if_pos (show max (rd (rd_L3 G (i : Int)) 1) (-rd (rd_L3 G (i : Int)) 1) > max (rd (rd_L3 G (b : Int)) 1) (-rd (rd_L3 G (b : Int)) 1) from c), ew, if_pos c]; exact hk
      · refine Ev.next1 (impl_WorstLevel_l0 G hG hn m (i + 1) b (by omega) (by omega)) fun k hk => ?_
        simp only [impl_WorstLevel.l0, worst, a1, a2, Option.bind_some]
        rw [if_pos (by omega), if_pos (by omega), if_pos (by omega), if_pos (by omega), if_pos (by omega), if_pos (by omega), if_pos (by omega), if_neg (show ¬ (max (rd (rd_L3 G (i : Int)) 1) (-rd (rd_L3 G (i : Int)) 1) > max (rd (rd_L3 G (b : Int)) 1) (-rd (rd_L3 G (b : Int)) 1)) from c), ew, if_neg c]; exact hk
theorem impl_WorstLevel_ev (x y z : Int) (t g r : List Int) (x' y' z' : Int) (t' g' r' : List Int) (ht : t.length ≤ 1048576) (hg : g.length ≤ 1048576) (hr : r.length ≤ 1048576) (ht' : t'.length ≤ 1048576) (hg' : g'.length ≤ 1048576) (hr' : r'.length ≤ 1048576) : Ev (fun k => impl_WorstLevel.f k x y z t g r x' y' z' t' g' r') (worstLevel x y z t g r x' y' z' t' g' r') := by
  have h0 := impl_LevelGaps_ev x y z t g r x' y' z' t' g' r' ht hg hr ht' hg' hr'
  by_cases h : modelOk x y z t g r = true ∧ modelOk x' y' z' t' g' r' = true ∧ x = x' ∧ y = y' ∧ z = z'
  · have hb := grid_ok (model_ok h.1).1
    have hn : (((x * y).toNat : Nat) : Int) = x * y := by omega
    have hz : ((z.toNat : Nat) : Int) = z := by omega
    have ef : worstLevel x y z t g r x' y' z' t' g' r' = (((worst (gapsTo x y t g t' g' (x * y).toNat z.toNat) z.toNat 0 0 : Nat) : Int), true) := by rw [worstLevel, if_pos h]
    have hl := gapsTo_length x y t g t' g' (x * y).toNat z.toNat
    have s2 := impl_WorstLevel_l0 _ (gaps_two h _ _ hn hz) (by omega) z.toNat 0 0 (by omega) (by omega)
    have eg : levelGaps x y z t g r x' y' z' t' g' r' = (gapsTo x y t g t' g' (x * y).toNat z.toNat, true) := by rw [levelGaps, if_pos h]
    rw [eg] at h0
    refine (ev_and h0 <| ev_one s2).ev fun k ⟨k0, k2⟩ => ?_
    simp only [impl_WorstLevel.f, k0, Option.bind_some]
    rw [if_pos (by simp), ef]; exact k2
  · have ef : worstLevel x y z t g r x' y' z' t' g' r' = (0, false) := by rw [worstLevel, if_neg h]
    have eg : levelGaps x y z t g r x' y' z' t' g' r' = ([], false) := by rw [levelGaps, if_neg h]
    rw [eg] at h0
    refine (ev_one h0).ev fun k k0 => ?_
    simp only [impl_WorstLevel.f, k0, Option.bind_some]
    rw [if_neg (by simp), ef]
theorem spec_l1Abs_eq (a : Int) (h0 : -9223372036854775807 ≤ a) (h1 : a ≤ 9223372036854775807) : spec_l1Abs.f a = some (max a (-a)) := by
  simp only [spec_l1Abs.f, spec_l1Most_eq, Option.bind_some]
  rw [wrap_id (by omega) (by omega)]
-- needs: worst_model
theorem spec_WorstLevel_l0 (G : List (List Int)) (hG : RowsTwo G) (hn : G.length ≤ 1048576) : ∀ (m i b : Nat), i + m = G.length → (m = 0 ∨ b < G.length) → Ev (fun k => spec_WorstLevel.l0 k G (b : Int) G (G.length : Int) (i : Int)) (((worst G m i b : Nat) : Int), true)
  | 0, i, b, hi, hb => Ev.next0 fun k => by
      simp only [spec_WorstLevel.l0, worst]
      rw [if_neg (by omega)]
  | m + 1, i, b, hi, hb => by
      have gi := hG i (by omega)
      have gb := hG b (by omega)
      have ew := wrap_succ (i := i) (n := G.length) (by omega) (by omega)
      have a1 := spec_l1Abs_eq (rd (rd_L3 G (i : Int)) 1) (by omega) (by omega)
      have a2 := spec_l1Abs_eq (rd (rd_L3 G (b : Int)) 1) (by omega) (by omega)
      by_cases c : ab (rd (rd_L3 G (i : Int)) 1) > ab (rd (rd_L3 G (b : Int)) 1)
      · refine Ev.next1 (spec_WorstLevel_l0 G hG hn m (i + 1) i (by omega) (by omega)) fun k hk => ?_
        simp only [spec_WorstLevel.l0, worst, a1, a2, Option.bind_some]
        rw [if_pos (by omega), if_pos (by omega), if_pos (by omega), if_pos (by omega), if_pos (by omega), if_pos (by omega), if_pos (by omega), if_pos (show max (rd (rd_L3 G (i : Int)) 1) (-rd (rd_L3 G (i : Int)) 1) > max (rd (rd_L3 G (b : Int)) 1) (-rd (rd_L3 G (b : Int)) 1) from c), ew, if_pos c]; exact hk
      · refine Ev.next1 (spec_WorstLevel_l0 G hG hn m (i + 1) b (by omega) (by omega)) fun k hk => ?_
        simp only [spec_WorstLevel.l0, worst, a1, a2, Option.bind_some]
        rw [if_pos (by omega), if_pos (by omega), if_pos (by omega), if_pos (by omega), if_pos (by omega), if_pos (by omega), if_pos (by omega), if_neg (show ¬ (max (rd (rd_L3 G (i : Int)) 1) (-rd (rd_L3 G (i : Int)) 1) > max (rd (rd_L3 G (b : Int)) 1) (-rd (rd_L3 G (b : Int)) 1)) from c), ew, if_neg c]; exact hk
theorem spec_WorstLevel_ev (x y z : Int) (t g r : List Int) (x' y' z' : Int) (t' g' r' : List Int) (ht : t.length ≤ 1048576) (hg : g.length ≤ 1048576) (hr : r.length ≤ 1048576) (ht' : t'.length ≤ 1048576) (hg' : g'.length ≤ 1048576) (hr' : r'.length ≤ 1048576) : Ev (fun k => spec_WorstLevel.f k x y z t g r x' y' z' t' g' r') (worstLevel x y z t g r x' y' z' t' g' r') := by
  have h0 := spec_rcBoth_ev x y z t g r x' y' z' t' g' r' ht hg hr ht' hg' hr'
  by_cases h : modelOk x y z t g r = true ∧ modelOk x' y' z' t' g' r' = true ∧ x = x' ∧ y = y' ∧ z = z'
  · have hb := grid_ok (model_ok h.1).1
    have hn : (((x * y).toNat : Nat) : Int) = x * y := by omega
    have hz : ((z.toNat : Nat) : Int) = z := by omega
    have ef : worstLevel x y z t g r x' y' z' t' g' r' = (((worst (gapsTo x y t g t' g' (x * y).toNat z.toNat) z.toNat 0 0 : Nat) : Int), true) := by rw [worstLevel, if_pos h]
    have hl := gapsTo_length x y t g t' g' (x * y).toNat z.toNat
    have s2 := spec_WorstLevel_l0 _ (gaps_two h _ _ hn hz) (by omega) z.toNat 0 0 (by omega) (by omega)
    have s1 := spec_rcLevels_ev x y z t g r x' y' z' t' g' r' h _ _ hn hz
    refine (ev_and h0 <| ev_and s1 <| ev_one s2).ev fun k ⟨k0, k1, k2⟩ => ?_
    simp only [spec_WorstLevel.f, k0, k1, Option.bind_some]
    rw [if_pos (by simp only [h.1, h.2.1, Bool.true_and]; simp [h.2.2]), ef]; exact k2
  · have ef : worstLevel x y z t g r x' y' z' t' g' r' = (0, false) := by rw [worstLevel, if_neg h]
    refine (ev_one h0).ev fun k k0 => ?_
    simp only [spec_WorstLevel.f, k0, Option.bind_some]
    rw [if_neg (by simpa using h), ef]
theorem spec_DrawMilledShare_some (l : List Int) (hl : ∀ x ∈ l, 0 ≤ x ∧ x ≤ 255) (hn : l.length ≤ 9223372036854775807) : ∃ x y z t g r v c, Ev (fun k => spec_DrawMilledShare.f k l) (x, y, z, t, g, r, v, c) ∧ (t.length ≤ 120 ∧ g.length ≤ 120 ∧ r.length ≤ 121) ∧ v.length ≤ 1001 := by
  obtain ⟨x, y, z, t, g, r, p, s, e, g1, b1, b2⟩ := spec_l1Cur_anyModel_some l hl hn 0 0 (by omega) (by omega)
  obtain ⟨v, p2, s2, e2, g3, b3⟩ := spec_l1Cur_some_some l hl hn p s (by omega) (by omega) t.length (by omega)
  obtain ⟨q, p3, s3, e3, _, b4⟩ := spec_l1Cur_pick_some l hl hn p2 s2 (by omega) (by omega) 60000
  obtain ⟨w, p4, s4, e4, b5⟩ := spec_l1Cur_among_some l hl hn p3 s3 (by omega) (by omega) [0, 1000, q, 1000000000, 1000000001, (-1)] (by simp)
  refine ⟨x, y, z, t, g, r, v, w, Ev.of2 e e2 fun k hk hk' => ?_, g1, g3⟩
  simp only [spec_DrawMilledShare.f, hk, hk', e3, e4, Option.bind_some]
-- needs: spec_moSums
def shareRes (a m : Int) : Int × Int × Bool := if m = 0 then (0, 0, false) else ((low a m).1, (low a m).2, true)
def milledShare (x y z : Int) (t g r s : List Int) (a : Int) : Int × Int × Bool := if modelOk x y z t g r = true ∧ rise (x * y * z) (-1) s = true ∧ (0 ≤ a ∧ a ≤ 1000000000) then shareRes a (selM t g s) else (0, 0, false)
theorem spec_MilledShare_no (x y z : Int) (t g r s : List Int) (a : Int) : Ev (fun k => spec_MilledShare.j0 k s a true x y z t g r) (0, 0, false) := Ev.next0 fun k => by simp [spec_MilledShare.j0]
theorem spec_MilledShare_yes (x y z : Int) (t g r s : List Int) (a : Int) (h : modelOk x y z t g r = true) (hs : rise (x * y * z) (-1) s = true) (hn : s.length ≤ 1048576) (ha : 0 ≤ a ∧ a ≤ 1000000000) : Ev (fun k => spec_MilledShare.j0 k s a false x y z t g r) (shareRes a (selM t g s)) := by
  obtain ⟨h1, h2, h3, h4, _⟩ := model_ok h
  have hin : ∀ q ∈ s, 0 ≤ q ∧ q < (t.length : Int) ∧ q < (g.length : Int) := fun q hq => by have := rise_mem hs q hq; omega
  have hb := (sel_bd h3 h4 s hin).2
  have i0 := spec_moSums_ev x y z t g r h3 h4 s hn hin
  by_cases hz : selM t g s = 0
  · refine (ev_one i0).next fun k k1 => ?_
    simp only [spec_MilledShare.j0, k1, Bool.false_eq_true, if_false, Option.bind_some]
    rw [if_pos hz, shareRes, if_pos hz]
  · refine (ev_and i0 <| ev_one (spec_moPart_ev a (selM t g s) ha.1 (by omega) (by omega) (by omega))).next fun k ⟨k1, k2⟩ => ?_
    simp only [spec_MilledShare.j0, k1, Bool.false_eq_true, if_false, Option.bind_some]
    rw [if_neg hz, k2, shareRes, if_neg hz]; rfl
theorem spec_MilledShare_ev (x y z : Int) (t g r s : List Int) (a : Int) (ht : t.length ≤ 1048576) (hg : g.length ≤ 1048576) (hr : r.length ≤ 1048576) (hs : s.length ≤ 1048576) : Ev (fun k => spec_MilledShare.f k x y z t g r s a) (milledShare x y z t g r s a) := by
  have hl := spec_moList_ev x y z t g r s ht hg hr hs
  by_cases h : modelOk x y z t g r = true ∧ rise (x * y * z) (-1) s = true
  · by_cases ha : 0 ≤ a ∧ a ≤ 1000000000
    · refine (ev_and hl <| ev_one (spec_MilledShare_yes x y z t g r s a h.1 h.2 hs ha)).ev fun k ⟨h1, h2⟩ => ?_
      simp only [spec_MilledShare.f, spec_l1In_eq, h1, Option.bind_some]
      rw [if_pos (by simp [h]), show (!decide (0 ≤ a ∧ a ≤ 1000000000)) = false by simp [ha], milledShare, if_pos ⟨h.1, h.2, ha⟩]; exact h2
    · refine (ev_and hl <| ev_one (spec_MilledShare_no x y z t g r s a)).ev fun k ⟨h1, h2⟩ => ?_
      simp only [spec_MilledShare.f, spec_l1In_eq, h1, Option.bind_some]
      rw [if_pos (by simp [h]), show (!decide (0 ≤ a ∧ a ≤ 1000000000)) = true by rw [decide_eq_false ha]; rfl, milledShare, if_neg (fun q => ha q.2.2)]; exact h2
  · refine (ev_and hl <| ev_one (spec_MilledShare_no x y z t g r s a)).ev fun k ⟨h1, h2⟩ => ?_
    simp only [spec_MilledShare.f, h1, Option.bind_some]
    rw [if_neg (by simpa using h), milledShare, if_neg (fun q => h ⟨q.1, q.2.1⟩)]; exact h2
-- needs: spec_MilledShare
theorem impl_MilledShare_no (x y z : Int) (t g r s : List Int) (a : Int) : Ev (fun k => impl_MilledShare.j0 k s a true x y z t g r) (0, 0, false) := Ev.next0 fun k => by simp [impl_MilledShare.j0]
theorem impl_MilledShare_yes (x y z : Int) (t g r s : List Int) (a : Int) (h : modelOk x y z t g r = true) (hs : rise (x * y * z) (-1) s = true) (hn : s.length ≤ 1048576) (ha : 0 ≤ a ∧ a ≤ 1000000000) : Ev (fun k => impl_MilledShare.j0 k s a false x y z t g r) (shareRes a (selM t g s)) := by
  obtain ⟨h1, h2, h3, h4, _⟩ := model_ok h
  have hin : ∀ q ∈ s, 0 ≤ q ∧ q < (t.length : Int) ∧ q < (g.length : Int) := fun q hq => by have := rise_mem hs q hq; omega
  have hb := (sel_bd h3 h4 s hin).2
  have i0 := impl_sumsOf_ev x y z t g r h3 h4 s hn hin
  by_cases hz : selM t g s = 0
  · refine (ev_one i0).next fun k k1 => ?_
    simp only [impl_MilledShare.j0, k1, Bool.false_eq_true, if_false, Option.bind_some]
    rw [if_pos hz, shareRes, if_pos hz]
  · refine (ev_and i0 <| ev_one (impl_lowest_ev a (selM t g s) ha.1 (by omega) (by omega) (by omega))).next fun k ⟨k1, k2⟩ => ?_
    simp only [impl_MilledShare.j0, k1, Bool.false_eq_true, if_false, Option.bind_some]
    rw [if_neg hz, k2, shareRes, if_neg hz]; rfl
theorem impl_MilledShare_ev (x y z : Int) (t g r s : List Int) (a : Int) (ht : t.length ≤ 1048576) (hg : g.length ≤ 1048576) (hr : r.length ≤ 1048576) (hs : s.length ≤ 1048576) : Ev (fun k => impl_MilledShare.f k x y z t g r s a) (milledShare x y z t g r s a) := by
  have hm := impl_IsModel_ev x y z t g r ht hg hr
  have hn := impl_MilledShare_no x y z t g r s a
  by_cases h : modelOk x y z t g r = true
  · have hb := impl_areBlocks_ev (t.length : Int) s (by omega)
    rw [(model_ok h).2.1.1] at hb
    by_cases hs' : rise (x * y * z) (-1) s = true
    · by_cases ha : 0 ≤ a ∧ a ≤ 1000000000
      · refine (ev_and hm <| ev_and hb <| ev_one (impl_MilledShare_yes x y z t g r s a h hs' hs ha)).ev fun k ⟨h1, h2, h3⟩ => ?_
        simp only [impl_MilledShare.f, h1, (model_ok h).2.1.1, h2, Option.bind_some]
        rw [if_pos h, if_pos hs', if_neg (by omega), show decide (a > 1000000000) = false by simp; omega, milledShare, if_pos ⟨h, hs', ha⟩]; exact h3
      · refine (ev_and hm <| ev_and hb <| ev_one hn).ev fun k ⟨h1, h2, h3⟩ => ?_
        simp only [impl_MilledShare.f, h1, (model_ok h).2.1.1, h2, Option.bind_some]
        have e2 : ¬ (modelOk x y z t g r = true ∧ rise (x * y * z) (-1) s = true ∧ (0 ≤ a ∧ a ≤ 1000000000)) := fun q => ha q.2.2
        rw [if_pos h, if_pos hs', milledShare]
        by_cases h4 : a < 0
        · rw [if_pos h4, if_neg e2]; exact h3
        · rw [if_neg h4, show decide (a > 1000000000) = true by simp; omega, if_neg e2]; exact h3
    · refine (ev_and hm <| ev_and hb <| ev_one hn).ev fun k ⟨h1, h2, h3⟩ => ?_
      simp only [impl_MilledShare.f, h1, (model_ok h).2.1.1, h2, Option.bind_some]
      rw [if_pos h, if_neg hs', milledShare, if_neg (fun q => hs' q.2.1)]; exact h3
  · refine (ev_and hm <| ev_one hn).ev fun k ⟨h1, h3⟩ => ?_
    simp only [impl_MilledShare.f, h1, Option.bind_some]
    rw [if_neg h, milledShare, if_neg (fun q => h q.1)]; exact h3
theorem impl_AreBeside_ev (x y z : Int) (t g r : List Int) (x' y' z' : Int) (t' g' r' : List Int) (ht : t.length ≤ 1048576) (hg : g.length ≤ 1048576) (hr : r.length ≤ 1048576) (ht' : t'.length ≤ 1048576) (hg' : g'.length ≤ 1048576) (hr' : r'.length ≤ 1048576) :
    Ev (fun k => impl_AreBeside.f k x y z t g r x' y' z' t' g' r') (if modelOk x y z t g r = true ∧ modelOk x' y' z' t' g' r' = true then ((x == x' && (y == y' && z == z')), true) else (false, false)) :=
  (ev_and (impl_IsModel_ev x y z t g r ht hg hr) <| ev_one (impl_IsModel_ev x' y' z' t' g' r' ht' hg' hr')).ev fun k ⟨h1, h2⟩ => by
    simp only [impl_AreBeside.f, h1, h2, Option.bind_some]
    by_cases h : modelOk x y z t g r = true
    · rw [if_pos h]
      by_cases h' : modelOk x' y' z' t' g' r' = true
      · rw [if_pos h', if_pos ⟨h, h'⟩]
      · rw [if_neg h', if_neg (fun q => h' q.2)]
    · rw [if_neg h, if_neg (fun q => h q.1)]
theorem spec_AreBeside_ev (x y z : Int) (t g r : List Int) (x' y' z' : Int) (t' g' r' : List Int) (ht : t.length ≤ 1048576) (hg : g.length ≤ 1048576) (hr : r.length ≤ 1048576) (ht' : t'.length ≤ 1048576) (hg' : g'.length ≤ 1048576) (hr' : r'.length ≤ 1048576) :
    Ev (fun k => spec_AreBeside.f k x y z t g r x' y' z' t' g' r') (if modelOk x y z t g r = true ∧ modelOk x' y' z' t' g' r' = true then ((x == x' && (y == y' && z == z')), true) else (false, false)) :=
  (ev_and (spec_moGood_ev x y z t g r ht hg hr) <| ev_one (spec_moGood_ev x' y' z' t' g' r' ht' hg' hr')).ev fun k ⟨h1, h2⟩ => by
    simp only [spec_AreBeside.f, h1, h2, Option.bind_some]
    by_cases h : modelOk x y z t g r = true
    · rw [if_pos h]
      by_cases h' : modelOk x' y' z' t' g' r' = true
      · rw [if_pos h', if_pos ⟨h, h'⟩]
      · rw [if_neg h', if_neg (fun q => h' q.2)]
    · rw [if_neg h, if_neg (fun q => h q.1)]
theorem laws_qInts_l0 (l : List Int) (hn : l.length ≤ 4611686018427387904) : ∀ (ys : List Int) (i : Nat), l.drop i = ys → Ev (fun k => laws_qInts.l0 k l l (l.length : Int) i) true
  | [], i, h => Ev.next0 fun k => by
      have h0 := drop_nil h
      simp only [laws_qInts.l0]
      rw [if_neg (by omega)]
  | y :: ys, i, h => by
      obtain ⟨h1, h2, h3⟩ := drop_cons h
      refine Ev.next1 (laws_qInts_l0 l hn ys (i + 1) h3) fun k hk => ?_
      simp only [laws_qInts.l0]
      rw [if_pos (by omega), if_pos (by omega), if_pos (by omega), if_pos (by omega), if_pos trivial, wrap_succ h1 (by omega)]
      exact hk
theorem laws_qInts_ev (l : List Int) (hn : l.length ≤ 4611686018427387904) : Ev (fun k => laws_qInts.f k l l) true :=
  Ev.of1 (laws_qInts_l0 l hn l 0 rfl) fun k hk => by
    simp only [laws_qInts.f]
    rw [if_pos trivial]
    exact hk
theorem laws_qLists_l0 (G : List (List Int)) (hG : ∀ y ∈ G, y.length ≤ 4611686018427387904) (hn : G.length ≤ 4611686018427387904) : ∀ (ys : List (List Int)) (i : Nat), G.drop i = ys → Ev (fun k => laws_qLists.l0 k G G (G.length : Int) i) true
  | [], i, h => Ev.next0 fun k => by
      have h0 := drop_nil h
      simp only [laws_qLists.l0]
      rw [if_neg (by omega)]
  | y :: ys, i, h => by
      obtain ⟨h1, h2, h3⟩ := drop_cons h
      have e : rd_L3 G (i : Int) = y := getD_drop h
      refine Ev.next2 (laws_qLists_l0 G hG hn ys (i + 1) h3) (laws_qInts_ev y (hG y (List.mem_of_getElem? h2))) fun k hk hk' => ?_
      simp only [laws_qLists.l0, e, hk', Option.bind_some]
      rw [if_pos (by omega), if_pos (by omega), if_pos (by omega), if_pos (by omega), if_pos trivial, wrap_succ h1 (by omega)]
      exact hk
theorem laws_qLists_ev (G : List (List Int)) (hG : ∀ y ∈ G, y.length ≤ 4611686018427387904) (hn : G.length ≤ 4611686018427387904) : Ev (fun k => laws_qLists.f k G G) true :=
  Ev.of1 (laws_qLists_l0 G hG hn G 0 rfl) fun k hk => by
    simp only [laws_qLists.f]
    rw [if_pos trivial]
    exact hk
-- needs: model_facts sel_model
def sumsRes (x y z : Int) (t g r : List Int) (I : List Int) : Int × Int × Bool := if modelOk x y z t g r = true ∧ rise (t.length : Int) (-1) I = true then (selT t I, selM t g I, true) else (0, 0, false)
theorem impl_SumsOf_ev (x y z : Int) (t g r : List Int) (ht : t.length ≤ 1048576) (hg : g.length ≤ 1048576) (hr : r.length ≤ 1048576) (I : List Int) (hI : I.length ≤ 1048576) : Ev (fun k => impl_SumsOf.f k x y z t g r I) (sumsRes x y z t g r I) := by
  have h1 := impl_IsModel_ev x y z t g r ht hg hr
  have h2 := impl_areBlocks_ev (t.length : Int) I (by omega)
  unfold sumsRes
  by_cases c : modelOk x y z t g r = true
  · by_cases d : rise (t.length : Int) (-1) I = true
    · rw [if_pos ⟨c, d⟩]
      obtain ⟨_, l, b1, b2, _⟩ := model_ok c
      have h3 := impl_sumsOf_ev x y z t g r b1 b2 I hI (fun q hq => by
        have := rise_mem d q hq
        generalize x * y * z = p at l
        omega)
      refine (ev_and h1 <| ev_and h2 <| ev_one h3).ev fun k ⟨e1, e2, e3⟩ => ?_
      simp only [impl_SumsOf.f, e1, e2, e3, Option.bind_some]
      rw [if_pos c, if_pos d]
    · rw [if_neg (fun q => d q.2)]
      refine (ev_and h1 <| ev_one h2).ev fun k ⟨e1, e2⟩ => ?_
      simp only [impl_SumsOf.f, e1, e2, Option.bind_some]
      rw [if_pos c, if_neg d]
  · rw [if_neg (fun q => c q.1)]
    refine Ev.of1 h1 fun k e1 => ?_
    simp only [impl_SumsOf.f, e1, Option.bind_some]
    rw [if_neg c]
-- needs: worst_model
theorem laws_qAbs_eq (v : Int) (h : -1000000000 ≤ v ∧ v ≤ 1000000000) : laws_qAbs.f v = some (ab v) := by
  simp only [laws_qAbs.f, ab]
  by_cases c : v < 0
  · rw [if_pos c, wrap_id (by omega) (by omega), show max v (-v) = -v by omega]
  · rw [if_neg c, show max v (-v) = v by omega]
-- needs: model_facts
def scaled (p q : Int) (g : List Int) : List Int := g.map fun v => min 1000 (v * p / q)
abbrev ModelR := Int × Int × Int × List Int × List Int × List Int × Bool
-- needs: model_facts scale_model
def mixAt (c : Int) (g g' : List Int) (i : Nat) : Int := (c * rd g (i : Int) + (10 - c) * rd g' (i : Int)) / 10
def mixed (c : Int) (g g' : List Int) : List Int := (List.range g.length).map fun i => mixAt c g g' i
-- needs: model_facts wrong_model scale_model mix_model spec_rcKind sel_model
/-! What the law on sorted models says of tables, scaled and mixed grades. -/
/-- All indices of a list. -/
def allIx (n : Nat) : List Int := (List.range n).map fun (i : Nat) => (i : Int)
theorem selT_map (t : List Int) : ∀ I : List Int, selT t I = (I.map fun q => rd t q).sum
  | [] => rfl
  | q :: qs => by simp only [selT, List.map_cons, List.sum_cons, selT_map t qs]
theorem selM_map (t g : List Int) : ∀ I : List Int, selM t g I = (I.map fun q => rd t q * rd g q).sum
  | [] => rfl
  | q :: qs => by simp only [selM, List.map_cons, List.sum_cons, selM_map t g qs]
theorem allIx_in (n : Nat) : ∀ q ∈ allIx n, 0 ≤ q ∧ q < (n : Int) := by
  intro q hq
  simp only [allIx, List.mem_map, List.mem_range] at hq
  obtain ⟨i, hi, rfl⟩ := hq
  omega
theorem allIx_length (n : Nat) : (allIx n).length = n := by simp [allIx]
-- needs: gap_model level_gaps worst_model factor_of spec_MilledShare sorted_props
/-! What the law on reconciled models says of shares, gaps and the worst level. -/
theorem low_cross {a b : Int} (ha : 0 ≤ a) (hb : 0 < b) : (low a b).1 * b = a * (low a b).2 := by
  have p := low_bd ha hb
  generalize (Nat.gcd a.natAbs b.natAbs : Int) = g at p
  generalize (low a b).1 = A at *
  generalize (low a b).2 = B at *
  have e1 : a = A * g := p.2.2.2.2.2.1
  have e2 : b = B * g := p.2.2.2.2.2.2
  rw [e1, e2]; ac_rfl
def sumT (f : Nat → Int) : Nat → Int
  | 0 => 0
  | n + 1 => sumT f n + f n
theorem sumT_range (f : Nat → Int) : ∀ n, ((List.range n).map f).sum = sumT f n
  | 0 => rfl
  | n + 1 => by rw [List.range_succ, List.map_append, List.sum_append, sumT_range f n]; simp [sumT]
theorem sumT_plus (f : Nat → Int) (m : Nat) : ∀ n, sumT f (m + n) = sumT f m + sumT (fun j => f (m + j)) n
  | 0 => by simp [sumT]
  | n + 1 => by
    have e : m + (n + 1) = (m + n) + 1 := by omega
    rw [e]; simp only [sumT]; rw [sumT_plus f m n]; omega
theorem sumT_blocks (f : Nat → Int) (n : Nat) : ∀ Z, sumT (fun i => sumT (fun j => f (i * n + j)) n) Z = sumT f (Z * n)
  | 0 => by simp [sumT]
  | Z + 1 => by
    rw [Nat.succ_mul, sumT_plus f (Z * n) n]; simp only [sumT]; rw [sumT_blocks f n Z]
theorem sumT_sub (f g : Nat → Int) : ∀ n, sumT (fun i => f i - g i) n = sumT f n - sumT g n
  | 0 => rfl
  | n + 1 => by simp only [sumT]; rw [sumT_sub f g n]; omega
theorem sumT_congr {f g : Nat → Int} : ∀ n, (∀ c, c < n → f c = g c) → sumT f n = sumT g n
  | 0, _ => rfl
  | n + 1, h => by simp only [sumT]; rw [sumT_congr n (fun c hc => h c (by omega)), h n (by omega)]
theorem lvT_sum {x y : Int} {t : List Int} {n i : Nat} (hn : (n : Int) = x * y) : lvT x y t n i = sumT (fun j => rd t ((i * n + j : Nat) : Int)) n := by
  unfold lvT lv
  rw [selT_map, List.map_map, sumT_range]
  refine sumT_congr n fun j _ => ?_
  show rd t ((i : Int) * x * y + (j : Int)) = _
  rw [Int.mul_assoc, ← hn]
  congr 1
theorem lvM_sum {x y : Int} {t g : List Int} {n i : Nat} (hn : (n : Int) = x * y) : lvM x y t g n i = sumT (fun j => rd t ((i * n + j : Nat) : Int) * rd g ((i * n + j : Nat) : Int)) n := by
  unfold lvM lv
  rw [selM_map, List.map_map, sumT_range]
  refine sumT_congr n fun j _ => ?_
  show rd t ((i : Int) * x * y + (j : Int)) * rd g ((i : Int) * x * y + (j : Int)) = _
  rw [Int.mul_assoc, ← hn]
  have e : (i : Int) * (n : Int) + (j : Int) = ((i * n + j : Nat) : Int) := by push_cast; rfl
  rw [e]
theorem selT_allIx (t : List Int) (N : Nat) : selT t (allIx N) = sumT (fun j => rd t (j : Int)) N := by
  unfold allIx
  rw [selT_map, List.map_map, sumT_range]; rfl
theorem selM_allIx (t g : List Int) (N : Nat) : selM t g (allIx N) = sumT (fun j => rd t (j : Int) * rd g (j : Int)) N := by
  unfold allIx
  rw [selM_map, List.map_map, sumT_range]; rfl
theorem levels_T {x y : Int} {t : List Int} {n Z : Nat} (hn : (n : Int) = x * y) : sumT (fun i => lvT x y t n i) Z = selT t (allIx (Z * n)) := by
  rw [selT_allIx, ← sumT_blocks]
  exact sumT_congr Z fun i _ => lvT_sum hn
theorem levels_M {x y : Int} {t g : List Int} {n Z : Nat} (hn : (n : Int) = x * y) : sumT (fun i => lvM x y t g n i) Z = selM t g (allIx (Z * n)) := by
  rw [selM_allIx, ← sumT_blocks (fun j => rd t (j : Int) * rd g (j : Int))]
  exact sumT_congr Z fun i _ => lvM_sum hn
/-- The worst level: none has a greater gap. -/
theorem worst_best (G : List (List Int)) : ∀ (m i b : Nat), b < i ∨ b = i → 
    (worst G m i b = b ∨ (i ≤ worst G m i b ∧ worst G m i b < i + m)) ∧ ab (rd (rd_L3 G (b : Int)) 1) ≤ ab (rd (rd_L3 G ((worst G m i b : Nat) : Int)) 1) ∧ ∀ q : Nat, i ≤ q → q < i + m → ab (rd (rd_L3 G (q : Int)) 1) ≤ ab (rd (rd_L3 G ((worst G m i b : Nat) : Int)) 1)
  | 0, i, b, _ => ⟨.inl rfl, Int.le_refl _, fun q h0 h1 => by omega⟩
  | m + 1, i, b, hb => by
    simp only [worst]
    by_cases c : ab (rd (rd_L3 G (i : Int)) 1) > ab (rd (rd_L3 G (b : Int)) 1)
    · rw [if_pos c]
      obtain ⟨h1, h2, h3⟩ := worst_best G m (i + 1) i (by omega)
      refine ⟨.inr (by rcases h1 with h | h <;> omega), by omega, fun q q0 q1 => ?_⟩
      by_cases e : q = i
      · subst e; exact h2
      · exact h3 q (by omega) (by omega)
    · rw [if_neg c]
      obtain ⟨h1, h2, h3⟩ := worst_best G m (i + 1) b (by omega)
      refine ⟨by rcases h1 with h | h <;> omega, h2, fun q q0 q1 => ?_⟩
      by_cases e : q = i
      · subst e; omega
      · exact h3 q (by omega) (by omega)
theorem wf_u8 {n : Int} (h : (Lit.int .u8 n).wf = true) : 0 ≤ n ∧ n ≤ 255 := by
  simp [Lit.wf, IntKind.min, IntKind.max, IntKind.signed, IntKind.bits] at h
  omega
-- needs: sorted_props impl_SumsOf
theorem rise_from (m : Int) : ∀ (n : Nat) (i : Nat) (p : Int), p < (i : Int) → ((i + n : Nat) : Int) ≤ m → rise m p ((List.range' i n).map fun (j : Nat) => (j : Int)) = true
  | 0, i, p, _, _ => by simp [rise]
  | n + 1, i, p, h, h2 => by
    simp only [List.range'_succ, List.map_cons, rise, Bool.and_eq_true, decide_eq_true_eq]
    exact ⟨by push_cast at h2; omega, rise_from m n (i + 1) (i : Int) (by omega) (by push_cast at h2 ⊢; omega)⟩
theorem rise_all (n : Nat) : rise (n : Int) (-1) (allIx n) = true := by
  unfold allIx
  rw [List.range_eq_range']
  exact rise_from (n : Int) n 0 (-1) (by omega) (by omega)
theorem allIx_succ (n : Nat) : allIx (n + 1) = allIx n ++ [(n : Int)] := by simp [allIx, List.range_succ]
-- needs: recon_props laws_big all_sums laws_qAbs
theorem sumT_bd {f : Nat → Int} {lo hi : Int} : ∀ n, (∀ c, c < n → lo ≤ f c ∧ f c ≤ hi) → lo * (n : Int) ≤ sumT f n ∧ sumT f n ≤ hi * (n : Int)
  | 0, _ => by simp [sumT]
  | n + 1, h => by
    have ih := sumT_bd n (fun c hc => h c (by omega))
    have hn := h n (by omega)
    simp only [sumT]
    push_cast
    rw [Int.mul_add, Int.mul_add]
    omega
section
variable (x y z : Int) (t g r : List Int) (x' y' z' : Int) (t' g' r' : List Int)
theorem laws_l1 (h : modelOk x y z t g r = true ∧ modelOk x' y' z' t' g' r' = true ∧ x = x' ∧ y = y' ∧ z = z') (n Z : Nat) (hn : (n : Int) = x * y) (hz : (Z : Int) = z) (hZ : Z ≤ 5) (w : Nat) (hw : w < Z)
    (hb : ∀ q : Nat, q < Z → ab (rd (rd_L3 (gapsTo x y t g t' g' n Z) (q : Int)) 1) ≤ ab (rd (rd_L3 (gapsTo x y t g t' g' n Z) (w : Int)) 1)) (T U V X : Int)
    (hT : sumT (fun i => lvT x y t' n i - lvT x y t n i) Z = wrap64 (V - T)) (hM : sumT (fun i => lvM x y t' g' n i - lvM x y t g n i) Z = wrap64 (X - U)) : ∀ (d i : Nat), i + d = Z →
    Ev (fun k => laws_FnReconciled.l1 k (gapsTo x y t g t' g' n Z) (w : Int) T U true V X true (sumT (fun i => lvT x y t' n i - lvT x y t n i) i) (sumT (fun i => lvM x y t' g' n i - lvM x y t g n i) i) (gapsTo x y t g t' g' n Z) ((gapsTo x y t g t' g' n Z).length : Int) (i : Int) x y z t g r) true
  | 0, i, hi => Ev.next0 fun k => by
    obtain rfl : i = Z := by omega
    simp only [laws_FnReconciled.l1]
    rw [gapsTo_length, if_neg (by omega), if_pos trivial, if_pos trivial, if_pos hT, if_pos hM, hz, beq_self_eq_true]
  | d + 1, i, hi => by
    have gt := gaps_two h n Z hn hz
    have gl := gapsTo_length x y t g t' g' n Z
    have gi := gt i (by omega)
    have gw := gt w (by omega)
    have ge := gapsTo_get (x := x) (y := y) (t := t) (g := g) (t' := t') (g' := g') (n := n) (Z := Z) (i := i) (by omega)
    have bi := hb i (by omega)
    have lb : ∀ j, j < Z → (-480000 ≤ lvT x y t' n j - lvT x y t n j ∧ lvT x y t' n j - lvT x y t n j ≤ 480000) ∧ (-480000000 ≤ lvM x y t' g' n j - lvM x y t g n j ∧ lvM x y t' g' n j - lvM x y t g n j ≤ 480000000) := fun j hj => by
      have q1 := level_in h.1 hn (i := j) (by omega)
      have q2 := level_in h.2.1 (n := n) (i := j) (by rw [hn, h.2.2.1, h.2.2.2.1]) (by omega)
      rw [← h.2.2.1, ← h.2.2.2.1] at q2
      omega
    have s1 := sumT_bd (f := fun i => lvT x y t' n i - lvT x y t n i) (lo := -480000) (hi := 480000) i (fun c hc => (lb c (by omega)).1)
    have s2 := sumT_bd (f := fun i => lvM x y t' g' n i - lvM x y t g n i) (lo := -480000000) (hi := 480000000) i (fun c hc => (lb c (by omega)).2)
    have li := lb i (by omega)
    have e0 : rd (rd_L3 (gapsTo x y t g t' g' n Z) (i : Int)) 0 = lvT x y t' n i - lvT x y t n i := by rw [ge]; rfl
    have e1 : rd (rd_L3 (gapsTo x y t g t' g' n Z) (i : Int)) 1 = lvM x y t' g' n i - lvM x y t g n i := by rw [ge]; rfl
    refine Ev.next1 (laws_l1 h n Z hn hz hZ w hw hb T U V X hT hM d (i + 1) (by omega)) fun k hk => ?_
    simp only [laws_FnReconciled.l1]
    rw [laws_qAbs_eq _ gi.2, Option.bind_some, laws_qAbs_eq _ gw.2, Option.bind_some, if_pos (by omega), if_pos (by omega), if_pos (by omega), if_pos (by omega), if_pos (by omega), if_pos (by omega), if_pos (by omega), if_pos (by omega), if_neg (by omega), e0, e1, wrap_succ (n := Z) (by omega) (by omega), wrap_id (by omega) (by omega), wrap_id (by omega) (by omega)]
    exact hk
theorem laws_l0 (G : List (List Int)) (w : Int) (hn : t.length ≤ 1048576) (Q : Ev (fun k => laws_FnReconciled.l0 k G w (allIx t.length) (t.length : Int) (t.length : Int) x y z t g r x' y' z' t' g' r') true) :
    ∀ (d i : Nat), i + d = t.length → Ev (fun k => laws_FnReconciled.l0 k G w (allIx i) (t.length : Int) (i : Int) x y z t g r x' y' z' t' g' r') true
  | 0, i, h => by obtain rfl : i = t.length := by omega
                  exact Q
  | d + 1, i, h => by
    refine Ev.next1 (laws_l0 G w hn Q d (i + 1) (by omega)) fun k hk => ?_
    simp only [laws_FnReconciled.l0]
    rw [if_pos (by omega), if_pos (by rw [allIx_length]; omega), wrap_succ (n := t.length) (by omega) (by omega), ← allIx_succ]
    exact hk
theorem laws_j3 (ht : t.length ≤ 1048576) (hg : g.length ≤ 1048576) (hr : r.length ≤ 1048576) (ht' : t'.length ≤ 1048576) (hg' : g'.length ≤ 1048576) (hr' : r'.length ≤ 1048576) :
    Ev (fun k => laws_FnReconciled.j3 k (levelGaps x y z t g r x' y' z' t' g' r').2 (levelGaps x y z t g r x' y' z' t' g' r').1 (worstLevel x y z t g r x' y' z' t' g' r').1 x y z t g r x' y' z' t' g' r') true := by
  unfold levelGaps worstLevel
  by_cases h : modelOk x y z t g r = true ∧ modelOk x' y' z' t' g' r' = true ∧ x = x' ∧ y = y' ∧ z = z'
  · rw [if_pos h, if_pos h]
    obtain ⟨gb, l1, a1, a2, _⟩ := model_ok h.1
    obtain ⟨_, l2, b1, b2, _⟩ := model_ok h.2.1
    have gb := grid_ok gb
    have hn : (((x * y).toNat : Nat) : Int) = x * y := by omega
    have hz : ((z.toNat : Nat) : Int) = z := by omega
    generalize (x * y).toNat = n at hn ⊢
    generalize z.toNat = Z at hz ⊢
    have tl : t.length = Z * n := by
      have : (t.length : Int) = ((Z * n : Nat) : Int) := by push_cast; rw [hn, hz, l1.1, Int.mul_comm]
      omega
    have tl' : t'.length = t.length := by rw [← h.2.2.1, ← h.2.2.2.1, ← h.2.2.2.2] at l2; have := l1.1; have := l2.1; omega
    have gl : g.length = t.length := by have := l1.1; have := l1.2.1; omega
    have gl' : g'.length = t'.length := by have := l2.1; have := l2.2.1; omega
    have tb : t.length ≤ 120 := by have := l1.1; omega
    obtain ⟨w1, _, w3⟩ := worst_best (gapsTo x y t g t' g' n Z) Z 0 0 (.inr rfl)
    have wl : worst (gapsTo x y t g t' g' n Z) Z 0 0 < Z := by omega
    generalize worst (gapsTo x y t g t' g' n Z) Z 0 0 = w at w1 w3 wl ⊢
    have S1 := impl_SumsOf_ev x y z t g r ht hg hr (allIx t.length) (by rw [allIx_length]; exact ht)
    have S2 := impl_SumsOf_ev x' y' z' t' g' r' ht' hg' hr' (allIx t.length) (by rw [allIx_length]; exact ht)
    rw [sumsRes, if_pos ⟨h.1, rise_all _⟩] at S1
    rw [sumsRes, if_pos ⟨h.2.1, by rw [tl']; exact rise_all _⟩] at S2
    have c1 := sel_bd a1 a2 (allIx t.length) (fun q hq => by have := allIx_in _ q hq; omega)
    have c2 := sel_bd b1 b2 (allIx t.length) (fun q hq => by have := allIx_in _ q hq; omega)
    rw [allIx_length] at c1 c2
    have hT : sumT (fun i => lvT x y t' n i - lvT x y t n i) Z = wrap64 (selT t' (allIx t.length) - selT t (allIx t.length)) := by
      rw [sumT_sub, levels_T hn, levels_T hn, ← tl, wrap_id (by omega) (by omega)]
    have hM : sumT (fun i => lvM x y t' g' n i - lvM x y t g n i) Z = wrap64 (selM t' g' (allIx t.length) - selM t g (allIx t.length)) := by
      rw [sumT_sub, levels_M hn, levels_M hn, ← tl, wrap_id (by omega) (by omega)]
    have L1 := laws_l1 x y z t g r x' y' z' t' g' r' h n Z hn hz (by omega) w wl (fun q hq => w3 q (by omega) (by omega)) _ _ _ _ hT hM Z 0 (by omega)
    have Q : Ev (fun k => laws_FnReconciled.l0 k (gapsTo x y t g t' g' n Z) (w : Int) (allIx t.length) (t.length : Int) (t.length : Int) x y z t g r x' y' z' t' g' r') true := by
      refine (ev_and S1 <| ev_and S2 <| ev_one L1).next fun k ⟨h1, h2, h3⟩ => ?_
      simp only [laws_FnReconciled.l0, h1, h2, Option.bind_some]
      rw [if_neg (by omega)]
      exact h3
    refine Ev.next1 (laws_l0 x y z t g r x' y' z' t' g' r' _ _ ht Q t.length 0 (by omega)) fun k hk => ?_
    simp only [laws_FnReconciled.j3]
    rw [if_pos trivial]
    exact hk
  · rw [if_neg h, if_neg h]
    exact Ev.next0 fun k => by
      simp only [laws_FnReconciled.j3]
      rw [if_neg (by simp)]
theorem sums_rise {x y z : Int} {t g r : List Int} (h : modelOk x y z t g r = true) {s : List Int} (hs : rise (x * y * z) (-1) s = true) : sumsRes x y z t g r s = (selT t s, selM t g s, true) := by
  obtain ⟨_, l, _⟩ := model_ok h
  rw [sumsRes, if_pos ⟨h, by rw [l.1]; exact hs⟩]
theorem ratio_cross {a b : Int} (ha : 0 ≤ a) (hb : 0 ≤ b) (h : (ratio a b).2.2 = true) : (ratio a b).1 * b = a * (ratio a b).2.1 := by
  unfold ratio at h ⊢
  by_cases c : b = 0
  · rw [if_pos c] at h; cases h
  · rw [if_neg c]; exact low_cross ha (by omega)
theorem laws_j2 (s : List Int) (c : Int) (one : Bool) (G : List (List Int)) (w : Int) (Q : Ev (fun k => laws_FnReconciled.j3 k one G w x y z t g r x' y' z' t' g' r') true) (hs : s.length ≤ 1048576) (ht : t.length ≤ 1048576) (hg : g.length ≤ 1048576) (hr : r.length ≤ 1048576) (ht' : t'.length ≤ 1048576) (hg' : g'.length ≤ 1048576) (hr' : r'.length ≤ 1048576)
    (b : Bool) (hb : b = true → (factorOf x y z t g r x' y' z' t' g' r' s c).2.2 = true ∧ c < 2) :
    Ev (fun k => laws_FnReconciled.j2 k s c (factorOf x y z t g r x' y' z' t' g' r' s c).1 (factorOf x y z t g r x' y' z' t' g' r' s c).2.1 one G w b x y z t g r x' y' z' t' g' r') true := by
  by_cases hb' : b = true
  · obtain ⟨q1, q2⟩ := hb hb'
    unfold factorOf at q1 ⊢
    by_cases h : (modelOk x y z t g r = true ∧ modelOk x' y' z' t' g' r' = true ∧ x = x' ∧ y = y' ∧ z = z') ∧ rise (x * y * z) (-1) s = true ∧ (0 ≤ c ∧ c ≤ 2)
    · rw [if_pos h] at q1 ⊢
      have S1 := impl_SumsOf_ev x y z t g r ht hg hr s hs
      have S2 := impl_SumsOf_ev x' y' z' t' g' r' ht' hg' hr' s hs
      rw [sums_rise h.1.1 h.2.1] at S1
      rw [sums_rise h.1.2.1 (by rw [← h.1.2.2.1, ← h.1.2.2.2.1, ← h.1.2.2.2.2]; exact h.2.1)] at S2
      obtain ⟨_, l1, a1, a2, _⟩ := model_ok h.1.1
      obtain ⟨_, l2, b1, b2, _⟩ := model_ok h.1.2.1
      have c1 := sel_bd a1 a2 s (fun q hq => by have := rise_mem h.2.1 q hq; rw [l1.1, l1.2.1]; omega)
      have c2 := sel_bd b1 b2 s (fun q hq => by have := rise_mem h.2.1 q hq; rw [l2.1, l2.2.1, ← h.1.2.2.1, ← h.1.2.2.2.1, ← h.1.2.2.2.2]; omega)
      refine (ev_and S1 <| ev_and S2 <| ev_one Q).next fun k ⟨h1, h2, h3⟩ => ?_
      simp only [laws_FnReconciled.j2, h1, h2, Option.bind_some]
      rw [if_pos hb', if_pos trivial, if_pos trivial]
      by_cases k0 : c = 0
      · have hf : factor c (selT t s) (selM t g s) (selT t' s) (selM t' g' s) = ratio (selT t' s) (selT t s) := by rw [factor, if_pos k0]
        rw [hf] at q1 ⊢
        rw [if_pos k0, ratio_cross c2.1.1 c1.1.1 q1, if_pos rfl, if_neg (by omega)]
        exact h3
      · have k1 : c = 1 := by omega
        have hf : factor c (selT t s) (selM t g s) (selT t' s) (selM t' g' s) = ratio (selM t' g' s) (selM t g s) := by rw [factor, if_neg k0, if_pos k1]
        rw [hf] at q1 ⊢
        rw [if_neg k0, if_pos k1, ratio_cross c2.2.1 c1.2.1 q1, if_pos rfl]
        exact h3
    · rw [if_neg h] at q1; cases q1
  · refine Ev.next1 Q fun k hk => ?_
    simp only [laws_FnReconciled.j2]
    rw [if_neg hb']
    exact hk
theorem laws_j1 (s : List Int) (c : Int) (one : Bool) (G : List (List Int)) (w : Int) (Q : Ev (fun k => laws_FnReconciled.j3 k one G w x y z t g r x' y' z' t' g' r') true) (hs : s.length ≤ 1048576) (ht : t.length ≤ 1048576) (hg : g.length ≤ 1048576) (hr : r.length ≤ 1048576) (ht' : t'.length ≤ 1048576) (hg' : g'.length ≤ 1048576) (hr' : r'.length ≤ 1048576) :
    Ev (fun k => laws_FnReconciled.j1 k s c (factorOf x y z t g r x' y' z' t' g' r' s c).2.2 (factorOf x y z t g r x' y' z' t' g' r' s c).1 (factorOf x y z t g r x' y' z' t' g' r' s c).2.1 one G w x y z t g r x' y' z' t' g' r') true := by
  by_cases h : (factorOf x y z t g r x' y' z' t' g' r' s c).2.2 = true
  · refine Ev.next1 (laws_j2 x y z t g r x' y' z' t' g' r' s c one G w Q hs ht hg hr ht' hg' hr' (decide (c < 2)) (fun q => ⟨h, by simpa using q⟩)) fun k hk => ?_
    simp only [laws_FnReconciled.j1]
    rw [if_pos h]
    exact hk
  · refine Ev.next1 (laws_j2 x y z t g r x' y' z' t' g' r' s c one G w Q hs ht hg hr ht' hg' hr' false (fun q => by cases q)) fun k hk => ?_
    simp only [laws_FnReconciled.j1]
    rw [if_neg h]
    exact hk
variable (ux uy uz : Int) (ut ug ur us : List Int) (a : Int)
theorem laws_j0 (s : List Int) (c : Int) (ok : Bool) (top bottom : Int) (one : Bool) (G : List (List Int)) (w : Int) (Q : Ev (fun k => laws_FnReconciled.j1 k s c ok top bottom one G w x y z t g r x' y' z' t' g' r') true) (hs : us.length ≤ 1048576) (ht : ut.length ≤ 1048576) (hg : ug.length ≤ 1048576) (hr : ur.length ≤ 1048576) :
    Ev (fun k => laws_FnReconciled.j0 k s c ok top bottom one G w us a (milledShare ux uy uz ut ug ur us a).2.2 (milledShare ux uy uz ut ug ur us a).1 (milledShare ux uy uz ut ug ur us a).2.1 false x y z t g r x' y' z' t' g' r' ux uy uz ut ug ur) true := by
  have no : Ev (fun k => laws_FnReconciled.j0 k s c ok top bottom one G w us a false 0 0 false x y z t g r x' y' z' t' g' r' ux uy uz ut ug ur) true := Ev.next1 Q fun k hk => by
    simp only [laws_FnReconciled.j0]
    rw [if_neg (by simp), if_neg (by simp)]
    exact hk
  unfold milledShare
  by_cases h : modelOk ux uy uz ut ug ur = true ∧ rise (ux * uy * uz) (-1) us = true ∧ (0 ≤ a ∧ a ≤ 1000000000)
  · rw [if_pos h, shareRes]
    by_cases m0 : selM ut ug us = 0
    · rw [if_pos m0]; exact no
    · rw [if_neg m0]
      have S1 := impl_SumsOf_ev ux uy uz ut ug ur ht hg hr us hs
      rw [sums_rise h.1 h.2.1] at S1
      obtain ⟨_, l1, a1, a2, _⟩ := model_ok h.1
      have c1 := sel_bd a1 a2 us (fun q hq => by have := rise_mem h.2.1 q hq; rw [l1.1, l1.2.1]; omega)
      refine (ev_and S1 <| ev_one Q).next fun k ⟨h1, h3⟩ => ?_
      simp only [laws_FnReconciled.j0, h1, Option.bind_some]
      rw [if_neg (by simp), if_pos trivial, if_pos trivial, low_cross h.2.2.1 (by omega), if_pos rfl]
      exact h3
  · rw [if_neg h]; exact no
end
theorem gaps_beside (x y z : Int) (t g r : List Int) (x' y' z' : Int) (t' g' r' : List Int) : (worstLevel x y z t g r x' y' z' t' g' r').2 = (levelGaps x y z t g r x' y' z' t' g' r').2 ∧
    ∀ B : Bool × Bool, B = (if modelOk x y z t g r = true ∧ modelOk x' y' z' t' g' r' = true then ((x == x' && (y == y' && z == z')), true) else (false, false)) → (levelGaps x y z t g r x' y' z' t' g' r').2 = (if B.2 = true then B.1 else false) := by
  unfold worstLevel levelGaps
  by_cases h : modelOk x y z t g r = true ∧ modelOk x' y' z' t' g' r' = true ∧ x = x' ∧ y = y' ∧ z = z'
  · rw [if_pos h, if_pos h]
    refine ⟨rfl, fun B e => ?_⟩
    rw [if_pos ⟨h.1, h.2.1⟩] at e
    rw [e, if_pos rfl]
    simp [h.2.2]
  · rw [if_neg h, if_neg h]
    refine ⟨rfl, fun B e => ?_⟩
    by_cases m : modelOk x y z t g r = true ∧ modelOk x' y' z' t' g' r' = true
    · rw [if_pos m] at e
      rw [e, if_pos rfl]
      by_cases q : (x == x' && (y == y' && z == z')) = true
      · simp at q; exact absurd ⟨m.1, m.2, q⟩ h
      · exact (Bool.of_not_eq_true q).symm
    · rw [if_neg m] at e
      rw [e, if_neg (by simp)]
theorem gaps_len (x y z : Int) (t g r : List Int) (x' y' z' : Int) (t' g' r' : List Int) : (levelGaps x y z t g r x' y' z' t' g' r').1.length ≤ 1048576 ∧ ∀ G ∈ (levelGaps x y z t g r x' y' z' t' g' r').1, G.length ≤ 1048576 := by
  unfold levelGaps
  by_cases h : modelOk x y z t g r = true ∧ modelOk x' y' z' t' g' r' = true ∧ x = x' ∧ y = y' ∧ z = z'
  · rw [if_pos h]
    have gb := grid_ok (model_ok h.1).1
    refine ⟨by rw [gapsTo_length]; omega, fun G hG => ?_⟩
    simp only [gapsTo, List.mem_map] at hG
    obtain ⟨i, _, rfl⟩ := hG
    simp
  · rw [if_neg h]; simp
theorem FnReconciled : Stat.FnReconciled := by
  intro l0 l1 h0 h1
  refine Ev.rounds ?_
  by_cases hb : wrap64 ((l0.length : Int) + (l1.length : Int)) > 1048576
  · refine Ev.all fun k => ?_
    simp only [laws_FnReconciled.f]
    rw [if_pos hb]
  have H0 : ∀ x ∈ l0, 0 ≤ x ∧ x ≤ 255 := fun x hx => wf_u8 (h0.2 x hx)
  have H1 : ∀ x ∈ l1, 0 ≤ x ∧ x ≤ 255 := fun x hx => wf_u8 (h1.2 x hx)
  obtain ⟨x, y, z, t, g, r, x', y', z', t', g', r', s, c, d1, m1, m2, m3⟩ := spec_DrawFactorOf_some l0 H0 h0.1
  obtain ⟨ux, uy, uz, ut, ug, ur, us, a, d2, m4, m5⟩ := spec_DrawMilledShare_some l1 H1 h1.1
  have F1 := impl_FactorOf_ev x y z t g r x' y' z' t' g' r' (by omega) (by omega) (by omega) (by omega) (by omega) (by omega) s (by omega) c
  have F2 := spec_FactorOf_ev x y z t g r x' y' z' t' g' r' (by omega) (by omega) (by omega) (by omega) (by omega) (by omega) s (by omega) c
  have G1 := impl_LevelGaps_ev x y z t g r x' y' z' t' g' r' (by omega) (by omega) (by omega) (by omega) (by omega) (by omega)
  have G2 := spec_LevelGaps_ev x y z t g r x' y' z' t' g' r' (by omega) (by omega) (by omega) (by omega) (by omega) (by omega)
  have W1 := impl_WorstLevel_ev x y z t g r x' y' z' t' g' r' (by omega) (by omega) (by omega) (by omega) (by omega) (by omega)
  have W2 := spec_WorstLevel_ev x y z t g r x' y' z' t' g' r' (by omega) (by omega) (by omega) (by omega) (by omega) (by omega)
  have S1 := impl_MilledShare_ev ux uy uz ut ug ur us a (by omega) (by omega) (by omega) (by omega)
  have S2 := spec_MilledShare_ev ux uy uz ut ug ur us a (by omega) (by omega) (by omega) (by omega)
  have B1 := impl_AreBeside_ev x y z t g r x' y' z' t' g' r' (by omega) (by omega) (by omega) (by omega) (by omega) (by omega)
  have B2 := spec_AreBeside_ev x y z t g r x' y' z' t' g' r' (by omega) (by omega) (by omega) (by omega) (by omega) (by omega)
  have J3 := laws_j3 x y z t g r x' y' z' t' g' r' (by omega) (by omega) (by omega) (by omega) (by omega) (by omega)
  have J1 := laws_j1 x y z t g r x' y' z' t' g' r' s c _ _ _ J3 (by omega) (by omega) (by omega) (by omega) (by omega) (by omega) (by omega)
  have J0 := laws_j0 x y z t g r x' y' z' t' g' r' ux uy uz ut ug ur us a s c _ _ _ _ _ _ J1 (by omega) (by omega) (by omega) (by omega)
  obtain ⟨gw, gb⟩ := gaps_beside x y z t g r x' y' z' t' g' r'
  obtain ⟨gl, gm⟩ := gaps_len x y z t g r x' y' z' t' g' r'
  have gb := gb _ rfl
  generalize hB : (if modelOk x y z t g r = true ∧ modelOk x' y' z' t' g' r' = true then ((x == x' && (y == y' && z == z')), true) else (false, false)) = B at *
  generalize hF : factorOf x y z t g r x' y' z' t' g' r' s c = F at *
  generalize hG : levelGaps x y z t g r x' y' z' t' g' r' = G at *
  generalize hW : worstLevel x y z t g r x' y' z' t' g' r' = W at *
  generalize hS : milledShare ux uy uz ut ug ur us a = S at *
  refine (ev_and d1 <| ev_and d2 <| ev_and F1 <| ev_and F2 <| ev_and G1 <| ev_and G2 <| ev_and W1 <| ev_and W2 <| ev_and S1 <| ev_and S2 <| ev_and B1 <| ev_and B2 <| ev_and (laws_qLists_ev G.1 (fun q hq => by have := gm q hq; omega) (by omega)) <| ev_one J0).ev fun k ⟨e1, e2, e3, e4, e5, e6, e7, e8, e9, e10, e11, e12, e13, e14⟩ => ?_
  simp only [laws_FnReconciled.f, e1, e2, e3, e4, e5, e6, e7, e8, e9, e10, e11, e12, e13, Option.bind_some]
  rw [if_neg hb, if_neg (by simp), if_pos trivial, if_pos trivial, if_neg (by simp), if_pos trivial, if_neg (by simp), if_pos trivial, if_neg (by simp), if_pos trivial, if_pos trivial, if_neg (by simp), if_neg (by simp), gw, bne_self_eq_false]
  by_cases b2 : B.2 = true
  · rw [if_pos b2] at gb ⊢
    rw [gb, bne_self_eq_false, if_neg (by simp)]
    rw [gb] at e14
    exact e14
  · rw [if_neg b2] at gb ⊢
    rw [gb, bne_self_eq_false, if_neg (by simp)]
    rw [gb] at e14
    exact e14
end Go.Proofs.Ytfakhgopbhnocaa.PureFnReconciled
namespace Go.Proofs.Ytfakhgopbhnocaa.Pure
theorem FnReconciled : Stat.FnReconciled := PureFnReconciled.FnReconciled
end Go.Proofs.Ytfakhgopbhnocaa.Pure
