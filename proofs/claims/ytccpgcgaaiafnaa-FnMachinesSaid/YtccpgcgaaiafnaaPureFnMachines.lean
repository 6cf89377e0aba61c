/- The law FnMachines over numbers and lists: it is true of every input. -/
import Derived.Test.YtccpgcgaaiafnaaStatFnMachines
import Derived.Test.YtccpgcgaaiafnaaWMore
set_option linter.unusedVariables false
set_option linter.unusedSimpArgs false
namespace Go.Proofs.Ytccpgcgaaiafnaa.Kit
open Go.RowKit Go.Proofs.YtccpgcgaaiafnaaW.PrintWords Go.Proofs.YtccpgcgaaiafnaaW.PrintMore

/-! ### Rounds -/
theorem Ev.all {α : Type} {g : Nat → Option α} {r : α} (h : ∀ k, g k = some r) : Ev g r := ⟨0, fun k _ => h k⟩
theorem Ev.of1 {α β : Type} {g : Nat → Option α} {f : Nat → Option β} {r : α} {b : β} (h : Ev f b) (k : ∀ k, f k = some b → g k = some r) : Ev g r := by
  obtain ⟨K, h⟩ := h; exact ⟨K, fun n hn => k n (h n hn)⟩
theorem Ev.of2 {α β γ : Type} {g : Nat → Option α} {f : Nat → Option β} {f' : Nat → Option γ} {r : α} {b : β} {c : γ} (h : Ev f b) (h' : Ev f' c) (k : ∀ k, f k = some b → f' k = some c → g k = some r) : Ev g r := by
  obtain ⟨K, h⟩ := h; obtain ⟨K', h'⟩ := h'; exact ⟨K + K', fun n hn => k n (h n (by omega)) (h' n (by omega))⟩
theorem Ev.next0 {α : Type} {g : Nat → Option α} {r : α} (h : ∀ k, g (k + 1) = some r) : Ev g r :=
  ⟨1, fun n hn => by obtain ⟨m, rfl⟩ : ∃ m, n = m + 1 := ⟨n - 1, by omega⟩; exact h m⟩
theorem Ev.next1 {α β : Type} {g : Nat → Option α} {f : Nat → Option β} {r : α} {b : β} (h : Ev f b) (k : ∀ k, f k = some b → g (k + 1) = some r) : Ev g r := by
  obtain ⟨K, h⟩ := h
  exact ⟨K + 1, fun n hn => by obtain ⟨m, rfl⟩ : ∃ m, n = m + 1 := ⟨n - 1, by omega⟩; exact k m (h m (by omega))⟩
theorem Ev.next2 {α β γ : Type} {g : Nat → Option α} {f : Nat → Option β} {f' : Nat → Option γ} {r : α} {b : β} {c : γ} (h : Ev f b) (h' : Ev f' c) (k : ∀ k, f k = some b → f' k = some c → g (k + 1) = some r) : Ev g r := by
  obtain ⟨K, h⟩ := h; obtain ⟨K', h'⟩ := h'
  exact ⟨K + K' + 1, fun n hn => by obtain ⟨m, rfl⟩ : ∃ m, n = m + 1 := ⟨n - 1, by omega⟩; exact k m (h m (by omega)) (h' m (by omega))⟩
/-- From some number of rounds on. -/
def Evt (p : Nat → Prop) : Prop := ∃ K, ∀ k, K ≤ k → p k
theorem ev_one {α : Type} {f : Nat → Option α} {a : α} (h : Ev f a) : Evt (fun k => f k = some a) := h
theorem ev_and {α : Type} {f : Nat → Option α} {a : α} {p : Nat → Prop} (h : Ev f a) (h' : Evt p) : Evt (fun k => f k = some a ∧ p k) := by
  obtain ⟨K, h⟩ := h; obtain ⟨K', h'⟩ := h'; exact ⟨K + K', fun n hn => ⟨h n (by omega), h' n (by omega)⟩⟩
theorem Evt.ev {α : Type} {g : Nat → Option α} {r : α} {p : Nat → Prop} (h : Evt p) (k : ∀ k, p k → g k = some r) : Ev g r := by
  obtain ⟨K, h⟩ := h; exact ⟨K, fun n hn => k n (h n hn)⟩
theorem Evt.next {α : Type} {g : Nat → Option α} {r : α} {p : Nat → Prop} (h : Evt p) (k : ∀ k, p k → g (k + 1) = some r) : Ev g r := by
  obtain ⟨K, h⟩ := h
  exact ⟨K + 1, fun n hn => by obtain ⟨m, rfl⟩ : ∃ m, n = m + 1 := ⟨n - 1, by omega⟩; exact k m (h m (by omega))⟩

/-! ### Whole numbers -/
theorem wrap_id {x : Int} (h0 : -9223372036854775808 ≤ x) (h1 : x ≤ 9223372036854775807) : wrap64 x = x := by unfold wrap64; omega
theorem wrap_succ {i n : Nat} (h : i < n) (hn : n ≤ 9223372036854775807) : wrap64 ((i : Int) + 1) = ((i + 1 : Nat) : Int) := by unfold wrap64; omega
theorem toNat_cast (i : Nat) : ((i : Int)).toNat = i := by omega

theorem mx_eq (a b : Int) : mx a b = max a b := by unfold mx; split <;> omega
/-! ### Lists from an index on -/
theorem drop_cons {α : Type} {xs ys : List α} {y : α} {i : Nat} (h : xs.drop i = y :: ys) : i < xs.length ∧ xs[i]? = some y ∧ xs.drop (i + 1) = ys := by
  have hlt : i < xs.length := by
    by_cases hlt : i < xs.length
    · exact hlt
    · rw [List.drop_of_length_le (by omega)] at h; cases h
  rw [List.drop_eq_getElem_cons hlt] at h
  injection h with h1 h2
  exact ⟨hlt, by rw [List.getElem?_eq_getElem hlt, h1], h2⟩
theorem drop_nil {α : Type} {xs : List α} {i : Nat} (h : xs.drop i = []) : xs.length ≤ i := by simpa using h
theorem getD_drop {α : Type} {xs ys : List α} {y d : α} {i : Nat} (h : xs.drop i = y :: ys) : xs.getD ((i : Int)).toNat d = y := by
  rw [toNat_cast, List.getD_eq_getElem?_getD, (drop_cons h).2.1]; rfl
theorem rd_drop {xs ys : List Int} {y : Int} {i : Nat} (h : xs.drop i = y :: ys) : rd xs (i : Int) = y := getD_drop h
theorem rdOf_drop {α : Type} {xs ys : List α} {y d : α} {i : Nat} (h : xs.drop i = y :: ys) : rdOf d xs (i : Int) = y := getD_drop h
theorem getD_get {α : Type} {xs : List α} {y d : α} {i : Nat} (h : xs[i]? = some y) : xs.getD ((i : Int)).toNat d = y := by
  rw [toNat_cast, List.getD_eq_getElem?_getD, h]; rfl
theorem rd_get {xs : List Int} {y : Int} {i : Nat} (h : xs[i]? = some y) : rd xs (i : Int) = y := getD_get h
/-! ### A list that is copied, element for element -/
/-! ### Strictly increasing lists of 0..n-1 -/
/-! ### Numbers marked and held -/
end Go.Proofs.Ytccpgcgaaiafnaa.Kit
namespace Go.Proofs.Ytccpgcgaaiafnaa.Model
open Go.RowKit Go.Proofs.YtccpgcgaaiafnaaW.PrintWords Go.Proofs.Ytccpgcgaaiafnaa.Kit

/-- Numbers within bounds, all of them. -/
def allIn (lo hi : Int) : List Int → Bool
  | [] => true
  | y :: ys => decide (lo ≤ y ∧ y ≤ hi) && allIn lo hi ys
theorem allIn_mem {lo hi : Int} : ∀ {ys : List Int}, allIn lo hi ys = true → ∀ y ∈ ys, lo ≤ y ∧ y ≤ hi
  | [], _, y, hy => by cases hy
  | z :: zs, h, y, hy => by
    simp only [allIn, Bool.and_eq_true, decide_eq_true_eq] at h
    rcases List.mem_cons.1 hy with rfl | hy
    · exact h.1
    · exact allIn_mem h.2 y hy
/-- The greatest number of 'false' behind each other; m: so far; n: those just before. -/
def down : List Bool → Int → Int → Int
  | [], m, _ => m
  | b :: bs, m, n => if b = true then down bs (max m 0) 0 else down bs (max m (n + 1)) (n + 1)

def mixStep (a x : Int) : Int := Int.tmod (wrap64 ((Int.tmod (wrap64 ((wrap64 ((wrap64 (33 * a)) + x)) + 11)) 1000003) * (wrap64 ((wrap64 (Int.tdiv (Int.tmod (wrap64 ((wrap64 ((wrap64 (33 * a)) + x)) + 11)) 1000003) 16)) + 7)))) 1000003
def mix (l : List Int) : Int := (l ++ [5, 2]).foldl mixStep (wrap64 (6007 + (l.length : Int)))
def keyOk (l : List Int) : Bool := decide (l.length ≤ 8) && allIn 0 1000000000 l

def machOk (a b : Int) : Bool := decide (0 ≤ a ∧ a ≤ 100 ∧ 0 ≤ b ∧ b ≤ 100)
/-- The states of a machine: d shifts, from shift s on; 'now': is it ready? -/
def states (f r key : Int) : Nat → Int → Bool → List Bool
  | 0, _, _ => []
  | d + 1, s, now => now :: states f r key d (s + 1) (if Int.tmod (mix [key, s, 3, 100]) 100 < (if now = true then f else r) then !now else now)
theorem states_length (f r key : Int) : ∀ (d : Nat) (s : Int) (now : Bool), (states f r key d s now).length = d
  | 0, _, _ => rfl
  | d + 1, s, now => by simp [states, states_length]
/-- A fraction in lowest terms, of numbers that are not negative. -/
def low (a b : Int) : Int × Int := (a / (Nat.gcd a.natAbs b.natAbs : Int), b / (Nat.gcd a.natAbs b.natAbs : Int))
theorem low_bd {a b : Int} (ha : 0 ≤ a) (hb : 0 < b) : 1 ≤ (Nat.gcd a.natAbs b.natAbs : Int) ∧ 0 ≤ (low a b).1 ∧ (low a b).1 ≤ a ∧ 1 ≤ (low a b).2 ∧ (low a b).2 ≤ b ∧ a = (low a b).1 * (Nat.gcd a.natAbs b.natAbs : Int) ∧ b = (low a b).2 * (Nat.gcd a.natAbs b.natAbs : Int) := by
  have hg : 0 < Nat.gcd a.natAbs b.natAbs := Nat.gcd_pos_of_pos_right _ (by omega)
  have d1 : (Nat.gcd a.natAbs b.natAbs : Int) ∣ a := Int.natAbs_dvd_natAbs.1 (by simpa using Nat.gcd_dvd_left a.natAbs b.natAbs)
  have d2 : (Nat.gcd a.natAbs b.natAbs : Int) ∣ b := Int.natAbs_dvd_natAbs.1 (by simpa using Nat.gcd_dvd_right a.natAbs b.natAbs)
  have e1 := Int.ediv_mul_cancel d1
  have e2 := Int.ediv_mul_cancel d2
  have h1 : 0 ≤ a / (Nat.gcd a.natAbs b.natAbs : Int) := Int.ediv_nonneg ha (by omega)
  have h2 : a / (Nat.gcd a.natAbs b.natAbs : Int) ≤ a := Int.ediv_le_self _ ha
  have h3 : 0 ≤ b / (Nat.gcd a.natAbs b.natAbs : Int) := Int.ediv_nonneg (by omega) (by omega)
  have h4 : b / (Nat.gcd a.natAbs b.natAbs : Int) ≤ b := Int.ediv_le_self _ (by omega)
  refine ⟨by omega, h1, h2, ?_, h4, e1.symm, e2.symm⟩
  by_cases h5 : b / (Nat.gcd a.natAbs b.natAbs : Int) = 0
  · rw [h5] at e2; omega
  · show 1 ≤ b / (Nat.gcd a.natAbs b.natAbs : Int); omega
theorem low_scale {a b c : Int} (ha : 0 ≤ a) (hb : 0 < b) (hc : 0 < c) : low (a * c) (b * c) = low a b := by
  have hg : 0 < Nat.gcd a.natAbs b.natAbs := Nat.gcd_pos_of_pos_right _ (by omega)
  have e : (Nat.gcd (a * c).natAbs (b * c).natAbs : Int) = (Nat.gcd a.natAbs b.natAbs : Int) * c := by
    rw [Int.natAbs_mul, Int.natAbs_mul, Nat.gcd_mul_right, Int.natCast_mul]; congr 1; omega
  simp only [low, e]
  rw [Int.mul_ediv_mul_of_pos_left _ _ hc, Int.mul_ediv_mul_of_pos_left _ _ hc]
/-- Ready and down, behind one shift more. -/
def turn (f r : Int) (p : Int × Int) : Int × Int := (p.1 * (100 - f) + p.2 * r, p.1 * f + p.2 * (100 - r))
def turns (f r : Int) : Nat → Int × Int → Int × Int
  | 0, p => p
  | n + 1, p => turns f r n (turn f r p)
def begin_ (c : Bool) : Int × Int := if c = true then (1, 0) else (0, 1)
theorem turn_bd {f r : Int} {p : Int × Int} (hm : machOk f r = true) (h1 : 0 ≤ p.1) (h2 : 0 ≤ p.2) :
    (0 ≤ p.1 * (100 - f) ∧ p.1 * (100 - f) ≤ p.1 * 100) ∧ (0 ≤ p.2 * r ∧ p.2 * r ≤ p.2 * 100) ∧ (0 ≤ p.1 * f ∧ p.1 * f ≤ p.1 * 100) ∧ (0 ≤ p.2 * (100 - r) ∧ p.2 * (100 - r) ≤ p.2 * 100) ∧ p.1 * f = p.1 * 100 - p.1 * (100 - f) ∧ p.2 * (100 - r) = p.2 * 100 - p.2 * r := by
  simp only [machOk, decide_eq_true_eq] at hm
  have m : ∀ {a b : Int}, 0 ≤ a → 0 ≤ b → b ≤ 100 → 0 ≤ a * b ∧ a * b ≤ a * 100 := fun ha hb hc => ⟨Int.mul_nonneg ha hb, Int.mul_le_mul_of_nonneg_left hc ha⟩
  refine ⟨m h1 (by omega) (by omega), m h2 (by omega) (by omega), m h1 (by omega) (by omega), m h2 (by omega) (by omega), ?_, ?_⟩
  · rw [Int.mul_sub]; omega
  · rw [Int.mul_sub]
theorem turn_sum {f r : Int} {p : Int × Int} (hm : machOk f r = true) (h1 : 0 ≤ p.1) (h2 : 0 ≤ p.2) : 0 ≤ (turn f r p).1 ∧ 0 ≤ (turn f r p).2 ∧ (turn f r p).1 + (turn f r p).2 = (p.1 + p.2) * 100 := by
  have := turn_bd hm h1 h2
  simp only [turn]; omega
theorem turns_sum {f r : Int} (hm : machOk f r = true) : ∀ (n : Nat) (p : Int × Int), 0 ≤ p.1 → 0 ≤ p.2 → 0 ≤ (turns f r n p).1 ∧ 0 ≤ (turns f r n p).2 ∧ (turns f r n p).1 + (turns f r n p).2 = (p.1 + p.2) * 100 ^ n
  | 0, p, h1, h2 => by simp [turns, h1, h2]
  | n + 1, p, h1, h2 => by
    have a := turn_sum hm h1 h2
    have b := turns_sum hm n (turn f r p) a.1 a.2.1
    simp only [turns]
    refine ⟨b.1, b.2.1, ?_⟩
    rw [b.2.2, a.2.2, Int.pow_succ, Int.mul_assoc, Int.mul_comm 100 (100 ^ n)]
theorem pow_ge (n : Nat) : 1 ≤ (100 : Int) ^ n := by have := Int.pow_pos (n := 100) (m := n) (by omega); omega
/-- What the shifts tell: the first number of each. -/
def tells (f r : Int) : Nat → Int × Int → List Int
  | 0, _ => []
  | n + 1, p => (turn f r p).1 :: tells f r n (turn f r p)
theorem tells_length (f r : Int) : ∀ (n : Nat) (p : Int × Int), (tells f r n p).length = n
  | 0, _ => rfl
  | n + 1, p => by simp [tells, tells_length f r n]
theorem tells_get (f r : Int) : ∀ (n : Nat) (p : Int × Int) (s : Nat), s < n → (tells f r n p)[s]? = some (turns f r (s + 1) p).1
  | 0, _, s, h => by omega
  | n + 1, p, 0, h => by simp [tells, turns]
  | n + 1, p, s + 1, h => by simp only [tells, List.getElem?_cons_succ]; rw [tells_get f r n (turn f r p) s (by omega)]; rfl
/-- The sum of the first j numbers, each brought to 100 to the power e. -/
def meanSum (C : Nat → Int) (e : Nat) : Nat → Int
  | 0 => 0
  | j + 1 => meanSum C e j + C j * 100 ^ (e - j)
theorem meanSum_bd {C : Nat → Int} {e : Nat} (hC : ∀ s, s ≤ 5 → 0 ≤ C s ∧ C s ≤ 100 ^ s) : ∀ j, j ≤ e + 1 → j ≤ 5 → (0 ≤ meanSum C e j ∧ meanSum C e j ≤ j * 100 ^ e) ∧ (j ≤ e → 0 ≤ C j * 100 ^ (e - j) ∧ C j * 100 ^ (e - j) ≤ 100 ^ e)
  | 0, h, h5 => ⟨by simp [meanSum], fun _ => by
      have c := hC 0 (by omega)
      refine ⟨Int.mul_nonneg c.1 (by have := pow_ge (e - 0); omega), ?_⟩
      have h : C 0 * 100 ^ (e - 0) ≤ 1 * 100 ^ (e - 0) := Int.mul_le_mul_of_nonneg_right (by simpa using c.2) (by have := pow_ge (e - 0); omega)
      simpa using h⟩
  | j + 1, h, h5 => by
    have a := meanSum_bd (e := e) hC j (by omega) (by omega)
    have a2 := a.2 (by omega)
    refine ⟨?_, fun hj => ?_⟩
    · simp only [meanSum]
      have e1 : ((j + 1 : Nat) : Int) * 100 ^ e = (j : Int) * 100 ^ e + 100 ^ e := by rw [Int.natCast_succ, Int.add_mul, Int.one_mul]
      omega
    · have c := hC (j + 1) h5
      have hp := pow_ge (e - (j + 1))
      refine ⟨Int.mul_nonneg c.1 (by omega), ?_⟩
      have q : C (j + 1) * 100 ^ (e - (j + 1)) ≤ 100 ^ (j + 1) * 100 ^ (e - (j + 1)) := Int.mul_le_mul_of_nonneg_right c.2 (by omega)
      rw [← Int.pow_add (100 : Int) (j + 1) (e - (j + 1)), show j + 1 + (e - (j + 1)) = e by omega] at q
      exact q
theorem meanSum_scale (C : Nat → Int) (e d : Nat) : ∀ j, j ≤ e + 1 → meanSum C (e + d) j = meanSum C e j * 100 ^ d
  | 0, h => by simp [meanSum]
  | j + 1, h => by
    simp only [meanSum]
    rw [meanSum_scale C e d j (by omega), Int.add_mul, Int.mul_assoc (C j), ← Int.pow_add, show e + d - j = e - j + d by omega]
theorem pow_div (j : Nat) (h : j ≤ 4) : (100000000 : Int) / 100 ^ j = 100 ^ (4 - j) := by
  rcases (by omega : j = 0 ∨ j = 1 ∨ j = 2 ∨ j = 3 ∨ j = 4) with rfl | rfl | rfl | rfl | rfl <;> decide
end Go.Proofs.Ytccpgcgaaiafnaa.Model
namespace Go.Proofs.Ytccpgcgaaiafnaa.PureFnMachines
open Go.RowKit Go.Proofs.Ytccpgcgaaiafnaa.PFnMachines Go.Proofs.YtccpgcgaaiafnaaW.PrintWords Go.Proofs.YtccpgcgaaiafnaaW.PrintLast Go.Proofs.YtccpgcgaaiafnaaW.PrintMore Go.Proofs.Ytccpgcgaaiafnaa.Kit Go.Proofs.Ytccpgcgaaiafnaa.Model
theorem wrap_u64' (n : Int) : IntKind.u64.wrap n = n % 18446744073709551616 := by simp [IntKind.wrap, IntKind.bits, IntKind.signed]
theorem and255 (x : Int) (h0 : 0 ≤ x) (h1 : x < 16777216) : Go.bits .and .u64 x 255 = x % 256 := bits_mask .u64 24 (by decide) (fun n a b => by rw [wrap_u64']; omega) 8 (by decide) x h0 h1
theorem tail_bd (y : Int) : 0 ≤ wrap64 (Go.bits .and .u64 (IntKind.u64.wrap y / 1099511627776) 255) ∧ wrap64 (Go.bits .and .u64 (IntKind.u64.wrap y / 1099511627776) 255) ≤ 255 := by
  rw [wrap_u64', and255 _ (by omega) (by omega), wrap_id (by omega) (by omega)]
  omega
theorem byte_bd {l : List Int} (hl : ∀ x ∈ l, 0 ≤ x ∧ x ≤ 255) {p : Int} (h0 : 0 ≤ p) (h1 : p < (l.length : Int)) : 0 ≤ rd l p ∧ rd l p ≤ 255 := by
  obtain ⟨i, rfl⟩ := Int.eq_ofNat_of_zero_le h0
  have hi : i < l.length := by omega
  have e : l[i]? = some l[i] := List.getElem?_eq_getElem hi
  have r : rd l ((i : Nat) : Int) = l[i] := rd_get e
  show 0 ≤ rd l ((i : Nat) : Int) ∧ rd l ((i : Nat) : Int) ≤ 255
  rw [r]
  exact hl _ (List.getElem_mem hi)
theorem spec_l1Cur_next_some (l : List Int) (hl : ∀ x ∈ l, 0 ≤ x ∧ x ≤ 255) (hn : l.length ≤ 9223372036854775807) (p s : Int) (h0 : 0 ≤ p) (h1 : p ≤ 1000000) : ∃ r s', spec_l1Cur_next.f l p s = some (r, p + 1, s') ∧ 0 ≤ r ∧ r ≤ 255 := by
  have ew : wrap64 (p + 1) = p + 1 := wrap_id (by omega) (by omega)
  simp only [spec_l1Cur_next.f, ew]
  by_cases c : p < (l.length : Int)
  · rw [if_pos c, if_pos h0, if_pos (by omega)]
    have b := byte_bd hl h0 c
    exact ⟨_, _, rfl, by rw [wrap_id (by omega) (by omega)]; exact b⟩
  · rw [if_neg c, if_neg (by omega)]
    exact ⟨_, _, rfl, tail_bd _⟩
theorem spec_l1Cur_pick_some (l : List Int) (hl : ∀ x ∈ l, 0 ≤ x ∧ x ≤ 255) (hn : l.length ≤ 9223372036854775807) (p s : Int) (h0 : 0 ≤ p) (h1 : p ≤ 900000) (n : Int) : ∃ r p' s', spec_l1Cur_pick.f l p s n = some (r, p', s') ∧ (0 ≤ r ∧ (1 ≤ n → r < n)) ∧ p ≤ p' ∧ p' ≤ p + 2 := by
  by_cases c : n ≤ 1
  · refine ⟨0, p, s, ?_, by omega, by omega, by omega⟩
    simp only [spec_l1Cur_pick.f]
    rw [if_pos c]
  · obtain ⟨x, s1, e1, b1⟩ := spec_l1Cur_next_some l hl hn p s h0 (by omega)
    have tm : ∀ v : Int, 0 ≤ v → 0 ≤ Int.tmod v n ∧ Int.tmod v n < n := fun v hv => by
      rw [Int.tmod_eq_emod_of_nonneg hv]
      exact ⟨Int.emod_nonneg v (by omega), Int.emod_lt_of_pos v (by omega)⟩
    by_cases d : n > 200
    · obtain ⟨y, s2, e2, b2⟩ := spec_l1Cur_next_some l hl hn (p + 1) s1 (by omega) (by omega)
      have t := tm (x * 256 + y) (by omega)
      refine ⟨Int.tmod (x * 256 + y) n, p + 1 + 1, s2, ?_, ⟨t.1, fun _ => t.2⟩, by omega, by omega⟩
      simp only [spec_l1Cur_pick.f, e1, e2, Option.bind_some]
      rw [if_neg c, if_pos d, if_neg (by omega), wrap_id (x := x * 256) (by omega) (by omega), wrap_id (x := x * 256 + y) (by omega) (by omega)]
    · have t := tm x b1.1
      refine ⟨Int.tmod x n, p + 1, s1, ?_, ⟨t.1, fun _ => t.2⟩, by omega, by omega⟩
      simp only [spec_l1Cur_pick.f, e1, Option.bind_some]
      rw [if_neg c, if_neg d, if_neg (by omega)]
theorem spec_l1Cur_among_some (l : List Int) (hl : ∀ x ∈ l, 0 ≤ x ∧ x ≤ 255) (hn : l.length ≤ 9223372036854775807) (p s : Int) (h0 : 0 ≤ p) (h1 : p ≤ 900000) (xs : List Int) (hx : 1 ≤ xs.length) : ∃ r p' s', spec_l1Cur_among.f l p s xs = some (r, p', s') ∧ p ≤ p' ∧ p' ≤ p + 2 := by
  obtain ⟨r, p', s', e, b, c⟩ := spec_l1Cur_pick_some l hl hn p s h0 h1 (xs.length : Int)
  have d := b.2 (by omega)
  refine ⟨rd xs r, p', s', ?_, c⟩
  simp only [spec_l1Cur_among.f, e, Option.bind_some]
  rw [if_pos b.1, if_pos d]
theorem spec_l1Cur_one_some (l : List Int) (hl : ∀ x ∈ l, 0 ≤ x ∧ x ≤ 255) (hn : l.length ≤ 9223372036854775807) (p s : Int) (h0 : 0 ≤ p) (h1 : p ≤ 900000) (n : Int) : ∃ r p' s', spec_l1Cur_one.f l p s n = some (r, p', s') ∧ p ≤ p' ∧ p' ≤ p + 2 := by
  obtain ⟨r, p', s', e, _, c⟩ := spec_l1Cur_pick_some l hl hn p s h0 h1 n
  exact ⟨(r == 0), p', s', by simp only [spec_l1Cur_one.f, e, Option.bind_some], c⟩
theorem spec_l1Cur_machine_some (l : List Int) (hl : ∀ x ∈ l, 0 ≤ x ∧ x ≤ 255) (hn : l.length ≤ 9223372036854775807) (p s : Int) (h0 : 0 ≤ p) (h1 : p ≤ 800000) : ∃ f r c p' s', spec_l1Cur_machine.f l p s = some (f, r, c, p', s') ∧ p ≤ p' ∧ p' ≤ p + 10 := by
  obtain ⟨f, p1, s1, e1, b1⟩ := spec_l1Cur_among_some l hl hn p s h0 (by omega) [0, 10, 30, 50, 100] (by simp)
  obtain ⟨r, p2, s2, e2, b2⟩ := spec_l1Cur_among_some l hl hn p1 s1 (by omega) (by omega) [0, 20, 50, 75, 100] (by simp)
  obtain ⟨c, p3, s3, e3, b3⟩ := spec_l1Cur_one_some l hl hn p2 s2 (by omega) (by omega) 4
  obtain ⟨q, p4, s4, e4, _, b4⟩ := spec_l1Cur_pick_some l hl hn p3 s3 (by omega) (by omega) 24
  obtain ⟨x, p5, s5, e5, b5⟩ := spec_l1Cur_among_some l hl hn p4 s4 (by omega) (by omega) [(-1), 101] (by simp)
  by_cases c0 : q = 0
  · refine ⟨x, r, !c, p5, s5, ?_, by omega, by omega⟩
    simp only [spec_l1Cur_machine.f, e1, e2, e3, e4, e5, Option.bind_some]
    rw [if_pos c0]
  by_cases c1 : q = 1
  · refine ⟨f, x, !c, p5, s5, ?_, by omega, by omega⟩
    simp only [spec_l1Cur_machine.f, e1, e2, e3, e4, e5, Option.bind_some]
    rw [if_neg c0, if_pos c1]
  · refine ⟨f, r, !c, p4, s4, ?_, by omega, by omega⟩
    simp only [spec_l1Cur_machine.f, e1, e2, e3, e4, Option.bind_some]
    rw [if_neg c0, if_neg c1]
theorem spec_l1Cur_secret_some (l : List Int) (hl : ∀ x ∈ l, 0 ≤ x ∧ x ≤ 255) (hn : l.length ≤ 9223372036854775807) (p s : Int) (h0 : 0 ≤ p) (h1 : p ≤ 800000) : ∃ r p' s', spec_l1Cur_secret.f l p s = some (r, p', s') ∧ p ≤ p' ∧ p' ≤ p + 6 := by
  obtain ⟨x, p1, s1, e1, _, b1⟩ := spec_l1Cur_pick_some l hl hn p s h0 (by omega) 60000
  obtain ⟨y, p2, s2, e2, _, b2⟩ := spec_l1Cur_pick_some l hl hn p1 s1 (by omega) (by omega) 60000
  obtain ⟨r, p3, s3, e3, b3⟩ := spec_l1Cur_among_some l hl hn p2 s2 (by omega) (by omega) [0, 7, x, y, 1000000000, 1000000001, (-1)] (by simp)
  exact ⟨r, p3, s3, by simp only [spec_l1Cur_secret.f, e1, e2, e3, Option.bind_some], by omega, by omega⟩
theorem spec_l1Cur_shifts_some (l : List Int) (hl : ∀ x ∈ l, 0 ≤ x ∧ x ≤ 255) (hn : l.length ≤ 9223372036854775807) (p s : Int) (h0 : 0 ≤ p) (h1 : p ≤ 800000) : ∃ r p' s', spec_l1Cur_shifts.f l p s = some (r, p', s') ∧ p ≤ p' ∧ p' ≤ p + 2 := by
  obtain ⟨r, p3, s3, e3, b3⟩ := spec_l1Cur_among_some l hl hn p s h0 (by omega) [0, 1, 5, 12, 30, 60, 61, (-1)] (by simp)
  exact ⟨r, p3, s3, by simp only [spec_l1Cur_shifts.f, e3, Option.bind_some], by omega, by omega⟩
theorem spec_DrawStatesOf_some (l : List Int) (hl : ∀ x ∈ l, 0 ≤ x ∧ x ≤ 255) (hn : l.length ≤ 9223372036854775807) : ∃ f r c key n, spec_DrawStatesOf.f l = some (f, r, c, key, n) := by
  obtain ⟨f, r, c, p1, s1, e1, b1⟩ := spec_l1Cur_machine_some l hl hn 0 0 (by omega) (by omega)
  obtain ⟨key, p2, s2, e2, b2⟩ := spec_l1Cur_secret_some l hl hn p1 s1 (by omega) (by omega)
  obtain ⟨n, p3, s3, e3, b3⟩ := spec_l1Cur_shifts_some l hl hn p2 s2 (by omega) (by omega)
  exact ⟨f, r, c, key, n, by simp only [spec_DrawStatesOf.f, e1, e2, e3, Option.bind_some]⟩
theorem impl_IsMachine_eq (a b : Int) (c : Bool) : impl_IsMachine.f a b c = some (machOk a b) := by
  simp only [impl_IsMachine.f, machOk]
  repeat' split
  all_goals first | (congr 1; rw [decide_eq_decide]; omega) | (congr 1; symm; simp; omega)
theorem impl_areShifts_eq (a : Int) : impl_areShifts.f a = some (decide (0 ≤ a ∧ a ≤ 60)) := by
  simp only [impl_areShifts.f]
  split
  · congr 1; rw [decide_eq_decide]; omega
  · congr 1; symm; simp; omega
theorem impl_mixOf_l0 (l : List Int) (hn : l.length ≤ 9223372036854775807) : ∀ (ys : List Int) (i : Nat) (a : Int), l.drop i = ys → Ev (fun k => impl_mixOf.l0 k a l (l.length : Int) i) (ys.foldl mixStep a)
  | [], i, a, h => Ev.next0 fun k => by
      have h0 := drop_nil h
      simp only [impl_mixOf.l0, List.foldl]
      rw [if_neg (by omega)]
  | y :: ys, i, a, h => by
      obtain ⟨h1, h2, h3⟩ := drop_cons h
      refine Ev.next1 (impl_mixOf_l0 l hn ys (i + 1) (mixStep a y) h3) fun k hk => ?_
      have e := rd_drop h
      simp only [impl_mixOf.l0, e, List.foldl]
      rw [if_pos (by omega), if_pos (by omega), if_pos (by omega), wrap_succ h1 hn]
      exact hk
theorem impl_mixOf_ev (l : List Int) (hn : l.length ≤ 1048576) : Ev (fun k => impl_mixOf.f k l) (mix l) :=
  Ev.of1 (impl_mixOf_l0 (l ++ [5, 2]) (by simp; omega) (l ++ [5, 2]) 0 (wrap64 (6007 + (l.length : Int))) rfl) fun k hk => by
    simp only [impl_mixOf.f, Option.bind_some, List.nil_append, List.length_nil]
    rw [if_pos (by omega), if_pos (by simp; omega)]
    exact hk
theorem impl_numberFor_ev (l : List Int) (n : Int) (hn : l.length ≤ 1048575) (h0 : n ≠ 0) : Ev (fun k => impl_numberFor.f k n l) (Int.tmod (mix (l ++ [n])) n) :=
  Ev.of1 (impl_mixOf_ev (l ++ [n]) (by simp; omega)) fun k hk => by
    simp only [impl_numberFor.f, Option.bind_some, List.nil_append, List.length_nil]
    rw [if_pos (by omega), if_pos (by omega), hk, Option.bind_some, if_neg h0]
theorem impl_statesOf_l0 (f r key n : Int) (c : Bool) (hn : n ≤ 60) : ∀ (d : Nat) (s : Int) (a : List Bool) (now : Bool), 0 ≤ s → s + d = n → (a.length : Int) = s → Ev (fun k => impl_statesOf.l0 k key n a now s f r c) (a ++ states f r key d s now)
  | 0, s, a, now, h0, hd, ha => Ev.next0 fun k => by
      simp only [impl_statesOf.l0, states, List.append_nil]
      rw [if_neg (by omega)]
  | d + 1, s, a, now, h0, hd, ha => by
      have hb := impl_numberFor_ev [key, s, 3] 100 (by simp) (by omega)
      have e : ([key, s, 3] : List Int) ++ [100] = [key, s, 3, 100] := rfl
      rw [e] at hb
      refine Ev.next2 hb (impl_statesOf_l0 f r key n c hn d (s + 1) (a ++ [now]) (if Int.tmod (mix [key, s, 3, 100]) 100 < (if now = true then f else r) then !now else now) (by omega) (by omega) (by simp; omega)) fun k h1 h2 => ?_
      simp only [impl_statesOf.l0, Option.bind_some, h1, states]
      rw [if_pos (by omega), if_pos (by omega), wrap_id (by omega) (by omega)]
      rw [List.append_assoc] at h2
      cases now with
      | true =>
        simp only [if_true] at h2 ⊢
        by_cases hq : Int.tmod (mix [key, s, 3, 100]) 100 < f
        · simp only [if_pos hq] at h2 ⊢; exact h2
        · simp only [if_neg hq] at h2 ⊢; exact h2
      | false =>
        simp only [Bool.false_eq_true, if_false] at h2 ⊢
        by_cases hq : Int.tmod (mix [key, s, 3, 100]) 100 < r
        · simp only [if_pos hq] at h2 ⊢; exact h2
        · simp only [if_neg hq] at h2 ⊢; exact h2
theorem impl_statesOf_ev (f r key n : Int) (c : Bool) (h0 : 0 ≤ n) (hn : n ≤ 60) : Ev (fun k => impl_statesOf.f k f r c key n) (states f r key n.toNat 0 c) :=
  Ev.of1 (impl_statesOf_l0 f r key n c hn n.toNat 0 [] c (by omega) (by omega) rfl) fun k hk => by simp only [impl_statesOf.f]; exact hk
theorem spec_l1In_eq (a lo hi : Int) : spec_l1In.f a lo hi = some (decide (lo ≤ a ∧ a ≤ hi)) := by
  unfold spec_l1In.f
  split
  · congr 1; simp; omega
  · congr 1; simp; omega
theorem spec_brGood_eq (a b : Int) (c : Bool) : spec_brGood.f a b c = some (machOk a b) := by
  simp only [spec_brGood.f, spec_l1In_eq, Option.bind_some, decide_eq_true_eq, machOk]
  by_cases h : 0 ≤ a ∧ a ≤ 100
  · rw [if_pos h]; congr 1; rw [decide_eq_decide]; omega
  · rw [if_neg h]; congr 1; symm; simp; omega
theorem spec_brKey_eq (a : Int) : spec_brKey.f a = some (decide (0 ≤ a ∧ a ≤ 1000000000)) := by simp only [spec_brKey.f, spec_l1In_eq, Option.bind_some]
theorem spec_l1Own_eq (l : List Int) (h : l.length < 17592186044416) : spec_l1Own.f l = some l := by
  simp only [spec_l1Own.f, Option.bind_some, List.length_nil, List.nil_append]
  rw [if_pos (by omega)]
theorem spec_brMix_l0 (l : List Int) (hn : l.length ≤ 9223372036854775807) : ∀ (ys : List Int) (i : Nat) (a : Int), l.drop i = ys → Ev (fun k => spec_brMix.l0 k a l (l.length : Int) i) (ys.foldl mixStep a)
  | [], i, a, h => Ev.next0 fun k => by
      have h0 := drop_nil h
      simp only [spec_brMix.l0, List.foldl]
      rw [if_neg (by omega)]
  | y :: ys, i, a, h => by
      obtain ⟨h1, h2, h3⟩ := drop_cons h
      refine Ev.next1 (spec_brMix_l0 l hn ys (i + 1) (mixStep a y) h3) fun k hk => ?_
      have e := rd_drop h
      simp only [spec_brMix.l0, e, List.foldl]
      rw [if_pos (by omega), if_pos (by omega), if_pos (by omega), wrap_succ h1 hn]
      exact hk
theorem spec_brMix_ev (l : List Int) (hn : l.length ≤ 1048576) : Ev (fun k => spec_brMix.f k l) (mix l) :=
  Ev.of1 (spec_brMix_l0 (l ++ [5, 2]) (by simp; omega) (l ++ [5, 2]) 0 (wrap64 (6007 + (l.length : Int))) rfl) fun k hk => by
    simp only [spec_brMix.f, spec_l1Own_eq l (by omega), Option.bind_some]
    rw [if_pos (by simp; omega)]
    exact hk
theorem spec_brBelow_ev (l : List Int) (n : Int) (hn : l.length ≤ 1048575) (h0 : n ≠ 0) : Ev (fun k => spec_brBelow.f k l n) (Int.tmod (mix (l ++ [n])) n) :=
  Ev.of1 (spec_brMix_ev (l ++ [n]) (by simp; omega)) fun k hk => by
    simp only [spec_brBelow.f, spec_l1Own_eq l (by omega), Option.bind_some]
    rw [if_pos (by omega), hk, Option.bind_some, if_neg h0]
theorem spec_brStates_l0 (f r key n : Int) (c : Bool) (hn : n ≤ 60) : ∀ (d : Nat) (s : Int) (a : List Bool) (now : Bool), 0 ≤ s → s + d = n → (a.length : Int) = s → Ev (fun k => spec_brStates.l0 k key n a now s f r c) (a ++ states f r key d s now)
  | 0, s, a, now, h0, hd, ha => Ev.next0 fun k => by
      simp only [spec_brStates.l0, states, List.append_nil]
      rw [if_neg (by omega)]
  | d + 1, s, a, now, h0, hd, ha => by
      have hb := spec_brBelow_ev [key, s, 3] 100 (by simp) (by omega)
      have e : ([key, s, 3] : List Int) ++ [100] = [key, s, 3, 100] := rfl
      rw [e] at hb
      refine Ev.next2 hb (spec_brStates_l0 f r key n c hn d (s + 1) (a ++ [now]) (if Int.tmod (mix [key, s, 3, 100]) 100 < (if now = true then f else r) then !now else now) (by omega) (by omega) (by simp; omega)) fun k h1 h2 => ?_
      simp only [spec_brStates.l0, Option.bind_some, h1, states]
      rw [if_pos (by omega), if_pos (by omega), wrap_id (by omega) (by omega)]
      rw [List.append_assoc] at h2
      cases now with
      | true =>
        simp only [if_true] at h2 ⊢
        by_cases hq : Int.tmod (mix [key, s, 3, 100]) 100 < f
        · simp only [if_pos hq] at h2 ⊢; exact h2
        · simp only [if_neg hq] at h2 ⊢; exact h2
      | false =>
        simp only [Bool.false_eq_true, if_false] at h2 ⊢
        by_cases hq : Int.tmod (mix [key, s, 3, 100]) 100 < r
        · simp only [if_pos hq] at h2 ⊢; exact h2
        · simp only [if_neg hq] at h2 ⊢; exact h2
theorem spec_brStates_ev (f r key n : Int) (c : Bool) (h0 : 0 ≤ n) (hn : n ≤ 60) : Ev (fun k => spec_brStates.f k f r c key n) (states f r key n.toNat 0 c) :=
  Ev.of1 (spec_brStates_l0 f r key n c hn n.toNat 0 [] c (by omega) (by omega) rfl) fun k hk => by simp only [spec_brStates.f]; exact hk
def statesM (f r : Int) (c : Bool) (key n : Int) : List Bool × Bool := if machOk f r = true ∧ (0 ≤ key ∧ key ≤ 1000000000) ∧ (0 ≤ n ∧ n ≤ 60) then (states f r key n.toNat 0 c, true) else ([], false)
theorem spec_StatesOf_ev (f r : Int) (c : Bool) (key n : Int) : Ev (fun k => spec_StatesOf.f k f r c key n) (statesM f r c key n) := by
  by_cases h : machOk f r = true ∧ (0 ≤ key ∧ key ≤ 1000000000) ∧ (0 ≤ n ∧ n ≤ 60)
  · obtain ⟨h1, h2, h3⟩ := h
    refine Ev.of1 (spec_brStates_ev f r key n c h3.1 h3.2) fun k hk => ?_
    simp only [spec_StatesOf.f, spec_brGood_eq, spec_brKey_eq, spec_l1In_eq, Option.bind_some]
    rw [if_pos h1, if_pos (by simpa using h2), if_pos (by simpa using h3), hk, Option.bind_some, statesM, if_pos ⟨h1, h2, h3⟩]
  · refine Ev.all fun k => ?_
    simp only [spec_StatesOf.f, spec_brGood_eq, spec_brKey_eq, spec_l1In_eq, Option.bind_some]
    rw [statesM, if_neg h]
    by_cases h1 : machOk f r = true
    · rw [if_pos h1]
      by_cases h2 : 0 ≤ key ∧ key ≤ 1000000000
      · rw [if_pos (by simpa using h2), if_neg]
        intro h3; exact h ⟨h1, h2, by simpa using h3⟩
      · rw [if_neg (by simpa using h2)]
    · rw [if_neg h1]
-- needs: spec_StatesOf
theorem impl_StatesOf_ev (f r : Int) (c : Bool) (key n : Int) : Ev (fun k => impl_StatesOf.f k f r c key n) (statesM f r c key n) := by
  by_cases h : machOk f r = true ∧ (0 ≤ key ∧ key ≤ 1000000000) ∧ (0 ≤ n ∧ n ≤ 60)
  · obtain ⟨h1, h2, h3⟩ := h
    refine Ev.of1 (impl_statesOf_ev f r key n c h3.1 h3.2) fun k hk => ?_
    simp only [impl_StatesOf.f, impl_IsMachine_eq, impl_areShifts_eq, Option.bind_some]
    rw [if_pos h1, if_neg (by omega), if_neg (by omega), if_pos (by simpa using h3), hk, Option.bind_some, statesM, if_pos ⟨h1, h2, h3⟩]
  · refine Ev.all fun k => ?_
    simp only [impl_StatesOf.f, impl_IsMachine_eq, impl_areShifts_eq, Option.bind_some]
    rw [statesM, if_neg h]
    by_cases h1 : machOk f r = true
    · rw [if_pos h1]
      by_cases h2 : 0 ≤ key ∧ key ≤ 1000000000
      · rw [if_neg (by omega), if_neg (by omega), if_neg]
        intro h3; exact h ⟨h1, h2, by simpa using h3⟩
      · split
        · rfl
        · rw [if_pos (by omega)]
    · rw [if_neg h1]
theorem spec_DrawReadyChance_some (l : List Int) (hl : ∀ x ∈ l, 0 ≤ x ∧ x ≤ 255) (hn : l.length ≤ 9223372036854775807) : ∃ f r c n, spec_DrawReadyChance.f l = some (f, r, c, n) ∧ -1 ≤ n ∧ n ≤ 6 := by
  obtain ⟨f, r, c, p1, s1, e1, b1⟩ := spec_l1Cur_machine_some l hl hn 0 0 (by omega) (by omega)
  obtain ⟨x, p2, s2, e2, c2, b2⟩ := spec_l1Cur_pick_some l hl hn p1 s1 (by omega) (by omega) 7
  obtain ⟨y, p3, s3, e3, c3, b3⟩ := spec_l1Cur_pick_some l hl hn p2 s2 (by omega) (by omega) 20
  have d2 := c2.2 (by omega)
  have d3 := c3.2 (by omega)
  refine ⟨f, r, c, x - y / 19, ?_, by omega, by omega⟩
  simp only [spec_DrawReadyChance.f, e1, e2, e3, Option.bind_some]
  rw [Int.tdiv_eq_ediv_of_nonneg c3.1, wrap_id (x := y / 19) (by omega) (by omega), wrap_id (x := x - y / 19) (by omega) (by omega)]
theorem spec_DrawMeanReady_some (l : List Int) (hl : ∀ x ∈ l, 0 ≤ x ∧ x ≤ 255) (hn : l.length ≤ 9223372036854775807) : ∃ f r c n, spec_DrawMeanReady.f l = some (f, r, c, n) ∧ -1 ≤ n ∧ n ≤ 6 := by
  obtain ⟨f, r, c, n, e, b⟩ := spec_DrawReadyChance_some l hl hn
  exact ⟨f, r, c, n, by simp only [spec_DrawMeanReady.f, e, Option.bind_some], b⟩
theorem chance_bd {n : Nat} {t : Int} (h0 : 0 ≤ t) (h : t * 100 ^ (n + 1) ≤ 1000000000000) : t * 100 ≤ 1000000000000 ∧ t * 100 * 100 ^ n ≤ 1000000000000 := by
  have hp := pow_ge n
  have e : t * 100 ^ (n + 1) = t * 100 * 100 ^ n := by rw [Int.pow_succ, Int.mul_assoc, Int.mul_comm 100 (100 ^ n)]
  rw [e] at h
  have h2 : t * 100 * 1 ≤ t * 100 * 100 ^ n := Int.mul_le_mul_of_nonneg_left hp (by omega)
  omega
theorem chance_small (n : Nat) (h : n ≤ 5) : (1 : Int) * 100 ^ n ≤ 1000000000000 := by
  rcases (by omega : n = 0 ∨ n = 1 ∨ n = 2 ∨ n = 3 ∨ n = 4 ∨ n = 5) with rfl | rfl | rfl | rfl | rfl | rfl <;> decide
theorem spec_brChance_l0 (f r : Int) (c : Bool) (hm : machOk f r = true) : ∀ (n : Nat) (p : Int × Int), n ≤ 100 → 0 ≤ p.1 → 0 ≤ p.2 → (p.1 + p.2) * 100 ^ n ≤ 1000000000000 → Ev (fun k => spec_brChance.l0 k (n : Int) p.1 (p.1 + p.2) f r c) ((turns f r n p).1, (turns f r n p).1 + (turns f r n p).2)
  | 0, p, hn, h1, h2, h => Ev.next0 fun k => by
      simp only [spec_brChance.l0]
      rw [if_neg (by omega)]; rfl
  | n + 1, p, hn, h1, h2, h => by
      have hb := chance_bd (by omega) h
      have tb := turn_bd hm h1 h2
      have ts := turn_sum hm h1 h2
      have hmm := hm
      simp only [machOk, decide_eq_true_eq] at hmm
      refine Ev.next1 (spec_brChance_l0 f r c hm n (turn f r p) (by omega) ts.1 ts.2.1 (by rw [ts.2.2]; exact hb.2)) fun k hk => ?_
      simp only [spec_brChance.l0]
      rw [if_pos (by omega), wrap_id (x := ((n + 1 : Nat) : Int) - 1) (by omega) (by omega), wrap_id (x := 100 - f) (by omega) (by omega), wrap_id (x := p.1 * (100 - f)) (by omega) (by omega), wrap_id (x := p.1 + p.2 - p.1) (by omega) (by omega), show p.1 + p.2 - p.1 = p.2 by omega,
        wrap_id (x := p.2 * r) (by omega) (by omega), wrap_id (x := p.1 * (100 - f) + p.2 * r) (by omega) (by omega), wrap_id (x := (p.1 + p.2) * 100) (by omega) (by omega), show ((n + 1 : Nat) : Int) - 1 = (n : Int) by omega]
      rw [ts.2.2] at hk
      exact hk
theorem spec_brChance_ev (f r : Int) (c : Bool) (hm : machOk f r = true) (n : Nat) (h : n ≤ 5) : Ev (fun k => spec_brChance.f k f r c (n : Int)) ((turns f r n (begin_ c)).1, 100 ^ n) := by
  have hb := chance_small n h
  cases c with
  | true =>
    have hs := turns_sum hm n (begin_ true) (by decide) (by decide)
    have e : (turns f r n (begin_ true)).1 + (turns f r n (begin_ true)).2 = 100 ^ n := by rw [hs.2.2]; simp [begin_]
    have hl := spec_brChance_l0 f r true hm n (1, 0) (by omega) (by simp) (by simp) (by simpa using hb)
    have hj : Ev (fun k => spec_brChance.j0 k (n : Int) 1 1 f r true) ((turns f r n (begin_ true)).1, 100 ^ n) := by
      refine Ev.next1 hl fun k hk => ?_
      simp only [spec_brChance.j0]; rw [← e]; exact hk
    exact Ev.of1 hj fun k hk => by simp only [spec_brChance.f, if_true]; exact hk
  | false =>
    have hs := turns_sum hm n (begin_ false) (by decide) (by decide)
    have e : (turns f r n (begin_ false)).1 + (turns f r n (begin_ false)).2 = 100 ^ n := by rw [hs.2.2]; simp [begin_]
    have hl := spec_brChance_l0 f r false hm n (0, 1) (by omega) (by simp) (by simp) (by simpa using hb)
    have hj : Ev (fun k => spec_brChance.j0 k (n : Int) 0 1 f r false) ((turns f r n (begin_ false)).1, 100 ^ n) := by
      refine Ev.next1 hl fun k hk => ?_
      simp only [spec_brChance.j0]; rw [← e]; exact hk
    exact Ev.of1 hj fun k hk => by simp only [spec_brChance.f]; rw [if_neg (by simp)]; exact hk
-- needs: spec_brChance
theorem impl_readyChances_l0 (f r : Int) (c : Bool) (hm : machOk f r = true) : ∀ (n : Nat) (p : Int × Int) (l : List Int), 0 ≤ p.1 → 0 ≤ p.2 → (p.1 + p.2) * 100 ^ n ≤ 1000000000000 → l.length + n ≤ 1000 → Ev (fun k => impl_readyChances.l0 k (n : Int) p.1 p.2 l f r c) (l ++ tells f r n p)
  | 0, p, l, h1, h2, h, hl => Ev.next0 fun k => by
      simp only [impl_readyChances.l0]
      rw [if_neg (by omega)]; simp [tells]
  | n + 1, p, l, h1, h2, h, hl => by
      have hb := chance_bd (by omega) h
      have tb := turn_bd hm h1 h2
      have ts := turn_sum hm h1 h2
      have hmm := hm
      simp only [machOk, decide_eq_true_eq] at hmm
      refine Ev.next1 (impl_readyChances_l0 f r c hm n (turn f r p) (l ++ [(turn f r p).1]) ts.1 ts.2.1 (by rw [ts.2.2]; exact hb.2) (by simp; omega)) fun k hk => ?_
      simp only [impl_readyChances.l0]
      rw [if_pos (by omega), if_pos (by omega), wrap_id (x := ((n + 1 : Nat) : Int) - 1) (by omega) (by omega), wrap_id (x := 100 - f) (by omega) (by omega), wrap_id (x := p.1 * (100 - f)) (by omega) (by omega), wrap_id (x := p.2 * r) (by omega) (by omega), wrap_id (x := p.1 * (100 - f) + p.2 * r) (by omega) (by omega),
        wrap_id (x := p.1 * f) (by omega) (by omega), wrap_id (x := 100 - r) (by omega) (by omega), wrap_id (x := p.2 * (100 - r)) (by omega) (by omega), wrap_id (x := p.1 * f + p.2 * (100 - r)) (by omega) (by omega), show ((n + 1 : Nat) : Int) - 1 = (n : Int) by omega]
      rw [List.append_assoc] at hk
      exact hk
theorem impl_readyChances_ev (f r : Int) (c : Bool) (hm : machOk f r = true) (n : Nat) (h : n ≤ 5) : Ev (fun k => impl_readyChances.f k f r c (n : Int)) ((begin_ c).1 :: tells f r n (begin_ c)) := by
  have hb := chance_small n h
  cases c with
  | true =>
    have hl := impl_readyChances_l0 f r true hm n (1, 0) [1] (by simp) (by simp) (by simpa using hb) (by simp; omega)
    have hj : Ev (fun k => impl_readyChances.j0 k (n : Int) 1 0 f r true) ((begin_ true).1 :: tells f r n (begin_ true)) := by
      refine Ev.next1 hl fun k hk => ?_
      simp only [impl_readyChances.j0]; exact hk
    exact Ev.of1 hj fun k hk => by simp only [impl_readyChances.f, if_true]; exact hk
  | false =>
    have hl := impl_readyChances_l0 f r false hm n (0, 1) [0] (by simp) (by simp) (by simpa using hb) (by simp; omega)
    have hj : Ev (fun k => impl_readyChances.j0 k (n : Int) 0 1 f r false) ((begin_ false).1 :: tells f r n (begin_ false)) := by
      refine Ev.next1 hl fun k hk => ?_
      simp only [impl_readyChances.j0]; exact hk
    exact Ev.of1 hj fun k hk => by simp only [impl_readyChances.f]; rw [if_neg (by simp)]; exact hk
theorem chance_get (f r : Int) (c : Bool) (n s : Nat) (h : s ≤ n) : ((begin_ c).1 :: tells f r n (begin_ c))[s]? = some (turns f r s (begin_ c)).1 := by
  cases s with
  | zero => rfl
  | succ s => rw [List.getElem?_cons_succ, tells_get f r n _ s (by omega)]
theorem impl_power_l0 : ∀ (n : Nat) (a : Int), n ≤ 100 → 0 ≤ a → a * 100 ^ n ≤ 1000000000000 → Ev (fun k => impl_power.l0 k 100 (n : Int) a) (a * 100 ^ n)
  | 0, a, hn, h0, h => Ev.next0 fun k => by
      simp only [impl_power.l0]
      rw [if_neg (by omega)]; simp
  | n + 1, a, hn, h0, h => by
      have hp := pow_ge n
      have e : a * 100 ^ (n + 1) = a * 100 * 100 ^ n := by rw [Int.pow_succ, Int.mul_assoc, Int.mul_comm 100 (100 ^ n)]
      rw [e] at h ⊢
      have h2 : a * 100 * 1 ≤ a * 100 * 100 ^ n := Int.mul_le_mul_of_nonneg_left hp (by omega)
      refine Ev.next1 (impl_power_l0 n (a * 100) (by omega) (by omega) h) fun k hk => ?_
      simp only [impl_power.l0]
      rw [if_pos (by omega), wrap_id (by omega) (by omega), wrap_id (by omega) (by omega), show ((n + 1 : Nat) : Int) - 1 = (n : Int) by omega]
      exact hk
theorem impl_power_ev (n : Nat) (h : n ≤ 5) : Ev (fun k => impl_power.f k 100 (n : Int)) (100 ^ n) := by
  have hb : (1 : Int) * 100 ^ n ≤ 1000000000000 := by
    rcases (by omega : n = 0 ∨ n = 1 ∨ n = 2 ∨ n = 3 ∨ n = 4 ∨ n = 5) with rfl | rfl | rfl | rfl | rfl | rfl <;> decide
  refine Ev.of1 (impl_power_l0 n 1 (by omega) (by omega) hb) fun k hk => ?_
  simp only [impl_power.f]; rw [hk, Int.one_mul]
theorem impl_abs_eq (a : Int) (h0 : -9223372036854775807 ≤ a) (h1 : a ≤ 9223372036854775807) : impl_abs.f a = some (max a (-a)) := by
  simp only [impl_abs.f, mx_eq]
  rw [wrap_id (by omega) (by omega)]
theorem impl_lowest_l0 (x y : Int) : ∀ (n b a : Nat), b ≤ n → 0 < a + b → Ev (fun k => impl_lowest.l0 k x y (a : Int) (b : Int)) (wrap64 (Int.tdiv x (Nat.gcd a b : Int)), wrap64 (Int.tdiv y (Nat.gcd a b : Int)))
  | n, 0, a, hn, h => Ev.next0 fun k => by
      simp only [impl_lowest.l0, Nat.gcd_zero_right]
      rw [if_pos (by omega), if_neg (by omega)]
  | 0, b + 1, a, hn, h => by omega
  | n + 1, b + 1, a, hn, h => by
      have hlt := Nat.mod_lt a (show 0 < b + 1 by omega)
      refine Ev.next1 (impl_lowest_l0 x y n (a % (b + 1)) (b + 1) (by omega) (by omega)) fun k hk => ?_
      have em : Int.tmod (a : Int) ((b + 1 : Nat) : Int) = ((a % (b + 1) : Nat) : Int) := by
        rw [Int.tmod_eq_emod_of_nonneg (by omega)]; exact (Int.natCast_emod a (b + 1)).symm
      have eg : Nat.gcd a (b + 1) = Nat.gcd (b + 1) (a % (b + 1)) := by
        rw [Nat.gcd_comm a (b + 1), Nat.gcd_rec (b + 1) a, Nat.gcd_comm]
      simp only [impl_lowest.l0]
      rw [if_neg (by omega), em]
      rw [eg]; exact hk
theorem impl_lowest_ev (a b : Int) (ha : 0 ≤ a) (hb : 0 < b) (ha' : a ≤ 4611686018427387904) (hb' : b ≤ 4611686018427387904) : Ev (fun k => impl_lowest.f k a b) (low a b) := by
  have hl := low_bd ha hb
  have h := impl_lowest_l0 a b b.natAbs b.natAbs a.natAbs (by omega) (by omega)
  rw [Int.tdiv_eq_ediv_of_nonneg ha, Int.tdiv_eq_ediv_of_nonneg (by omega)] at h
  have e : (wrap64 (a / (Nat.gcd a.natAbs b.natAbs : Int)), wrap64 (b / (Nat.gcd a.natAbs b.natAbs : Int))) = low a b := by
    rw [show a / (Nat.gcd a.natAbs b.natAbs : Int) = (low a b).1 from rfl, show b / (Nat.gcd a.natAbs b.natAbs : Int) = (low a b).2 from rfl, wrap_id (by omega) (by omega), wrap_id (by omega) (by omega)]
  rw [e] at h
  refine Ev.of1 h fun k hk => ?_
  simp only [impl_lowest.f, impl_abs_eq a (by omega) (by omega), Option.bind_some]
  rw [show ((a.natAbs : Nat) : Int) = max a (-a) by omega, show ((b.natAbs : Nat) : Int) = b by omega] at hk
  exact hk
theorem spec_moPart_l0 (x y : Int) : ∀ (n b a : Nat), b ≤ n → 0 < a + b → Ev (fun k => spec_moPart.l0 k x y (a : Int) (b : Int)) (wrap64 (Int.tdiv x (Nat.gcd a b : Int)), wrap64 (Int.tdiv y (Nat.gcd a b : Int)))
  | n, 0, a, hn, h => Ev.next0 fun k => by
      simp only [spec_moPart.l0, Nat.gcd_zero_right]
      rw [if_neg (by omega), if_neg (by omega)]
  | 0, b + 1, a, hn, h => by omega
  | n + 1, b + 1, a, hn, h => by
      have hlt := Nat.mod_lt a (show 0 < b + 1 by omega)
      refine Ev.next1 (spec_moPart_l0 x y n (a % (b + 1)) (b + 1) (by omega) (by omega)) fun k hk => ?_
      have em : Int.tmod (a : Int) ((b + 1 : Nat) : Int) = ((a % (b + 1) : Nat) : Int) := by
        rw [Int.tmod_eq_emod_of_nonneg (by omega)]; exact (Int.natCast_emod a (b + 1)).symm
      have eg : Nat.gcd a (b + 1) = Nat.gcd (b + 1) (a % (b + 1)) := by
        rw [Nat.gcd_comm a (b + 1), Nat.gcd_rec (b + 1) a, Nat.gcd_comm]
      simp only [spec_moPart.l0]
      rw [if_pos (by omega), if_neg (by omega), em]
      rw [eg]; exact hk
theorem spec_moPart_ev (a b : Int) (ha : 0 ≤ a) (hb : 0 < b) (ha' : a ≤ 4611686018427387904) (hb' : b ≤ 4611686018427387904) : Ev (fun k => spec_moPart.f k a b) (low a b) := by
  have hl := low_bd ha hb
  have h := spec_moPart_l0 a b b.natAbs b.natAbs a.natAbs (by omega) (by omega)
  rw [Int.tdiv_eq_ediv_of_nonneg ha, Int.tdiv_eq_ediv_of_nonneg (by omega)] at h
  have e : (wrap64 (a / (Nat.gcd a.natAbs b.natAbs : Int)), wrap64 (b / (Nat.gcd a.natAbs b.natAbs : Int))) = low a b := by
    rw [show a / (Nat.gcd a.natAbs b.natAbs : Int) = (low a b).1 from rfl, show b / (Nat.gcd a.natAbs b.natAbs : Int) = (low a b).2 from rfl, wrap_id (by omega) (by omega), wrap_id (by omega) (by omega)]
  rw [e] at h
  refine Ev.of1 h fun k hk => ?_
  simp only [spec_moPart.f]
  rw [show ((a.natAbs : Nat) : Int) = a by omega, show ((b.natAbs : Nat) : Int) = b by omega] at hk
  exact hk
def chanceAt (f r : Int) (c : Bool) (s : Nat) : Int := (turns f r s (begin_ c)).1
theorem chanceAt_bd {f r : Int} {c : Bool} (hm : machOk f r = true) (s : Nat) (hs : s ≤ 5) : 0 ≤ chanceAt f r c s ∧ chanceAt f r c s ≤ 100 ^ s := by
  have h := turns_sum hm s (begin_ c) (by cases c <;> decide) (by cases c <;> decide)
  have e : (begin_ c).1 + (begin_ c).2 = 1 := by cases c <;> rfl
  rw [e, Int.one_mul] at h
  unfold chanceAt; omega
theorem small_pow (n : Nat) (h : n ≤ 5) : (100 : Int) ^ n ≤ 10000000000 := by
  rcases (by omega : n = 0 ∨ n = 1 ∨ n = 2 ∨ n = 3 ∨ n = 4 ∨ n = 5) with rfl | rfl | rfl | rfl | rfl | rfl <;> decide
def meanCh (f r : Int) (c : Bool) (n : Int) : Int × Int × Bool := if machOk f r = true ∧ (0 ≤ n ∧ n ≤ 5) then
  ((low (meanSum (chanceAt f r c) (n.toNat - 1) n.toNat) (100 ^ (n.toNat - 1))).1, (low (meanSum (chanceAt f r c) (n.toNat - 1) n.toNat) (100 ^ (n.toNat - 1))).2, true) else (0, 0, false)
theorem mean_low (f r : Int) (c : Bool) (hm : machOk f r = true) (n : Nat) (hn : n ≤ 5) : low (meanSum (chanceAt f r c) 4 n) 100000000 = low (meanSum (chanceAt f r c) (n - 1) n) (100 ^ (n - 1)) := by
  have hb := (meanSum_bd (e := n - 1) (fun s hs => chanceAt_bd (c := c) hm s hs) n (by omega) hn).1
  have hs := meanSum_scale (chanceAt f r c) (n - 1) (4 - (n - 1)) n (by omega)
  rw [show n - 1 + (4 - (n - 1)) = 4 by omega] at hs
  have he : (100000000 : Int) = 100 ^ (n - 1) * 100 ^ (4 - (n - 1)) := by rw [← Int.pow_add, show n - 1 + (4 - (n - 1)) = 4 by omega]; rfl
  rw [hs, he]
  exact low_scale hb.1 (by have := pow_ge (n - 1); omega) (by have := pow_ge (4 - (n - 1)); omega)
theorem spec_MeanReady_l0 (f r : Int) (c : Bool) (hm : machOk f r = true) (n : Nat) (hn : n ≤ 5) : ∀ (d j : Nat), j + d = n → Ev (fun k => spec_MeanReady.l0 k (n : Int) (meanSum (chanceAt f r c) 4 j) j f r c) ((low (meanSum (chanceAt f r c) 4 n) 100000000).1, (low (meanSum (chanceAt f r c) 4 n) 100000000).2, true)
  | 0, j, hd => by
      obtain rfl : j = n := by omega
      have hb := (meanSum_bd (e := 4) (fun s hs => chanceAt_bd (c := c) hm s hs) j (by omega) hn).1
      have h4 : (100 : Int) ^ 4 = 100000000 := by decide
      rw [h4] at hb
      refine Ev.next1 (spec_moPart_ev (meanSum (chanceAt f r c) 4 j) 100000000 hb.1 (by omega) (by omega) (by omega)) fun k hk => ?_
      simp only [spec_MeanReady.l0]
      rw [if_neg (by omega), hk]; rfl
  | d + 1, j, hd => by
      have hq := meanSum_bd (e := 4) (fun s hs => chanceAt_bd (c := c) hm s hs) j (by omega) (by omega)
      have h4 : (100 : Int) ^ 4 = 100000000 := by decide
      have hb := hq.1
      have hc := hq.2 (by omega)
      rw [h4] at hb hc
      have hp := pow_ge j
      have hp4 := pow_ge (4 - j)
      have hs4 := small_pow (4 - j) (by omega)
      refine Ev.next2 (spec_brChance_ev f r c hm j (by omega)) (spec_MeanReady_l0 f r c hm n hn d (j + 1) (by omega)) fun k h1 h2 => ?_
      have hcc : (turns f r j (begin_ c)).1 = chanceAt f r c j := rfl
      simp only [spec_MeanReady.l0, h1, Option.bind_some]
      rw [if_pos (by omega), if_neg (by omega), pow_div j (by omega), wrap_id (x := 100 ^ (4 - j)) (by omega) (by omega), hcc, wrap_id (x := chanceAt f r c j * 100 ^ (4 - j)) (by omega) (by omega), wrap_id (x := meanSum (chanceAt f r c) 4 j + chanceAt f r c j * 100 ^ (4 - j)) (by omega) (by omega), wrap_id (by omega) (by omega)]
      exact h2
theorem spec_MeanReady_no (f r : Int) (c : Bool) (n : Int) : Ev (fun k => spec_MeanReady.j0 k n true f r c) (0, 0, false) := Ev.next0 fun k => by simp [spec_MeanReady.j0]
theorem spec_MeanReady_ev (f r : Int) (c : Bool) (n : Int) : Ev (fun k => spec_MeanReady.f k f r c n) (meanCh f r c n) := by
  by_cases h : machOk f r = true ∧ (0 ≤ n ∧ n ≤ 5)
  · obtain ⟨hm, hn⟩ := h
    have hj : Ev (fun k => spec_MeanReady.j0 k n false f r c) (meanCh f r c n) := by
      refine Ev.next1 (spec_MeanReady_l0 f r c hm n.toNat (by omega) n.toNat 0 (by omega)) fun k hk => ?_
      rw [show ((n.toNat : Nat) : Int) = n by omega, mean_low f r c hm n.toNat (by omega)] at hk
      simp only [spec_MeanReady.j0]
      rw [if_neg (by simp), meanCh, if_pos ⟨hm, hn⟩]; exact hk
    refine Ev.of1 hj fun k hk => ?_
    simp only [spec_MeanReady.f, spec_brGood_eq, spec_l1In_eq, Option.bind_some]
    rw [if_pos hm, show (!decide (0 ≤ n ∧ n ≤ 5)) = false by simp [hn]]; exact hk
  · refine Ev.of1 (spec_MeanReady_no f r c n) fun k hk => ?_
    simp only [spec_MeanReady.f, spec_brGood_eq, spec_l1In_eq, Option.bind_some]
    rw [meanCh, if_neg h]
    by_cases hm : machOk f r = true
    · rw [if_pos hm, show (!decide (0 ≤ n ∧ n ≤ 5)) = true by
        have : ¬ (0 ≤ n ∧ n ≤ 5) := fun q => h ⟨hm, q⟩
        simp [decide_eq_false this]]; exact hk
    · rw [if_neg hm]; exact hk
-- needs: spec_MeanReady
theorem impl_MeanReady_l0 (f r : Int) (c : Bool) (hm : machOk f r = true) (n : Nat) (hn : n ≤ 5) (h1 : 1 ≤ n) : ∀ (d j : Nat), j + d = n → Ev (fun k => impl_MeanReady.l0 k (n : Int) (meanSum (chanceAt f r c) (n - 1) j) ((begin_ c).1 :: tells f r (n - 1) (begin_ c)) (n : Int) j)
    ((low (meanSum (chanceAt f r c) (n - 1) n) (100 ^ (n - 1))).1, (low (meanSum (chanceAt f r c) (n - 1) n) (100 ^ (n - 1))).2, true)
  | 0, j, hd => by
      obtain rfl : j = n := by omega
      have hb := (meanSum_bd (e := j - 1) (fun s hs => chanceAt_bd (c := c) hm s hs) j (by omega) hn).1
      have hp := pow_ge (j - 1)
      have hs := small_pow (j - 1) (by omega)
      have hx : (j : Int) * 100 ^ (j - 1) ≤ 5 * 10000000000 := Int.mul_le_mul (by omega) hs (by omega) (by omega)
      refine Ev.next2 (impl_power_ev (j - 1) (by omega)) (impl_lowest_ev (meanSum (chanceAt f r c) (j - 1) j) (100 ^ (j - 1)) hb.1 (by omega) (by omega) (by omega)) fun k e1 e2 => ?_
      simp only [impl_MeanReady.l0, mx_eq]
      rw [if_neg (by omega), wrap_id (by omega) (by omega), show max 0 ((j : Int) - 1) = ((j - 1 : Nat) : Int) by omega, e1, Option.bind_some, e2]; rfl
  | d + 1, j, hd => by
      have hq := meanSum_bd (e := n - 1) (fun s hs => chanceAt_bd (c := c) hm s hs) j (by omega) (by omega)
      have hb := hq.1
      have hc := hq.2 (by omega)
      have hp := pow_ge (n - 1)
      have hs := small_pow (n - 1) (by omega)
      have hx : (j : Int) * 100 ^ (n - 1) ≤ 5 * 10000000000 := Int.mul_le_mul (by omega) hs (by omega) (by omega)
      have hl : ((begin_ c).1 :: tells f r (n - 1) (begin_ c)).length = n := by simp [tells_length]; omega
      have e := rd_get (chance_get f r c (n - 1) j (by omega))
      refine Ev.next2 (impl_power_ev (n - 1 - j) (by omega)) (impl_MeanReady_l0 f r c hm n hn h1 d (j + 1) (by omega)) fun k e1 e2 => ?_
      have hcc : (turns f r j (begin_ c)).1 = chanceAt f r c j := rfl
      simp only [impl_MeanReady.l0, e]
      rw [if_pos (by omega), if_pos (by omega), if_pos (by omega), wrap_id (x := (n : Int) - 1) (by omega) (by omega), wrap_id (x := (n : Int) - 1 - (j : Int)) (by omega) (by omega), show (n : Int) - 1 - (j : Int) = ((n - 1 - j : Nat) : Int) by omega, e1, Option.bind_some, hcc,
        wrap_id (x := chanceAt f r c j * 100 ^ (n - 1 - j)) (by omega) (by omega), wrap_id (x := meanSum (chanceAt f r c) (n - 1) j + chanceAt f r c j * 100 ^ (n - 1 - j)) (by omega) (by omega), wrap_id (by omega) (by omega)]
      exact e2
theorem impl_MeanReady_no (f r : Int) (c : Bool) (n : Int) : Ev (fun k => impl_MeanReady.j0 k n true f r c) (0, 0, false) := Ev.next0 fun k => by simp [impl_MeanReady.j0]
theorem impl_MeanReady_ev (f r : Int) (c : Bool) (n : Int) : Ev (fun k => impl_MeanReady.f k f r c n) (meanCh f r c n) := by
  by_cases h : machOk f r = true ∧ (0 ≤ n ∧ n ≤ 5)
  · obtain ⟨hm, hn⟩ := h
    have hj : Ev (fun k => impl_MeanReady.j0 k n false f r c) (meanCh f r c n) := by
      by_cases h0 : n = 0
      · subst h0
        refine Ev.next2 (impl_power_ev 0 (by omega)) (impl_lowest_ev 0 (100 ^ 0) (by omega) (by decide) (by omega) (by decide)) fun k e1 e2 => ?_
        simp only [impl_MeanReady.j0, mx_eq]
        rw [if_neg (by simp), if_neg (by omega), wrap_id (by omega) (by omega), show max (0 : Int) (0 - 1) = ((0 : Nat) : Int) by omega, e1, Option.bind_some, e2, meanCh, if_pos ⟨hm, hn⟩]; rfl
      · have hl : ((begin_ c).1 :: tells f r (n.toNat - 1) (begin_ c)).length = n.toNat := by simp [tells_length]; omega
        refine Ev.next2 (impl_readyChances_ev f r c hm (n.toNat - 1) (by omega)) (impl_MeanReady_l0 f r c hm n.toNat (by omega) (by omega) n.toNat 0 (by omega)) fun k e1 e2 => ?_
        simp only [impl_MeanReady.j0]
        rw [if_neg (by simp), if_pos (by omega), wrap_id (by omega) (by omega), show n - 1 = ((n.toNat - 1 : Nat) : Int) by omega, e1, Option.bind_some, hl, meanCh, if_pos ⟨hm, hn⟩]
        rw [show ((n.toNat : Nat) : Int) = n by omega] at e2 ⊢
        exact e2
    refine Ev.of1 hj fun k hk => ?_
    simp only [impl_MeanReady.f, impl_IsMachine_eq, Option.bind_some]
    rw [if_pos hm, if_neg (by omega), show decide (n > 5) = false by simp; omega]; exact hk
  · refine Ev.of1 (impl_MeanReady_no f r c n) fun k hk => ?_
    simp only [impl_MeanReady.f, impl_IsMachine_eq, Option.bind_some]
    rw [meanCh, if_neg h]
    by_cases hm : machOk f r = true
    · rw [if_pos hm]
      by_cases h0 : n < 0
      · rw [if_pos h0]; exact hk
      · rw [if_neg h0, show decide (n > 5) = true by
          have : ¬ (0 ≤ n ∧ n ≤ 5) := fun q => h ⟨hm, q⟩
          simp; omega]; exact hk
    · rw [if_neg hm]; exact hk
def readyCh (f r : Int) (c : Bool) (n : Int) : Int × Int × Bool := if machOk f r = true ∧ (0 ≤ n ∧ n ≤ 4) then ((low (turns f r n.toNat (begin_ c)).1 (100 ^ n.toNat)).1, (low (turns f r n.toNat (begin_ c)).1 (100 ^ n.toNat)).2, true) else (0, 0, false)
theorem turns_bd {f r : Int} {c : Bool} (hm : machOk f r = true) (n : Nat) (hn : n ≤ 5) : 0 ≤ (turns f r n (begin_ c)).1 ∧ (turns f r n (begin_ c)).1 ≤ 100 ^ n ∧ (100 : Int) ^ n ≤ 1000000000000 := by
  have hs := turns_sum hm n (begin_ c) (by cases c <;> decide) (by cases c <;> decide)
  have e : (begin_ c).1 + (begin_ c).2 = 1 := by cases c <;> rfl
  rw [e, Int.one_mul] at hs
  have := chance_small n hn
  omega
theorem spec_ReadyChance_no (f r : Int) (c : Bool) (n : Int) : Ev (fun k => spec_ReadyChance.j0 k n true f r c) (0, 0, false) := Ev.next0 fun k => by simp [spec_ReadyChance.j0]
theorem spec_ReadyChance_ev (f r : Int) (c : Bool) (n : Int) : Ev (fun k => spec_ReadyChance.f k f r c n) (readyCh f r c n) := by
  by_cases h : machOk f r = true ∧ (0 ≤ n ∧ n ≤ 4)
  · obtain ⟨hm, hn⟩ := h
    have tb := turns_bd (c := c) hm n.toNat (by omega)
    have hp := pow_ge n.toNat
    have hj : Ev (fun k => spec_ReadyChance.j0 k n false f r c) (readyCh f r c n) := by
      refine (ev_and (spec_brChance_ev f r c hm n.toNat (by omega)) <| ev_one (spec_moPart_ev (turns f r n.toNat (begin_ c)).1 (100 ^ n.toNat) tb.1 (by omega) (by omega) (by omega))).next fun k ⟨h1, h2⟩ => ?_
      rw [show ((n.toNat : Nat) : Int) = n by omega] at h1
      simp only [spec_ReadyChance.j0, h1, h2, Option.bind_some]
      rw [if_neg (by simp), readyCh, if_pos ⟨hm, hn⟩]
    refine Ev.of1 hj fun k hk => ?_
    simp only [spec_ReadyChance.f, spec_brGood_eq, spec_l1In_eq, Option.bind_some]
    rw [if_pos hm, show (!decide (0 ≤ n ∧ n ≤ 4)) = false by simp [hn]]; exact hk
  · refine Ev.of1 (spec_ReadyChance_no f r c n) fun k hk => ?_
    simp only [spec_ReadyChance.f, spec_brGood_eq, spec_l1In_eq, Option.bind_some]
    rw [readyCh, if_neg h]
    by_cases hm : machOk f r = true
    · rw [if_pos hm, show (!decide (0 ≤ n ∧ n ≤ 4)) = true by
        have : ¬ (0 ≤ n ∧ n ≤ 4) := fun q => h ⟨hm, q⟩
        simp [decide_eq_false this]]; exact hk
    · rw [if_neg hm]; exact hk
-- needs: spec_ReadyChance
theorem impl_ReadyChance_no (f r : Int) (c : Bool) (n : Int) : Ev (fun k => impl_ReadyChance.j0 k n true f r c) (0, 0, false) := Ev.next0 fun k => by simp [impl_ReadyChance.j0]
theorem impl_ReadyChance_ev (f r : Int) (c : Bool) (n : Int) : Ev (fun k => impl_ReadyChance.f k f r c n) (readyCh f r c n) := by
  by_cases h : machOk f r = true ∧ (0 ≤ n ∧ n ≤ 4)
  · obtain ⟨hm, hn⟩ := h
    have tb := turns_bd (c := c) hm n.toNat (by omega)
    have hp := pow_ge n.toNat
    have hj : Ev (fun k => impl_ReadyChance.j0 k n false f r c) (readyCh f r c n) := by
      refine (ev_and (impl_readyChances_ev f r c hm n.toNat (by omega)) <| ev_and (impl_power_ev n.toNat (by omega)) <| ev_one (impl_lowest_ev (turns f r n.toNat (begin_ c)).1 (100 ^ n.toNat) tb.1 (by omega) (by omega) (by omega))).next fun k ⟨h1, h2, h3⟩ => ?_
      have e : rd ((begin_ c).1 :: tells f r n.toNat (begin_ c)) n = (turns f r n.toNat (begin_ c)).1 := by
        have := rd_get (chance_get f r c n.toNat n.toNat (Nat.le_refl _))
        rwa [show ((n.toNat : Nat) : Int) = n by omega] at this
      rw [show ((n.toNat : Nat) : Int) = n by omega] at h1 h2
      simp only [impl_ReadyChance.j0, h1, h2, h3, e, Option.bind_some]
      rw [if_neg (by simp), if_pos (by omega), if_pos (by simp [tells_length]; omega), readyCh, if_pos ⟨hm, hn⟩]
    refine Ev.of1 hj fun k hk => ?_
    simp only [impl_ReadyChance.f, impl_IsMachine_eq, Option.bind_some]
    rw [if_pos hm, if_neg (by omega), show decide (n > 4) = false by simp; omega]; exact hk
  · refine Ev.of1 (impl_ReadyChance_no f r c n) fun k hk => ?_
    simp only [impl_ReadyChance.f, impl_IsMachine_eq, Option.bind_some]
    rw [readyCh, if_neg h]
    by_cases hm : machOk f r = true
    · rw [if_pos hm]
      by_cases h0 : n < 0
      · rw [if_pos h0]; exact hk
      · rw [if_neg h0, show decide (n > 4) = true by
          have : ¬ (0 ≤ n ∧ n ≤ 4) := fun q => h ⟨hm, q⟩
          simp; omega]; exact hk
    · rw [if_neg hm]; exact hk
theorem spec_DrawMixOf_l1 (n : Int) (hn : n ≤ 100) : ∀ (d : Nat) (x : List Int), (n - (x.length : Int)).toNat = d → x.length ≤ 200 → ∃ r, Ev (fun k => spec_DrawMixOf.l1 k x n) r ∧ r.length ≤ 300
  | 0, x, hd, hx => ⟨x, Ev.next0 fun k => by
      simp only [spec_DrawMixOf.l1]
      rw [if_neg (by omega)], by omega⟩
  | d + 1, x, hd, hx => by
      obtain ⟨r, h, hr⟩ := spec_DrawMixOf_l1 n hn d (x ++ [1]) (by simp; omega) (by simp; omega)
      refine ⟨r, Ev.next1 h fun k hk => ?_, hr⟩
      simp only [spec_DrawMixOf.l1]
      rw [if_pos (by omega), if_pos (by omega)]
      exact hk
theorem spec_DrawMixOf_l0 (l : List Int) (hl : ∀ x ∈ l, 0 ≤ x ∧ x ≤ 255) (hn : l.length ≤ 9223372036854775807) : ∀ (d : Nat) (x : List Int) (p s : Int), x.length + d ≤ 100 → 0 ≤ p → p + 2 * (d : Int) ≤ 700000 → ∃ r, Ev (fun k => spec_DrawMixOf.l0 k x (d : Int) l p s) r ∧ r.length ≤ 300
  | 0, x, p, s, hx, h0, h1 => by
      obtain ⟨q, p1, s1, e1, _, b1⟩ := spec_l1Cur_pick_some l hl hn p s h0 (by omega) 20
      by_cases c0 : q = 0
      · obtain ⟨y, p2, s2, e2, b2⟩ := spec_l1Cur_among_some l hl hn p1 s1 (by omega) (by omega) [(-1), 1000000000, 1000000001] (by simp)
        refine ⟨x ++ [y], Ev.next0 fun k => ?_, by simp; omega⟩
        simp only [spec_DrawMixOf.l0, e1, e2, Option.bind_some]
        rw [if_neg (by omega), if_pos c0, if_pos (by omega)]
      by_cases c1 : q = 1
      · obtain ⟨y, p2, s2, e2, b3, b2⟩ := spec_l1Cur_pick_some l hl hn p1 s1 (by omega) (by omega) 3
        have b4 := b3.2 (by omega)
        obtain ⟨r, h, hr⟩ := spec_DrawMixOf_l1 (7 + y) (by omega) _ x rfl (by omega)
        refine ⟨r, Ev.next1 h fun k hk => ?_, hr⟩
        simp only [spec_DrawMixOf.l0, e1, e2, Option.bind_some]
        rw [if_neg (by omega), if_neg c0, if_pos c1, wrap_id (by omega) (by omega)]
        exact hk
      · refine ⟨x, Ev.next0 fun k => ?_, by omega⟩
        simp only [spec_DrawMixOf.l0, e1, Option.bind_some]
        rw [if_neg (by omega), if_neg c0, if_neg c1]
  | d + 1, x, p, s, hx, h0, h1 => by
      obtain ⟨q, p1, s1, e1, _, b1⟩ := spec_l1Cur_pick_some l hl hn p s h0 (by omega) 60000
      obtain ⟨r, h, hr⟩ := spec_DrawMixOf_l0 l hl hn d (x ++ [q]) p1 s1 (by simp; omega) (by omega) (by push_cast at h1; omega)
      refine ⟨r, Ev.next1 h fun k hk => ?_, hr⟩
      simp only [spec_DrawMixOf.l0, e1, Option.bind_some]
      rw [if_pos (by omega), if_pos (by omega), wrap_id (by omega) (by omega), show ((d + 1 : Nat) : Int) - 1 = (d : Int) by omega]
      exact hk
theorem spec_DrawMixOf_some (l : List Int) (hl : ∀ x ∈ l, 0 ≤ x ∧ x ≤ 255) (hn : l.length ≤ 9223372036854775807) : ∃ r, Ev (fun k => spec_DrawMixOf.f k l) r ∧ r.length ≤ 300 := by
  obtain ⟨q, p1, s1, e1, c1, b1⟩ := spec_l1Cur_pick_some l hl hn 0 0 (by omega) (by omega) 6
  have c2 := c1.2 (by omega)
  obtain ⟨d, rfl⟩ := Int.eq_ofNat_of_zero_le c1.1
  obtain ⟨r, h, hr⟩ := spec_DrawMixOf_l0 l hl hn d [] p1 s1 (by simp; omega) (by omega) (by omega)
  refine ⟨r, Ev.of1 h fun k hk => ?_, hr⟩
  simp only [spec_DrawMixOf.f, e1, Option.bind_some]
  exact hk
theorem spec_DrawNumberFor_some (l : List Int) (hl : ∀ x ∈ l, 0 ≤ x ∧ x ≤ 255) (hn : l.length ≤ 9223372036854775807) : ∃ r n, Ev (fun k => spec_DrawNumberFor.f k l) (r, n) ∧ r.length ≤ 300 := by
  obtain ⟨r, h, hr⟩ := spec_DrawMixOf_some l hl hn
  obtain ⟨n, p, s, e, _⟩ := spec_l1Cur_among_some l hl hn 0 0 (by omega) (by omega) [1, 2, 10, 100, 100000, 100001, 0] (by simp)
  refine ⟨r, n, Ev.of1 h fun k hk => ?_, hr⟩
  simp only [spec_DrawNumberFor.f, hk, e, Option.bind_some]
theorem impl_isKeyList_l0 (l : List Int) (hn : l.length ≤ 9223372036854775807) : ∀ (ys : List Int) (i : Nat), l.drop i = ys → Ev (fun k => impl_isKeyList.l0 k l (l.length : Int) i) (allIn 0 1000000000 ys)
  | [], i, h => Ev.next0 fun k => by
      have h0 := drop_nil h
      simp only [impl_isKeyList.l0, allIn]
      rw [if_neg (by omega)]
  | y :: ys, i, h => by
      obtain ⟨h1, h2, h3⟩ := drop_cons h
      refine Ev.next1 (impl_isKeyList_l0 l hn ys (i + 1) h3) fun k hk => ?_
      have e := rd_drop h
      simp only [impl_isKeyList.l0, e]
      rw [if_pos (by omega), if_pos (by omega), if_pos (by omega), wrap_succ h1 hn]
      by_cases hy : 0 ≤ y
      · rw [if_neg (by omega)]
        by_cases hz : y ≤ 1000000000
        · rw [if_neg (by omega), hk]; simp [allIn, hy, hz]
        · rw [if_pos (by omega)]; simp [allIn, hz]
      · rw [if_pos (by omega)]; simp [allIn, hy]
theorem impl_isKeyList_ev (l : List Int) (hn : l.length ≤ 9223372036854775807) : Ev (fun k => impl_isKeyList.f k l) (keyOk l) :=
  Ev.of1 (impl_isKeyList_l0 l hn l 0 rfl) fun k hk => by
    simp only [impl_isKeyList.f, keyOk]
    by_cases h : l.length ≤ 8
    · rw [if_neg (by omega)]; simpa [h] using hk
    · rw [if_pos (by omega)]; simp [h]
theorem impl_NumberFor_ev (l : List Int) (n : Int) (hn : l.length ≤ 9223372036854775807) : Ev (fun k => impl_NumberFor.f k l n) (if keyOk l = true ∧ l.length ≤ 7 ∧ 1 ≤ n ∧ n ≤ 100000 then (Int.tmod (mix (l ++ [n])) n, true) else (0, false)) := by
  by_cases h : keyOk l = true ∧ l.length ≤ 7 ∧ 1 ≤ n ∧ n ≤ 100000
  · obtain ⟨h1, h2, h3, h4⟩ := h
    refine Ev.of2 (impl_isKeyList_ev l hn) (impl_numberFor_ev l n (by omega) (by omega)) fun k e1 e2 => ?_
    simp only [impl_NumberFor.f, e1, e2, Option.bind_some]
    rw [if_pos h1, if_neg (by omega), if_neg (by omega), if_neg (by omega), if_pos ⟨h1, h2, h3, h4⟩]
  · refine Ev.of1 (impl_isKeyList_ev l hn) fun k e1 => ?_
    rw [if_neg h]
    simp only [impl_NumberFor.f, e1, Option.bind_some]
    by_cases h1 : keyOk l = true
    · rw [if_pos h1]
      by_cases h2 : l.length ≤ 7
      · rw [if_neg (by omega)]
        by_cases h3 : 1 ≤ n
        · rw [if_neg (by omega), if_pos]
          by_cases h4 : n ≤ 100000
          · exact absurd ⟨h1, h2, h3, h4⟩ h
          · omega
        · rw [if_pos (by omega)]
      · rw [if_pos (by omega)]
    · rw [if_neg h1]
theorem spec_l1All_l0 (lo hi : Int) (l : List Int) (hn : l.length ≤ 9223372036854775807) : ∀ (ys : List Int) (i : Nat), l.drop i = ys → Ev (fun k => spec_l1All.l0 k lo hi l (l.length : Int) i) (allIn lo hi ys)
  | [], i, h => Ev.next0 fun k => by
      have h0 := drop_nil h
      simp only [spec_l1All.l0, allIn]
      rw [if_neg (by omega)]
  | y :: ys, i, h => by
      obtain ⟨h1, h2, h3⟩ := drop_cons h
      refine Ev.next1 (spec_l1All_l0 lo hi l hn ys (i + 1) h3) fun k hk => ?_
      have e := rd_drop h
      simp only [spec_l1All.l0, e, spec_l1In_eq, Option.bind_some]
      rw [if_pos (by omega), if_pos (by omega), if_pos (by omega), wrap_succ h1 hn]
      by_cases hy : lo ≤ y ∧ y ≤ hi
      · rw [if_pos (decide_eq_true hy), hk]; simp [allIn, hy]
      · rw [if_neg (by simp; omega)]; simp [allIn, hy]
theorem spec_l1All_ev (l : List Int) (lo hi : Int) (hn : l.length ≤ 9223372036854775807) : Ev (fun k => spec_l1All.f k l lo hi) (allIn lo hi l) :=
  Ev.of1 (spec_l1All_l0 lo hi l hn l 0 rfl) fun k hk => by simp only [spec_l1All.f]; exact hk
theorem spec_brKeys_ev (l : List Int) (hn : l.length ≤ 9223372036854775807) : Ev (fun k => spec_brKeys.f k l) (keyOk l) :=
  Ev.of1 (spec_l1All_ev l 0 1000000000 hn) fun k hk => by
    simp only [spec_brKeys.f, hk, Option.bind_some, keyOk]
    by_cases h : l.length ≤ 8
    · rw [if_pos (by omega)]; simp [h]
    · rw [if_neg (by omega)]; simp [h]
theorem spec_NumberFor_ev (l : List Int) (n : Int) (hn : l.length ≤ 9223372036854775807) : Ev (fun k => spec_NumberFor.f k l n) (if keyOk l = true ∧ l.length ≤ 7 ∧ 1 ≤ n ∧ n ≤ 100000 then (Int.tmod (mix (l ++ [n])) n, true) else (0, false)) := by
  by_cases h : keyOk l = true ∧ l.length ≤ 7 ∧ 1 ≤ n ∧ n ≤ 100000
  · obtain ⟨h1, h2, h3, h4⟩ := h
    refine Ev.of2 (spec_brKeys_ev l hn) (spec_brBelow_ev l n (by omega) (by omega)) fun k e1 e2 => ?_
    simp only [spec_NumberFor.f, e1, e2, spec_l1In_eq, Option.bind_some]
    rw [if_pos h1, if_neg (by omega), if_pos (by simp; omega), if_pos ⟨h1, h2, h3, h4⟩]
  · refine Ev.of1 (spec_brKeys_ev l hn) fun k e1 => ?_
    rw [if_neg h]
    simp only [spec_NumberFor.f, e1, spec_l1In_eq, Option.bind_some]
    by_cases h1 : keyOk l = true
    · rw [if_pos h1]
      by_cases h2 : l.length ≤ 7
      · rw [if_neg (by omega), if_neg]
        simp only [decide_eq_true_eq]
        intro h3
        exact h ⟨h1, h2, h3.1, h3.2⟩
      · rw [if_pos (by omega)]
    · rw [if_neg h1]
theorem impl_MixOf_ev (l : List Int) (hn : l.length ≤ 9223372036854775807) : Ev (fun k => impl_MixOf.f k l) (if keyOk l = true then (mix l, true) else (0, false)) := by
  by_cases h : keyOk l = true
  · have h8 : l.length ≤ 8 := by simp [keyOk] at h; exact h.1
    refine Ev.of2 (impl_isKeyList_ev l hn) (impl_mixOf_ev l (by omega)) fun k h1 h2 => ?_
    simp only [impl_MixOf.f, h1, h2, Option.bind_some]
    rw [if_pos h, if_pos h]
  · refine Ev.of1 (impl_isKeyList_ev l hn) fun k h1 => ?_
    simp only [impl_MixOf.f, h1, Option.bind_some]
    rw [if_neg h, if_neg h]
theorem spec_MixOf_ev (l : List Int) (hn : l.length ≤ 9223372036854775807) : Ev (fun k => spec_MixOf.f k l) (if keyOk l = true then (mix l, true) else (0, false)) := by
  by_cases h : keyOk l = true
  · have h8 : l.length ≤ 8 := by simp [keyOk] at h; exact h.1
    refine Ev.of2 (spec_brKeys_ev l hn) (spec_brMix_ev l (by omega)) fun k h1 h2 => ?_
    simp only [spec_MixOf.f, h1, h2, Option.bind_some]
    rw [if_pos h, if_pos h]
  · refine Ev.of1 (spec_brKeys_ev l hn) fun k h1 => ?_
    simp only [spec_MixOf.f, h1, Option.bind_some]
    rw [if_neg h, if_neg h]
theorem laws_qBools_l0 (l : List Bool) (hn : l.length ≤ 1048576) : ∀ (ys : List Bool) (i : Nat), l.drop i = ys → Ev (fun k => laws_qBools.l0 k l l (l.length : Int) i) true
  | [], i, h => Ev.next0 fun k => by
      have h0 := drop_nil h
      simp only [laws_qBools.l0]
      rw [if_neg (by omega)]
  | y :: ys, i, h => by
      obtain ⟨h1, h2, h3⟩ := drop_cons h
      refine Ev.next1 (laws_qBools_l0 l hn ys (i + 1) h3) fun k hk => ?_
      simp only [laws_qBools.l0]
      rw [if_pos (by omega), if_pos (by omega), if_pos (by omega), if_pos (by omega), if_neg (by simp), wrap_succ h1 (by omega)]
      exact hk
theorem laws_qBools_ev (l : List Bool) (hn : l.length ≤ 1048576) : Ev (fun k => laws_qBools.f k l l) true :=
  Ev.of1 (laws_qBools_l0 l hn l 0 rfl) fun k hk => by
    simp only [laws_qBools.f]
    rw [if_pos trivial]
    exact hk
theorem spec_IsMachine_eq (a b : Int) (c : Bool) : spec_IsMachine.f a b c = some (machOk a b) := by
  simp only [spec_IsMachine.f, spec_brGood_eq, Option.bind_some]
theorem impl_ReadyIn_l0 (l : List Bool) (hn : l.length ≤ 4611686018427387904) : ∀ (ys : List Bool) (i : Nat) (a : Int), l.drop i = ys → 0 ≤ a → a ≤ i → Ev (fun k => impl_ReadyIn.l0 k a l (l.length : Int) i) (a + (ys.count true : Int), true)
  | [], i, a, h, h0, ha => Ev.next0 fun k => by
      have := drop_nil h
      simp only [impl_ReadyIn.l0]
      rw [if_neg (by omega)]; simp
  | y :: ys, i, a, h, h0, ha => by
      obtain ⟨h1, h2, h3⟩ := drop_cons h
      have e := rdOf_drop (d := false) h
      cases y with
      | true =>
        refine Ev.next1 (impl_ReadyIn_l0 l hn ys (i + 1) (a + 1) h3 (by omega) (by push_cast; omega)) fun k hk => ?_
        simp only [impl_ReadyIn.l0, e]
        rw [if_pos (by omega), if_pos (by omega), if_pos (by omega), if_pos (by simp), wrap_succ h1 (by omega), wrap_id (by omega) (by omega), hk]
        congr 2; simp; omega
      | false =>
        refine Ev.next1 (impl_ReadyIn_l0 l hn ys (i + 1) a h3 h0 (by push_cast; omega)) fun k hk => ?_
        simp only [impl_ReadyIn.l0, e]
        rw [if_pos (by omega), if_pos (by omega), if_pos (by omega), if_neg (by simp), wrap_succ h1 (by omega), hk]
        simp
theorem impl_ReadyIn_ev (l : List Bool) (hn : l.length ≤ 4611686018427387904) : Ev (fun k => impl_ReadyIn.f k l) (if l.length > 60 then (0, false) else ((l.count true : Int), true)) :=
  Ev.of1 (impl_ReadyIn_l0 l hn l 0 0 rfl (by omega) (by omega)) fun k hk => by
    simp only [impl_ReadyIn.f]
    split
    · rw [if_pos (by omega)]
    · rw [if_neg (by omega)]; simpa using hk
theorem impl_LongestDown_l0 (l : List Bool) (hn : l.length ≤ 4611686018427387904) : ∀ (ys : List Bool) (i : Nat) (m n : Int), l.drop i = ys → 0 ≤ n → n ≤ i → Ev (fun k => impl_LongestDown.l0 k m n l (l.length : Int) i) (down ys m n, true)
  | [], i, m, n, h, h0, ha => Ev.next0 fun k => by
      have := drop_nil h
      simp only [impl_LongestDown.l0, down]
      rw [if_neg (by omega)]
  | y :: ys, i, m, n, h, h0, ha => by
      obtain ⟨h1, h2, h3⟩ := drop_cons h
      have e := rdOf_drop (d := false) h
      cases y with
      | true =>
        refine Ev.next1 (impl_LongestDown_l0 l hn ys (i + 1) (max m 0) 0 h3 (by omega) (by push_cast; omega)) fun k hk => ?_
        simp only [impl_LongestDown.l0, e, mx_eq, down, if_true]
        rw [if_pos (by omega), if_pos (by omega), if_pos (by omega), wrap_succ h1 (by omega)]
        exact hk
      | false =>
        refine Ev.next1 (impl_LongestDown_l0 l hn ys (i + 1) (max m (n + 1)) (n + 1) h3 (by omega) (by push_cast; omega)) fun k hk => ?_
        simp only [impl_LongestDown.l0, e, mx_eq, down]
        rw [if_pos (by omega), if_pos (by omega), if_pos (by omega), if_neg (by simp), wrap_succ h1 (by omega), wrap_id (by omega) (by omega), if_neg (by simp)]
        exact hk
theorem impl_LongestDown_ev (l : List Bool) (hn : l.length ≤ 4611686018427387904) : Ev (fun k => impl_LongestDown.f k l) (if l.length > 60 then (0, false) else (down l 0 0, true)) :=
  Ev.of1 (impl_LongestDown_l0 l hn l 0 0 0 rfl (by omega) (by omega)) fun k hk => by
    simp only [impl_LongestDown.f]
    split
    · rw [if_pos (by omega)]
    · rw [if_neg (by omega)]; exact hk
-- needs: spec_MeanReady
/-! What the laws on machines say of chances and states. -/
theorem low_le_mul {a b k : Int} (ha : 0 ≤ a) (hb : 0 < b) (h : a ≤ k * b) : (low a b).1 ≤ k * (low a b).2 := by
  have p := low_bd ha hb
  generalize (Nat.gcd a.natAbs b.natAbs : Int) = g at p
  have h2 : (low a b).1 * g ≤ (k * (low a b).2) * g := by
    rw [← p.2.2.2.2.2.1, Int.mul_assoc, ← p.2.2.2.2.2.2]; exact h
  exact Int.le_of_mul_le_mul_right h2 (by omega)
theorem chance_step {t w t' x y : Int} (ht : 0 ≤ t) (hw : 0 < w) (ht' : 0 ≤ t') (e : t' = t * x + (w - t) * y) :
    (low t' (w * 100)).1 * (low t w).2 * 100 = (low t' (w * 100)).2 * ((low t w).1 * x + ((low t w).2 - (low t w).1) * y) := by
  have p := low_bd ht hw
  have q := low_bd ht' (show 0 < w * 100 by omega)
  generalize (Nat.gcd t.natAbs w.natAbs : Int) = g at p
  generalize (Nat.gcd t'.natAbs (w * 100).natAbs : Int) = g' at q
  generalize (low t' (w * 100)).1 = A at *
  generalize (low t' (w * 100)).2 = B at *
  generalize (low t w).1 = C at *
  generalize (low t w).2 = D at *
  have e1 : A * g' = t' := q.2.2.2.2.2.1.symm
  have e2 : B * g' = w * 100 := q.2.2.2.2.2.2.symm
  have e3 : C * g = t := p.2.2.2.2.2.1.symm
  have e4 : D * g = w := p.2.2.2.2.2.2.symm
  have hg : g * g' ≠ 0 := Int.mul_ne_zero (by omega) (by omega)
  refine Int.eq_of_mul_eq_mul_right hg ?_
  have l : A * D * 100 * (g * g') = (A * g') * ((D * g) * 100) := by ac_rfl
  have r : B * (C * x + (D - C) * y) * (g * g') = (B * g') * ((C * g) * x + (D * g - C * g) * y) := by
    rw [show (C * g) * x = (C * x) * g by ac_rfl, show (D * g - C * g) * y = ((D - C) * y) * g by rw [← Int.sub_mul]; ac_rfl, ← Int.add_mul]; ac_rfl
  rw [l, r, e1, e2, e3, e4, e, Int.mul_comm]
theorem turns_succ (f r : Int) : ∀ (n : Nat) (p : Int × Int), turns f r (n + 1) p = turn f r (turns f r n p)
  | 0, _ => rfl
  | n + 1, p => by rw [turns, turns_succ f r n, turns]
theorem down_bd : ∀ (l : List Bool) (m n : Int), 0 ≤ n → m ≤ down l m n ∧ down l m n ≤ max m (n + (l.count false : Int))
  | [], m, n, h => by simp [down]; omega
  | true :: bs, m, n, h => by
    have ih := down_bd bs (max m 0) 0 (by omega)
    simp only [down, if_true, List.count_cons]
    simp only [beq_iff_eq, Bool.true_eq_false, if_false, Nat.add_zero, reduceCtorEq]
    omega
  | false :: bs, m, n, h => by
    have ih := down_bd bs (max m (n + 1)) (n + 1) (by omega)
    simp only [down, Bool.false_eq_true, if_false, List.count_cons]
    simp only [beq_self_eq_true, if_true]
    push_cast
    omega
theorem count_len : ∀ l : List Bool, l.count true + l.count false = l.length
  | [] => rfl
  | b :: bs => by
    have ih := count_len bs
    cases b <;> simp [List.count_cons] <;> omega
theorem down_ready (l : List Bool) : 0 ≤ down l 0 0 ∧ (l.count true : Int) + down l 0 0 ≤ (l.length : Int) := by
  have h := down_bd l 0 0 (by omega)
  have c := count_len l
  omega
theorem mixStep_bd {a x : Int} (h0 : 0 ≤ a) (h1 : a ≤ 1000003) (h2 : 0 ≤ x) (h3 : x ≤ 1000000000) : 0 ≤ mixStep a x ∧ mixStep a x ≤ 1000003 := by
  have e1 : wrap64 ((wrap64 ((wrap64 (33 * a)) + x)) + 11) = 33 * a + x + 11 := by
    rw [wrap_id (x := 33 * a) (by omega) (by omega), wrap_id (x := 33 * a + x) (by omega) (by omega), wrap_id (by omega) (by omega)]
  simp only [mixStep, e1]
  rw [Int.tmod_eq_emod_of_nonneg (show 0 ≤ 33 * a + x + 11 by omega)]
  have b := Int.emod_nonneg (33 * a + x + 11) (show (1000003 : Int) ≠ 0 by decide)
  have c := Int.emod_lt_of_pos (33 * a + x + 11) (show (0 : Int) < 1000003 by decide)
  generalize (33 * a + x + 11) % 1000003 = t at b c
  rw [Int.tdiv_eq_ediv_of_nonneg b]
  have d : 0 ≤ t / 16 ∧ t / 16 ≤ 70000 := by omega
  generalize t / 16 = u at d
  rw [wrap_id (x := u) (by omega) (by omega), wrap_id (x := u + 7) (by omega) (by omega)]
  have m1 : 0 ≤ t * (u + 7) := Int.mul_nonneg b (by omega)
  have m2 : t * (u + 7) ≤ 1000003 * 70007 := Int.mul_le_mul (by omega) (by omega) (by omega) (by omega)
  rw [wrap_id (x := t * (u + 7)) (by omega) (by omega), Int.tmod_eq_emod_of_nonneg m1]
  have b' := Int.emod_nonneg (t * (u + 7)) (show (1000003 : Int) ≠ 0 by decide)
  have c' := Int.emod_lt_of_pos (t * (u + 7)) (show (0 : Int) < 1000003 by decide)
  omega
theorem mix_fold : ∀ (l : List Int) (a : Int), 0 ≤ a → a ≤ 1000003 → (∀ x ∈ l, 0 ≤ x ∧ x ≤ 1000000000) → 0 ≤ l.foldl mixStep a
  | [], a, h0, _, _ => h0
  | x :: xs, a, h0, h1, h => by
    have hx := h x (by simp)
    have b := mixStep_bd h0 h1 hx.1 hx.2
    exact mix_fold xs (mixStep a x) b.1 b.2 (fun y hy => h y (by simp [hy]))
theorem mix_nonneg (l : List Int) (hl : l.length ≤ 100) (h : ∀ x ∈ l, 0 ≤ x ∧ x ≤ 1000000000) : 0 ≤ mix l := by
  unfold mix
  rw [wrap_id (by omega) (by omega)]
  refine mix_fold _ _ (by omega) (by omega) (fun x hx => ?_)
  rcases List.mem_append.1 hx with hx | hx
  · exact h x hx
  · simp at hx; omega
theorem states_sure (r key : Int) (hk : 0 ≤ key ∧ key ≤ 1000000000) : ∀ (d : Nat) (s : Int), 0 ≤ s → s + d ≤ 1000000 → states 0 r key d s true = List.replicate d true
  | 0, _, _, _ => rfl
  | d + 1, s, h0, h1 => by
    have m := mix_nonneg [key, s, 3, 100] (by simp) (fun x hx => by simp at hx; omega)
    have c : ¬ (Int.tmod (mix [key, s, 3, 100]) 100 < 0) := by
      rw [Int.tmod_eq_emod_of_nonneg m]; omega
    simp only [states, if_true]
    rw [if_neg c, states_sure r key hk d (s + 1) (by omega) (by push_cast at h1; omega), List.replicate_succ]
-- needs: mach_props
theorem wf_u8 {n : Int} (h : (Lit.int .u8 n).wf = true) : 0 ≤ n ∧ n ≤ 255 := by
  simp [Lit.wf, IntKind.min, IntKind.max, IntKind.signed, IntKind.bits] at h
  omega
theorem laws_j4 (f r : Int) (c : Bool) (key n : Int) : Ev (fun k => laws_FnMachines.j4 k n (statesM f r c key n).1 (statesM f r c key n).2 (statesM f r c key n).1 f r c) true := by
  unfold statesM
  by_cases h : machOk f r = true ∧ (0 ≤ key ∧ key ≤ 1000000000) ∧ (0 ≤ n ∧ n ≤ 60)
  · rw [if_pos h]
    obtain ⟨hm, hk, hn⟩ := h
    have len := states_length f r key n.toNat 0 c
    have dr := down_ready (states f r key n.toNat 0 c)
    have cl : (states f r key n.toNat 0 c).count true ≤ (states f r key n.toNat 0 c).length := List.count_le_length
    have a1 := impl_ReadyIn_ev (states f r key n.toNat 0 c) (by omega)
    have a2 := impl_LongestDown_ev (states f r key n.toNat 0 c) (by omega)
    rw [if_neg (by omega)] at a1 a2
    refine (ev_and a1 <| ev_one a2).next fun k ⟨h1, h2⟩ => ?_
    simp only [laws_FnMachines.j4, h1, h2, Option.bind_some]
    rw [if_pos trivial, if_pos trivial, if_pos trivial, wrap_id (by omega) (by omega), if_neg (by omega), if_pos (by omega)]
    by_cases z : n = 0
    · rw [if_pos z]
    · rw [if_neg z, if_pos (by omega)]
      obtain ⟨d, hd⟩ : ∃ d, n.toNat = d + 1 := ⟨n.toNat - 1, by omega⟩
      have hd0 : rdOf false (states f r key n.toNat 0 c) 0 = c := by rw [hd]; rfl
      rw [hd0, if_pos (by simp)]
      by_cases hf : f > 0
      · rw [if_pos hf]
      · rw [if_neg hf]
        by_cases hc : c = true
        · rw [if_pos hc]
          have f0 : f = 0 := by simp only [machOk, decide_eq_true_eq] at hm; omega
          subst f0
          subst hc
          have sure := states_sure r key hk n.toNat 0 (by omega) (by omega)
          rw [sure, List.count_replicate_self]
          have e : ((n.toNat : Nat) : Int) = n := by omega
          rw [e]
          simp
        · rw [if_neg hc]
  · rw [if_neg h]
    exact Ev.next0 fun k => by simp only [laws_FnMachines.j4]; rw [if_neg (by simp)]
theorem chance_law (f r : Int) (c : Bool) (n : Nat) (hm : machOk f r = true) (hn : n ≤ 3) :
    wrap64 ((wrap64 ((low (turns f r (n + 1) (begin_ c)).1 (100 ^ (n + 1))).1 * (low (turns f r n (begin_ c)).1 (100 ^ n)).2)) * 100) = wrap64 ((low (turns f r (n + 1) (begin_ c)).1 (100 ^ (n + 1))).2 * (wrap64 ((wrap64 ((low (turns f r n (begin_ c)).1 (100 ^ n)).1 * (wrap64 (100 - f)))) + (wrap64 ((wrap64 ((low (turns f r n (begin_ c)).1 (100 ^ n)).2 - (low (turns f r n (begin_ c)).1 (100 ^ n)).1)) * r))))) := by
  have tb := turns_bd (c := c) hm n (by omega)
  have tb' := turns_bd (c := c) hm (n + 1) (by omega)
  have hs := turns_sum hm n (begin_ c) (by cases c <;> decide) (by cases c <;> decide)
  have e : (begin_ c).1 + (begin_ c).2 = 1 := by cases c <;> rfl
  rw [e, Int.one_mul] at hs
  have sx := turns_succ f r n (begin_ c)
  have pw : (100 : Int) ^ (n + 1) = 100 ^ n * 100 := Int.pow_succ 100 n
  have pg := pow_ge n
  have p3 : (100 : Int) ^ n ≤ 1000000 := by rcases (by omega : n = 0 ∨ n = 1 ∨ n = 2 ∨ n = 3) with rfl | rfl | rfl | rfl <;> decide
  have st : (turns f r (n + 1) (begin_ c)).1 = (turns f r n (begin_ c)).1 * (100 - f) + (100 ^ n - (turns f r n (begin_ c)).1) * r := by
    rw [sx, turn, show (100 : Int) ^ n - (turns f r n (begin_ c)).1 = (turns f r n (begin_ c)).2 by omega]
  have step := chance_step (x := 100 - f) (y := r) tb.1 (show (0 : Int) < 100 ^ n by omega) tb'.1 st
  rw [← pw] at step
  have b1 := low_bd tb.1 (show (0 : Int) < 100 ^ n by omega)
  have b2 := low_bd tb'.1 (show (0 : Int) < 100 ^ (n + 1) by omega)
  have le1 : (low (turns f r n (begin_ c)).1 (100 ^ n)).1 ≤ 1 * (low (turns f r n (begin_ c)).1 (100 ^ n)).2 := low_le_mul tb.1 (by omega) (by omega)
  simp only [machOk, decide_eq_true_eq] at hm
  generalize (low (turns f r n (begin_ c)).1 (100 ^ n)).1 = C at *
  generalize (low (turns f r n (begin_ c)).1 (100 ^ n)).2 = E at *
  generalize (low (turns f r (n + 1) (begin_ c)).1 (100 ^ (n + 1))).1 = A at *
  generalize (low (turns f r (n + 1) (begin_ c)).1 (100 ^ (n + 1))).2 = B at *
  have k1 : 0 ≤ A * E ∧ A * E ≤ 100000000 * 1000000 := ⟨Int.mul_nonneg b2.2.1 (by omega), Int.mul_le_mul (by omega) (by omega) (by omega) (by omega)⟩
  have k2 : 0 ≤ C * (100 - f) ∧ C * (100 - f) ≤ 1000000 * 100 := ⟨Int.mul_nonneg b1.2.1 (by omega), Int.mul_le_mul (by omega) (by omega) (by omega) (by omega)⟩
  have k3 : 0 ≤ (E - C) * r ∧ (E - C) * r ≤ 1000000 * 100 := ⟨Int.mul_nonneg (by omega) (by omega), Int.mul_le_mul (by omega) (by omega) (by omega) (by omega)⟩
  have k4 : 0 ≤ B * (C * (100 - f) + (E - C) * r) ∧ B * (C * (100 - f) + (E - C) * r) ≤ 100000000 * 200000000 := ⟨Int.mul_nonneg (by omega) (by omega), Int.mul_le_mul (by omega) (by omega) (by omega) (by omega)⟩
  rw [wrap_id (x := A * E) (by omega) (by omega), wrap_id (x := 100 - f) (by omega) (by omega), wrap_id (x := C * (100 - f)) (by omega) (by omega), wrap_id (x := E - C) (by omega) (by omega), wrap_id (x := (E - C) * r) (by omega) (by omega),
    wrap_id (x := C * (100 - f) + (E - C) * r) (by omega) (by omega), step]
theorem laws_j3 (f r : Int) (c : Bool) (key n : Int) (f' r' : Int) (c' : Bool) (m : Int) (hm : machOk f' r' = true) (h0 : 0 ≤ m ∧ m ≤ 3) :
    Ev (fun k => laws_FnMachines.j3 k n (statesM f r c key n).1 (statesM f r c key n).2 (statesM f r c key n).1 m (low (turns f' r' m.toNat (begin_ c')).1 (100 ^ m.toNat)).1 (low (turns f' r' m.toNat (begin_ c')).1 (100 ^ m.toNat)).2 true f r c f' r' c') true := by
  have e : (m + 1).toNat = m.toNat + 1 := by omega
  have q : readyCh f' r' c' (m + 1) = ((low (turns f' r' (m.toNat + 1) (begin_ c')).1 (100 ^ (m.toNat + 1))).1, (low (turns f' r' (m.toNat + 1) (begin_ c')).1 (100 ^ (m.toNat + 1))).2, true) := by
    rw [readyCh, if_pos ⟨hm, by omega, by omega⟩, e]
  have a1 := impl_ReadyChance_ev f' r' c' (m + 1)
  have a2 := spec_ReadyChance_ev f' r' c' (m + 1)
  rw [q] at a1 a2
  have cl := chance_law f' r' c' m.toNat hm (by omega)
  refine (ev_and a1 <| ev_and a2 <| ev_one (laws_j4 f r c key n)).next fun k ⟨h1, h2, h3⟩ => ?_
  simp only [laws_FnMachines.j3]
  rw [if_pos trivial, wrap_id (x := m + 1) (by omega) (by omega), h1, Option.bind_some, h2, Option.bind_some, if_pos rfl, if_pos rfl, if_pos rfl, if_pos rfl, if_pos cl]
  exact h3
theorem laws_j2 (f r : Int) (c : Bool) (key n : Int) (f' r' : Int) (c' : Bool) (m : Int) :
    Ev (fun k => laws_FnMachines.j2 k n (statesM f r c key n).1 (statesM f r c key n).2 (statesM f r c key n).1 m (readyCh f' r' c' m).2.2 (readyCh f' r' c' m).1 (readyCh f' r' c' m).2.1 false f r c f' r' c') true := by
  unfold readyCh
  have no : ∀ x y : Int, Ev (fun k => laws_FnMachines.j3 k n (statesM f r c key n).1 (statesM f r c key n).2 (statesM f r c key n).1 m x y false f r c f' r' c') true := fun x y => Ev.next1 (laws_j4 f r c key n) fun k hk => by
    simp only [laws_FnMachines.j3]
    rw [if_neg (by simp), hk]
  by_cases h : machOk f' r' = true ∧ (0 ≤ m ∧ m ≤ 4)
  · rw [if_pos h]
    by_cases g : m < 4
    · refine Ev.next1 (laws_j3 f r c key n f' r' c' m h.1 (by omega)) fun k hk => ?_
      simp only [laws_FnMachines.j2]
      rw [if_neg (by simp), if_pos trivial, show decide (m < 4) = true from decide_eq_true g, hk]
    · refine Ev.next1 (no (low (turns f' r' m.toNat (begin_ c')).1 (100 ^ m.toNat)).1 (low (turns f' r' m.toNat (begin_ c')).1 (100 ^ m.toNat)).2) fun k hk => ?_
      simp only [laws_FnMachines.j2]
      rw [if_neg (by simp), if_pos trivial, show decide (m < 4) = false from decide_eq_false g]
      exact hk
  · rw [if_neg h]
    refine Ev.next1 (no 0 0) fun k hk => ?_
    simp only [laws_FnMachines.j2]
    rw [if_neg (by simp), if_neg (by simp)]
    exact hk
theorem ready_law (f r : Int) (c : Bool) (m : Int) (h : (readyCh f r c m).2.2 = true) : ¬ (readyCh f r c m).1 < 0 ∧ ¬ (readyCh f r c m).1 > (readyCh f r c m).2.1 := by
  unfold readyCh at h ⊢
  by_cases g : machOk f r = true ∧ (0 ≤ m ∧ m ≤ 4)
  · rw [if_pos g]
    have tb := turns_bd (c := c) g.1 m.toNat (by omega)
    have pg := pow_ge m.toNat
    have b1 := low_bd tb.1 (show (0 : Int) < 100 ^ m.toNat by omega)
    have le1 : (low (turns f r m.toNat (begin_ c)).1 (100 ^ m.toNat)).1 ≤ 1 * (low (turns f r m.toNat (begin_ c)).1 (100 ^ m.toNat)).2 := low_le_mul tb.1 (by omega) (by omega)
    simp only
    omega
  · rw [if_neg g] at h
    cases h
theorem mean_law (f r : Int) (c : Bool) (m : Int) (h : (meanCh f r c m).2.2 = true) : ¬ (meanCh f r c m).1 < 0 ∧ decide ((meanCh f r c m).1 > wrap64 (m * (meanCh f r c m).2.1)) = false := by
  unfold meanCh at h ⊢
  by_cases g : machOk f r = true ∧ (0 ≤ m ∧ m ≤ 5)
  · rw [if_pos g]
    have pg := pow_ge (m.toNat - 1)
    have ps : (100 : Int) ^ (m.toNat - 1) ≤ 10000000000 := small_pow _ (by omega)
    have mb := (meanSum_bd (e := m.toNat - 1) (fun s hs => chanceAt_bd (c := c) g.1 s hs) m.toNat (by omega) (by omega)).1
    have b1 := low_bd mb.1 (show (0 : Int) < 100 ^ (m.toNat - 1) by omega)
    have e : ((m.toNat : Nat) : Int) = m := by omega
    have le1 : (low (meanSum (chanceAt f r c) (m.toNat - 1) m.toNat) (100 ^ (m.toNat - 1))).1 ≤ m * (low (meanSum (chanceAt f r c) (m.toNat - 1) m.toNat) (100 ^ (m.toNat - 1))).2 := low_le_mul mb.1 (by omega) (by rw [e] at mb; exact mb.2)
    simp only
    generalize (low (meanSum (chanceAt f r c) (m.toNat - 1) m.toNat) (100 ^ (m.toNat - 1))).1 = X at *
    generalize (low (meanSum (chanceAt f r c) (m.toNat - 1) m.toNat) (100 ^ (m.toNat - 1))).2 = Y at *
    have k1 : 0 ≤ m * Y ∧ m * Y ≤ 5 * 10000000000 := ⟨Int.mul_nonneg g.2.1 (by omega), Int.mul_le_mul g.2.2 (by omega) (by omega) (by omega)⟩
    rw [wrap_id (by omega) (by omega)]
    exact ⟨by omega, decide_eq_false (by omega)⟩
  · rw [if_neg g] at h
    cases h
theorem laws_j1 (f r : Int) (c : Bool) (key n : Int) (f' r' : Int) (c' : Bool) (m : Int) :
    Ev (fun k => laws_FnMachines.j1 k n (statesM f r c key n).1 (statesM f r c key n).2 (statesM f r c key n).1 m (meanCh f' r' c' m).2.2 (meanCh f' r' c' m).1 (meanCh f' r' c' m).2.1 (readyCh f' r' c' m).2.2 (readyCh f' r' c' m).1 (readyCh f' r' c' m).2.1 false f r c f' r' c') true := by
  refine Ev.next1 (laws_j2 f r c key n f' r' c' m) fun k hk => ?_
  have rl := ready_law f' r' c' m
  have ml := mean_law f' r' c' m
  simp only [laws_FnMachines.j1]
  rw [if_neg (by simp)]
  by_cases h1 : (readyCh f' r' c' m).2.2 = true
  · rw [if_pos h1, if_neg (rl h1).1, if_neg (rl h1).2]
    by_cases h2 : (meanCh f' r' c' m).2.2 = true
    · rw [if_pos h2, if_neg (ml h2).1, (ml h2).2, hk]
    · rw [if_neg h2, hk]
  · rw [if_neg h1]
    by_cases h2 : (meanCh f' r' c' m).2.2 = true
    · rw [if_pos h2, if_neg (ml h2).1, (ml h2).2, hk]
    · rw [if_neg h2, hk]
theorem number_law (l : List Int) (n : Int) (h : keyOk l = true ∧ l.length ≤ 7 ∧ 1 ≤ n ∧ n ≤ 100000) : 0 ≤ Int.tmod (mix (l ++ [n])) n ∧ Int.tmod (mix (l ++ [n])) n < n := by
  obtain ⟨h1, h2, h3, h4⟩ := h
  simp only [keyOk, Bool.and_eq_true] at h1
  have m := mix_nonneg (l ++ [n]) (by simp; omega) (fun x hx => by
    rcases List.mem_append.1 hx with hx | hx
    · exact allIn_mem h1.2 x hx
    · simp at hx; omega)
  rw [Int.tmod_eq_emod_of_nonneg m]
  exact ⟨Int.emod_nonneg _ (by omega), Int.emod_lt_of_pos _ (by omega)⟩
def numberM (l : List Int) (n : Int) : Int × Bool := if keyOk l = true ∧ l.length ≤ 7 ∧ 1 ≤ n ∧ n ≤ 100000 then (Int.tmod (mix (l ++ [n])) n, true) else (0, false)
theorem number_fact (l : List Int) (n : Int) (h : (numberM l n).2 = true) : ¬ (numberM l n).1 < 0 ∧ decide ((numberM l n).1 ≥ n) = false := by
  unfold numberM at h ⊢
  by_cases g : keyOk l = true ∧ l.length ≤ 7 ∧ 1 ≤ n ∧ n ≤ 100000
  · rw [if_pos g]
    have q := number_law l n g
    simp only
    exact ⟨by omega, decide_eq_false (by omega)⟩
  · rw [if_neg g] at h
    cases h
theorem laws_j0 (f r : Int) (c : Bool) (key n : Int) (f' r' : Int) (c' : Bool) (m : Int) (l : List Int) (b x : Int) (y : Bool) :
    Ev (fun k => laws_FnMachines.j0 k n (statesM f r c key n).1 (statesM f r c key n).2 (statesM f r c key n).1 (statesM f r c key n).2 m (meanCh f' r' c' m).1 (meanCh f' r' c' m).2.1 (meanCh f' r' c' m).2.2 (meanCh f' r' c' m).1 (meanCh f' r' c' m).2.1 (meanCh f' r' c' m).2.2
      (readyCh f' r' c' m).1 (readyCh f' r' c' m).2.1 (readyCh f' r' c' m).2.2 (readyCh f' r' c' m).1 (readyCh f' r' c' m).2.1 (readyCh f' r' c' m).2.2 b (numberM l b).1 (numberM l b).2 (numberM l b).1 (numberM l b).2 x y x y f r c f' r' c') true := by
  have sl : (statesM f r c key n).1.length ≤ 60 := by
    unfold statesM
    split
    · rw [states_length]; omega
    · simp
  have nf := number_fact l b
  refine (ev_and (laws_qBools_ev (statesM f r c key n).1 (by omega)) <| ev_one (laws_j1 f r c key n f' r' c' m)).next fun k ⟨h1, h2⟩ => ?_
  simp only [laws_FnMachines.j0, h1, impl_IsMachine_eq, spec_IsMachine_eq, Option.bind_some]
  rw [if_neg (by simp), if_pos trivial, if_neg (by simp), if_pos trivial, if_pos trivial, if_neg (by simp), if_pos trivial, if_pos trivial, if_neg (by simp), if_pos trivial, if_neg (by simp), if_pos trivial, if_neg (by simp)]
  by_cases g : (numberM l b).2 = true
  · rw [if_pos g, if_neg (nf g).1, (nf g).2, h2]
  · rw [if_neg g, h2]
theorem FnMachines : Stat.FnMachines := by
  intro l0 l1 h0 h1
  refine Ev.rounds ?_
  by_cases hg : wrap64 ((l0.length : Int) + (l1.length : Int)) > 1048576
  · refine Ev.all fun k => ?_
    simp only [laws_FnMachines.f]
    rw [if_pos hg]
  · obtain ⟨f, r, c, key, n, d1⟩ := spec_DrawStatesOf_some l0 (fun x hx => wf_u8 (h0.2 x hx)) h0.1
    obtain ⟨f', r', c', m, d2, m1, m2⟩ := spec_DrawMeanReady_some l1 (fun x hx => wf_u8 (h1.2 x hx)) h1.1
    obtain ⟨l, b, d3, lb⟩ := spec_DrawNumberFor_some l1 (fun x hx => wf_u8 (h1.2 x hx)) h1.1
    have a5 : Ev (fun k => impl_NumberFor.f k l b) (numberM l b) := impl_NumberFor_ev l b (by omega)
    have a6 : Ev (fun k => spec_NumberFor.f k l b) (numberM l b) := spec_NumberFor_ev l b (by omega)
    obtain ⟨x, y, a7, a8⟩ : ∃ x y, Ev (fun k => impl_MixOf.f k l) (x, y) ∧ Ev (fun k => spec_MixOf.f k l) (x, y) := ⟨_, _, impl_MixOf_ev l (by omega), spec_MixOf_ev l (by omega)⟩
    refine (ev_and (impl_StatesOf_ev f r c key n) <| ev_and (spec_StatesOf_ev f r c key n) <| ev_and (impl_MeanReady_ev f' r' c' m) <| ev_and (spec_MeanReady_ev f' r' c' m) <| ev_and (impl_ReadyChance_ev f' r' c' m) <| ev_and (spec_ReadyChance_ev f' r' c' m) <| ev_and d3 <| ev_and a5 <| ev_and a6 <| ev_and a7 <| ev_and a8 <| ev_one (laws_j0 f r c key n f' r' c' m l b x y)).ev
      fun k ⟨e1, e2, e3, e4, e5, e6, e7, e8, e9, e10, e11, e12⟩ => ?_
    simp only [laws_FnMachines.f, d1, d2, e1, e2, e3, e4, e5, e6, e7, e8, e9, e10, e11, Option.bind_some]
    rw [if_neg hg]
    exact e12
end Go.Proofs.Ytccpgcgaaiafnaa.PureFnMachines
namespace Go.Proofs.Ytccpgcgaaiafnaa.Pure
theorem FnMachines : Stat.FnMachines := PureFnMachines.FnMachines
end Go.Proofs.Ytccpgcgaaiafnaa.Pure
