/- The law FnExactSpareMill over numbers and lists: it is true of every input. -/
import Derived.Test.YtagnldmaglbpaaaStatFnExactSpareMill
import Derived.Test.YtagnldmaglbpaaaWMore
set_option linter.unusedVariables false
set_option linter.unusedSimpArgs false
namespace Go.Proofs.Ytagnldmaglbpaaa.Kit
open Go.RowKit Go.Proofs.YtagnldmaglbpaaaW.PrintWords Go.Proofs.YtagnldmaglbpaaaW.PrintMore

/-! ### Rounds -/
theorem Ev.all {α : Type} {g : Nat → Option α} {r : α} (h : ∀ k, g k = some r) : Ev g r := ⟨0, fun k _ => h k⟩
theorem Ev.of1 {α β : Type} {g : Nat → Option α} {f : Nat → Option β} {r : α} {b : β} (h : Ev f b) (k : ∀ k, f k = some b → g k = some r) : Ev g r := by
  obtain ⟨K, h⟩ := h; exact ⟨K, fun n hn => k n (h n hn)⟩
theorem Ev.next0 {α : Type} {g : Nat → Option α} {r : α} (h : ∀ k, g (k + 1) = some r) : Ev g r :=
  ⟨1, fun n hn => by obtain ⟨m, rfl⟩ : ∃ m, n = m + 1 := ⟨n - 1, by omega⟩; exact h m⟩
theorem Ev.next1 {α β : Type} {g : Nat → Option α} {f : Nat → Option β} {r : α} {b : β} (h : Ev f b) (k : ∀ k, f k = some b → g (k + 1) = some r) : Ev g r := by
  obtain ⟨K, h⟩ := h
  exact ⟨K + 1, fun n hn => by obtain ⟨m, rfl⟩ : ∃ m, n = m + 1 := ⟨n - 1, by omega⟩; exact k m (h m (by omega))⟩
theorem Ev.next2 {α β γ : Type} {g : Nat → Option α} {f : Nat → Option β} {f' : Nat → Option γ} {r : α} {b : β} {c : γ} (h : Ev f b) (h' : Ev f' c) (k : ∀ k, f k = some b → f' k = some c → g (k + 1) = some r) : Ev g r := by
  obtain ⟨K, h⟩ := h; obtain ⟨K', h'⟩ := h'
  exact ⟨K + K' + 1, fun n hn => by obtain ⟨m, rfl⟩ : ∃ m, n = m + 1 := ⟨n - 1, by omega⟩; exact k m (h m (by omega)) (h' m (by omega))⟩
/-- From some number of rounds on. -/
def Evt (p : Nat → Prop) : Prop := ∃ K, ∀ k, K ≤ k → p k
theorem ev_one {α : Type} {f : Nat → Option α} {a : α} (h : Ev f a) : Evt (fun k => f k = some a) := h
theorem ev_and {α : Type} {f : Nat → Option α} {a : α} {p : Nat → Prop} (h : Ev f a) (h' : Evt p) : Evt (fun k => f k = some a ∧ p k) := by
  obtain ⟨K, h⟩ := h; obtain ⟨K', h'⟩ := h'; exact ⟨K + K', fun n hn => ⟨h n (by omega), h' n (by omega)⟩⟩
theorem Evt.ev {α : Type} {g : Nat → Option α} {r : α} {p : Nat → Prop} (h : Evt p) (k : ∀ k, p k → g k = some r) : Ev g r := by
  obtain ⟨K, h⟩ := h; exact ⟨K, fun n hn => k n (h n hn)⟩
theorem Evt.next {α : Type} {g : Nat → Option α} {r : α} {p : Nat → Prop} (h : Evt p) (k : ∀ k, p k → g (k + 1) = some r) : Ev g r := by
  obtain ⟨K, h⟩ := h
  exact ⟨K + 1, fun n hn => by obtain ⟨m, rfl⟩ : ∃ m, n = m + 1 := ⟨n - 1, by omega⟩; exact k m (h m (by omega))⟩

/-! ### Whole numbers -/
theorem wrap_id {x : Int} (h0 : -9223372036854775808 ≤ x) (h1 : x ≤ 9223372036854775807) : wrap64 x = x := by unfold wrap64; omega
theorem wrap_succ {i n : Nat} (h : i < n) (hn : n ≤ 9223372036854775807) : wrap64 ((i : Int) + 1) = ((i + 1 : Nat) : Int) := by unfold wrap64; omega
theorem toNat_cast (i : Nat) : ((i : Int)).toNat = i := by omega

/-! ### Lists from an index on -/
theorem drop_cons {α : Type} {xs ys : List α} {y : α} {i : Nat} (h : xs.drop i = y :: ys) : i < xs.length ∧ xs[i]? = some y ∧ xs.drop (i + 1) = ys := by
  have hlt : i < xs.length := by
    by_cases hlt : i < xs.length
    · exact hlt
    · rw [List.drop_of_length_le (by omega)] at h; cases h
  rw [List.drop_eq_getElem_cons hlt] at h
  injection h with h1 h2
  exact ⟨hlt, by rw [List.getElem?_eq_getElem hlt, h1], h2⟩
theorem drop_nil {α : Type} {xs : List α} {i : Nat} (h : xs.drop i = []) : xs.length ≤ i := by simpa using h
theorem getD_drop {α : Type} {xs ys : List α} {y d : α} {i : Nat} (h : xs.drop i = y :: ys) : xs.getD ((i : Int)).toNat d = y := by
  rw [toNat_cast, List.getD_eq_getElem?_getD, (drop_cons h).2.1]; rfl
theorem rd_drop {xs ys : List Int} {y : Int} {i : Nat} (h : xs.drop i = y :: ys) : rd xs (i : Int) = y := getD_drop h
theorem getD_get {α : Type} {xs : List α} {y d : α} {i : Nat} (h : xs[i]? = some y) : xs.getD ((i : Int)).toNat d = y := by
  rw [toNat_cast, List.getD_eq_getElem?_getD, h]; rfl
theorem rd_get {xs : List Int} {y : Int} {i : Nat} (h : xs[i]? = some y) : rd xs (i : Int) = y := getD_get h
/-- What is left of a, n taken off; -1 if it isn't enough. -/
def left (a : Int) (n : Nat) : Int := if a < (n : Int) then -1 else a - (n : Int)
theorem left_lt {a : Int} {n : Nat} (h : a < (n : Int)) : left a n = -1 := if_pos h
theorem left_ge {a : Int} {n : Nat} (h : (n : Int) ≤ a) : left a n = a - (n : Int) := if_neg (by omega)
/-- How many values rows hold, the rows counted too. -/
def tot : List (List Int) → Nat
  | [] => 0
  | y :: ys => 1 + y.length + tot ys
def sumLen : List (List Int) → Nat
  | [] => 0
  | y :: ys => y.length + sumLen ys
theorem tot_eq : ∀ ls : List (List Int), tot ls = ls.length + sumLen ls
  | [] => rfl
  | y :: ys => by simp only [tot, sumLen, List.length_cons, tot_eq ys]; omega
theorem sumLen_mem : ∀ {ls : List (List Int)} {y : List Int}, y ∈ ls → y.length ≤ sumLen ls
  | z :: zs, y, h => by
    rcases List.mem_cons.1 h with rfl | h
    · simp only [sumLen]; omega
    · have := sumLen_mem h; simp only [sumLen]; omega

/-! ### A list that is copied, element for element -/
theorem copy_step {α : Type} {m x : List α} {y : α} {i : Nat} (hm : m[i]? = some y) (hl : x.length = m.length) (ht : x.take i = m.take i) : (x.set i y).length = m.length ∧ (x.set i y).take (i + 1) = m.take (i + 1) := by
  obtain ⟨hi, rfl⟩ := List.getElem?_eq_some_iff.1 hm
  refine ⟨by simpa using hl, ?_⟩
  apply List.ext_getElem?
  intro j
  have hj : (x.take i)[j]? = (m.take i)[j]? := by rw [ht]
  rw [List.getElem?_take, List.getElem?_take] at *
  by_cases h1 : j < i + 1
  · rw [if_pos h1, if_pos h1]
    by_cases h2 : j = i
    · subst h2
      rw [List.getElem?_set_self (by omega), List.getElem?_eq_getElem hi]
    · rw [List.getElem?_set_ne (by omega)]
      rw [if_pos (by omega), if_pos (by omega)] at hj
      exact hj
  · rw [if_neg h1, if_neg h1]
theorem copy_end {α : Type} {m x : List α} {i : Nat} (hl : x.length = m.length) (ht : x.take i = m.take i) (hi : m.length ≤ i) : x = m := by
  rw [List.take_of_length_le (by omega), List.take_of_length_le hi] at ht; exact ht

/-! ### Strictly increasing lists of 0..n-1 -/
def rise (n : Int) : Int → List Int → Bool
  | _, [] => true
  | p, y :: ys => decide (0 ≤ y ∧ y < n ∧ p < y) && rise n y ys
/-! ### Numbers marked and held -/
def markI : Nat → Int → List Int
  | 0, _ => []
  | n + 1, k => k :: markI n (k + 1)
theorem markI_length : ∀ (n : Nat) (k : Int), (markI n k).length = n
  | 0, _ => rfl
  | n + 1, k => by simp [markI, markI_length n (k + 1)]
theorem markI_get : ∀ (n : Nat) (k : Int) (j : Nat), j < n → (markI n k)[j]? = some (k + j)
  | 0, _, _, h => by omega
  | n + 1, k, 0, _ => by simp [markI]
  | n + 1, k, j + 1, h => by simp only [markI, List.getElem?_cons_succ]; rw [markI_get n (k + 1) j (by omega)]; congr 1; push_cast; omega
end Go.Proofs.Ytagnldmaglbpaaa.Kit
namespace Go.Proofs.Ytagnldmaglbpaaa.Model
open Go.RowKit Go.Proofs.YtagnldmaglbpaaaW.PrintWords Go.Proofs.Ytagnldmaglbpaaa.Kit

/-- Numbers within bounds, all of them. -/
def allIn (lo hi : Int) : List Int → Bool
  | [] => true
  | y :: ys => decide (lo ≤ y ∧ y ≤ hi) && allIn lo hi ys
def rowOk (l : List Int) : Bool := decide (l.length = 12) && allIn 0 100000000000 l
def rowsOk : List (List Int) → Bool
  | [] => true
  | y :: ys => rowOk y && rowsOk ys
theorem rowsOk_mem : ∀ {ls : List (List Int)}, rowsOk ls = true → ∀ y ∈ ls, rowOk y = true
  | z :: zs, h, y, hy => by
    simp only [rowsOk, Bool.and_eq_true] at h
    rcases List.mem_cons.1 hy with rfl | hy
    · exact h.1
    · exact rowsOk_mem h.2 y hy
theorem row_len {y : List Int} (h : rowOk y = true) : y.length = 12 := by simp [rowOk] at h; exact h.1
end Go.Proofs.Ytagnldmaglbpaaa.Model
namespace Go.Proofs.Ytagnldmaglbpaaa.PureFnExactSpareMill
open Go.RowKit Go.Proofs.Ytagnldmaglbpaaa.PFnExactSpareMill Go.Proofs.YtagnldmaglbpaaaW.PrintWords Go.Proofs.YtagnldmaglbpaaaW.PrintLast Go.Proofs.YtagnldmaglbpaaaW.PrintMore Go.Proofs.Ytagnldmaglbpaaa.Kit Go.Proofs.Ytagnldmaglbpaaa.Model
theorem laws_szIntS_eq (l : List Int) (a : Int) (h0 : 0 ≤ a) (ha : a ≤ 1048576) (hn : l.length ≤ 9223372036854775807) : laws_szIntS.f l a = some (if a < l.length then -1 else a - l.length) := by
  simp only [laws_szIntS.f]
  rw [wrap_id (by omega) (by omega)]
  split
  · rw [if_pos (by omega)]
  · rw [if_neg (by omega)]
theorem laws_szIntSS_l0 (l : List (List Int)) (hn : l.length ≤ 9223372036854775807) (hl : ∀ y ∈ l, y.length ≤ 9223372036854775807) : ∀ (ys : List (List Int)) (i : Nat) (a : Int), l.drop i = ys → 0 ≤ a → a ≤ 1048576 → Ev (fun k => laws_szIntSS.l0 k l a i) (left a (sumLen ys))
  | [], i, a, h, h0, ha => Ev.next0 fun k => by
      have := drop_nil h
      simp only [laws_szIntSS.l0]
      rw [if_neg (by omega), left_ge (by show ((0 : Nat) : Int) ≤ a; omega)]
      congr 1; show a = a - ((0 : Nat) : Int); omega
  | y :: ys, i, a, h, h0, ha => by
      obtain ⟨h1, h2, h3⟩ := drop_cons h
      have e : rd_L1 l i = y := getD_drop h
      have e2 := laws_szIntS_eq y a h0 ha (hl y (List.mem_of_getElem? h2))
      have hs : sumLen (y :: ys) = y.length + sumLen ys := rfl
      by_cases hy : a < (y.length : Int)
      · refine Ev.next0 fun k => ?_
        simp only [laws_szIntSS.l0, e, e2, Option.bind_some]
        rw [if_pos (by omega), if_pos (by omega), if_pos hy, if_pos (by omega), left_lt (by omega)]
      · refine Ev.next1 (laws_szIntSS_l0 l hn hl ys (i + 1) (a - y.length) h3 (by omega) (by omega)) fun k hk => ?_
        simp only [laws_szIntSS.l0, e, e2, Option.bind_some]
        rw [if_pos (by omega), if_pos (by omega), if_neg hy, if_neg (by omega), wrap_succ h1 hn, hk]
        congr 1
        by_cases hq : a - (y.length : Int) < (sumLen ys : Int)
        · rw [left_lt hq, left_lt (by omega)]
        · rw [left_ge (by omega), left_ge (by omega)]; omega
theorem laws_szIntSS_ev (l : List (List Int)) (a : Int) (hn : l.length ≤ 9223372036854775807) (hl : ∀ y ∈ l, y.length ≤ 9223372036854775807) (h0 : 0 ≤ a) (ha : a ≤ 1048576) : Ev (fun k => laws_szIntSS.f k l a) (left a (tot l)) := by
  have ht := tot_eq l
  by_cases h : a < (l.length : Int)
  · refine Ev.all fun k => ?_
    simp only [laws_szIntSS.f]
    rw [wrap_id (by omega) (by omega), if_pos (by omega), left_lt (by omega)]
  · refine Ev.of1 (laws_szIntSS_l0 l hn hl l 0 (a - l.length) rfl (by omega) (by omega)) fun k hk => ?_
    simp only [laws_szIntSS.f]
    rw [wrap_id (by omega) (by omega), if_neg (by omega)]
    refine hk.trans ?_
    congr 1
    by_cases hq : a < (tot l : Int)
    · rw [left_lt (by omega), left_lt hq]
    · rw [left_ge (by omega), left_ge (by omega)]; omega
theorem laws_szJob_ev (m : List (List Int)) (t v : List Int) (a b c d e : Int) (n : Int) (hm : m.length ≤ 9223372036854775807) (hl : ∀ y ∈ m, y.length ≤ 9223372036854775807) (ht : t.length ≤ 9223372036854775807) (hv : v.length ≤ 9223372036854775807) (h0 : 0 ≤ n) (hn : n ≤ 1048576) : Ev (fun k => laws_szJob.f k m t v a b c d e n) (left n (tot m + t.length + v.length)) := by
  refine Ev.of1 (laws_szIntSS_ev m n hm hl h0 hn) fun k hk => ?_
  simp only [laws_szJob.f, hk, Option.bind_some]
  by_cases h1 : n < (tot m : Int)
  · rw [left_lt h1, if_pos (by omega), left_lt (by omega)]
  · rw [left_ge (by omega), if_neg (by omega), laws_szIntS_eq t _ (by omega) (by omega) ht, Option.bind_some]
    by_cases h2 : n - (tot m : Int) < (t.length : Int)
    · rw [if_pos h2, if_pos (by omega), left_lt (by omega)]
    · rw [if_neg h2, if_neg (by omega), laws_szIntS_eq v _ (by omega) (by omega) hv, Option.bind_some]
      by_cases h3 : n - (tot m : Int) - (t.length : Int) < (v.length : Int)
      · rw [if_pos h3, if_pos (by omega), left_lt (by omega)]
      · rw [if_neg h3, if_neg (by omega), left_ge (by omega)]; congr 1; omega
theorem laws_toIntS_l0 (l : List Int) (hn : l.length ≤ 9223372036854775807) : ∀ (ys : List Int) (i : Nat) (x : List Int), l.drop i = ys → x.length = l.length → x.take i = l.take i → Ev (fun k => laws_toIntS.l0 k l x i) l
  | [], i, x, h, hl, ht => Ev.next0 fun k => by
      have h0 := drop_nil h
      have h1 : l.length = l.length := by simp
      simp only [laws_toIntS.l0]
      rw [if_neg (by omega), copy_end hl ht (by omega)]
  | y :: ys, i, x, h, hl, ht => by
      obtain ⟨h1, h2, h3⟩ := drop_cons h
      have hm : l.length = l.length := by simp
      have hg : l[i]? = some y := by simp [h2]
      obtain ⟨c1, c2⟩ := copy_step hg hl ht
      refine Ev.next1 (laws_toIntS_l0 l hn ys (i + 1) (x.set i y) h3 c1 c2) fun k hk => ?_
      have e := rd_drop h
      simp only [laws_toIntS.l0, e, Option.bind_some]
      rw [if_pos (by omega), if_pos (by omega), if_pos (by omega), wrap_succ h1 hn, toNat_cast]
      exact hk
theorem laws_toIntS_ev (l : List Int) (hn : l.length ≤ 35184372088832) : Ev (fun k => laws_toIntS.f k l) l :=
  Ev.of1 (laws_toIntS_l0 l (by omega) l 0 (List.replicate ((l.length : Int)).toNat 0) rfl (by simp) rfl) fun k hk => by
    simp only [laws_toIntS.f]
    rw [if_pos (by omega), if_pos (by omega)]
    exact hk
theorem laws_toIntSS_l0 (l : List (List Int)) (hn : l.length ≤ 1048576) (hl : ∀ y ∈ l, y.length ≤ 1048576) : ∀ (ys : List (List Int)) (i : Nat) (x : List (List Int)), l.drop i = ys → x.length = l.length → x.take i = l.take i → Ev (fun k => laws_toIntSS.l0 k l x i) l
  | [], i, x, h, hl', ht => Ev.next0 fun k => by
      have h0 := drop_nil h
      simp only [laws_toIntSS.l0]
      rw [if_neg (by omega), copy_end hl' ht (by omega)]
  | y :: ys, i, x, h, hl', ht => by
      obtain ⟨h1, h2, h3⟩ := drop_cons h
      obtain ⟨c1, c2⟩ := copy_step h2 hl' ht
      have hy := hl y (List.mem_of_getElem? h2)
      refine Ev.next2 (laws_toIntSS_l0 l hn hl ys (i + 1) (x.set i y) h3 c1 c2) (laws_toIntS_ev y (by omega)) fun k hk hk2 => ?_
      have e : rd_L1 l i = y := getD_drop h
      simp only [laws_toIntSS.l0, e, hk2, Option.bind_some]
      rw [if_pos (by omega), if_pos (by omega), if_pos (by omega), wrap_succ h1 (by omega), toNat_cast]
      exact hk
theorem laws_toIntSS_ev (l : List (List Int)) (hn : l.length ≤ 1048576) (hl : ∀ y ∈ l, y.length ≤ 1048576) : Ev (fun k => laws_toIntSS.f k l) l :=
  Ev.of1 (laws_toIntSS_l0 l hn hl l 0 (List.replicate ((l.length : Int)).toNat []) rfl (by simp) rfl) fun k hk => by
    simp only [laws_toIntSS.f]
    rw [if_pos (by omega), if_pos (by omega)]
    exact hk
theorem laws_toJob_ev (m : List (List Int)) (t v : List Int) (a b c d e : Int) (hm : m.length ≤ 1048576) (hl : ∀ y ∈ m, y.length ≤ 1048576) (ht : t.length ≤ 1048576) (hv : v.length ≤ 1048576) : Ev (fun k => laws_toJob.f k m t v a b c d e) (m, t, v, a, b, c, d, e) :=
  (ev_and (laws_toIntSS_ev m hm hl) <| ev_and (laws_toIntS_ev t (by omega)) <| ev_one (laws_toIntS_ev v (by omega))).ev fun k ⟨h1, h2, h3⟩ => by
    simp only [laws_toJob.f, laws_toLimits.f, h1, h2, h3, Option.bind_some]
theorem laws_eqIntS_l0 (l : List Int) (hn : l.length ≤ 9223372036854775807) : ∀ (ys : List Int) (i : Nat), l.drop i = ys → Ev (fun k => laws_eqIntS.l0 k l l i) true
  | [], i, h => Ev.next0 fun k => by
      have h0 := drop_nil h
      simp only [laws_eqIntS.l0]
      rw [if_neg (by omega)]
  | y :: ys, i, h => by
      obtain ⟨h1, h2, h3⟩ := drop_cons h
      refine Ev.next1 (laws_eqIntS_l0 l hn ys (i + 1) h3) fun k hk => ?_
      have e := rd_drop h
      simp only [laws_eqIntS.l0, e]
      rw [if_pos (by omega), if_pos (by omega), if_pos (by omega), if_pos (by simp), wrap_succ h1 hn]
      exact hk
theorem laws_eqIntS_ev (l : List Int) (hn : l.length ≤ 9223372036854775807) : Ev (fun k => laws_eqIntS.f k l l) true :=
  Ev.of1 (laws_eqIntS_l0 l hn l 0 rfl) fun k hk => by
    simp only [laws_eqIntS.f]
    rw [if_pos (by simp)]
    exact hk
theorem laws_eqIntSS_l0 (l : List (List Int)) (hn : l.length ≤ 1048576) (hl : ∀ y ∈ l, y.length ≤ 1048576) : ∀ (ys : List (List Int)) (i : Nat), l.drop i = ys → Ev (fun k => laws_eqIntSS.l0 k l l i) true
  | [], i, h => Ev.next0 fun k => by
      have h0 := drop_nil h
      simp only [laws_eqIntSS.l0]
      rw [if_neg (by omega)]
  | y :: ys, i, h => by
      obtain ⟨h1, h2, h3⟩ := drop_cons h
      have hy := hl y (List.mem_of_getElem? h2)
      refine Ev.next2 (laws_eqIntSS_l0 l hn hl ys (i + 1) h3) (laws_eqIntS_ev y (by omega)) fun k hk hk2 => ?_
      have e : rd_L1 l i = y := getD_drop h
      simp only [laws_eqIntSS.l0, e, hk2, Option.bind_some]
      rw [if_pos (by omega), if_pos (by omega), if_pos (by omega), if_pos (by simp), wrap_succ h1 (by omega)]
      exact hk
theorem laws_eqIntSS_ev (l : List (List Int)) (hn : l.length ≤ 1048576) (hl : ∀ y ∈ l, y.length ≤ 1048576) : Ev (fun k => laws_eqIntSS.f k l l) true :=
  Ev.of1 (laws_eqIntSS_l0 l hn hl l 0 rfl) fun k hk => by
    simp only [laws_eqIntSS.f]
    rw [if_pos (by simp)]
    exact hk
theorem laws_eqJob_ev (m : List (List Int)) (t v : List Int) (a b c d e : Int) (hm : m.length ≤ 1048576) (hl : ∀ y ∈ m, y.length ≤ 1048576) (ht : t.length ≤ 1048576) (hv : v.length ≤ 1048576) : Ev (fun k => laws_eqJob.f k m t v a b c d e m t v a b c d e) true :=
  (ev_and (laws_eqIntSS_ev m hm hl) <| ev_and (laws_eqIntS_ev t (by omega)) <| ev_one (laws_eqIntS_ev v (by omega))).ev fun k ⟨h1, h2, h3⟩ => by
    simp [laws_eqJob.f, laws_eqLimits.f, h1, h2, h3]
theorem laws_markIntS_l0 (n : Nat) (c : Int) (hc : 0 ≤ c) (hb : c + n ≤ 9223372036854775807) : ∀ (d i : Nat) (x : List Int), i + d = n → x.length = n → x.take i = (markI n c).take i → Ev (fun k => laws_markIntS.l0 k x (c + (i : Int)) i) (c + (n : Int), markI n c)
  | 0, i, x, hd, hl, ht => Ev.next0 fun k => by
      simp only [laws_markIntS.l0]
      rw [if_neg (by omega), copy_end (by rw [hl, markI_length]) ht (by rw [markI_length]; omega), show i = n by omega]
  | d + 1, i, x, hd, hl, ht => by
      obtain ⟨c1, c2⟩ := copy_step (markI_get n c i (by omega)) (by rw [hl, markI_length]) ht
      refine Ev.next1 (laws_markIntS_l0 n c hc hb d (i + 1) _ (by omega) (by rw [c1, markI_length]) c2) fun k hk => ?_
      simp only [laws_markIntS.l0]
      rw [if_pos (by omega), if_pos (by omega), wrap_succ (n := n) (by omega) (by omega), wrap_id (by omega) (by omega), toNat_cast, show c + (i : Int) + 1 = c + ((i + 1 : Nat) : Int) by push_cast; omega]
      exact hk
theorem laws_markIntS_ev (x : List Int) (c : Int) (hc : 0 ≤ c) (hb : c + x.length ≤ 9223372036854775807) : Ev (fun k => laws_markIntS.f k x c) (c + (x.length : Int), markI x.length c) :=
  Ev.of1 (laws_markIntS_l0 x.length c hc hb x.length 0 x (by omega) rfl rfl) fun k hk => by
    simp only [laws_markIntS.f]
    rw [show c + ((0 : Nat) : Int) = c by omega] at hk
    exact hk
def markRows : List (List Int) → Int → List (List Int)
  | [], _ => []
  | y :: ys, c => markI y.length c :: markRows ys (c + (y.length : Int))
theorem take_set1 {α : Type} (x : List α) (i : Nat) (m : α) (h : i < x.length) : (x.set i m).take (i + 1) = x.take i ++ [m] := by
  apply List.ext_getElem?
  intro j
  rcases Nat.lt_trichotomy j i with hj | hj | hj
  · rw [List.getElem?_take_of_lt (by omega), List.getElem?_set_ne (by omega), List.getElem?_append_left (by simp; omega), List.getElem?_take_of_lt hj]
  · subst hj
    rw [List.getElem?_take_of_lt (by omega), List.getElem?_set_self h, List.getElem?_append_right (by simp; omega)]
    simp [Nat.min_eq_left (Nat.le_of_lt h)]
  · rw [List.getElem?_eq_none (by simp; omega), List.getElem?_eq_none (by simp; omega)]
theorem drop_set1 {α : Type} (a : List α) (i : Nat) (v : α) : (a.set i v).drop (i + 1) = a.drop (i + 1) := by
  apply List.ext_getElem?
  intro j
  rw [List.getElem?_drop, List.getElem?_drop, List.getElem?_set_ne (by omega)]
-- needs: mark_rows
theorem laws_markIntSS_x0 : ∀ (ys x : List (List Int)) (i : Nat) (c : Int), x.drop i = ys → x.length ≤ 1048576 → 0 ≤ c → c + (sumLen ys : Int) ≤ 4611686018427387904 → Ev (fun k => laws_markIntSS.l0 k x c i) (c + (sumLen ys : Int), x.take i ++ markRows ys c)
  | [], x, i, c, h, hn, hc, hb => Ev.next0 fun k => by
      have h0 := drop_nil h
      simp only [laws_markIntSS.l0, sumLen, markRows, List.append_nil]
      rw [if_neg (by omega), show c + ((0 : Nat) : Int) = c by omega, List.take_of_length_le h0]
  | y :: ys, x, i, c, h, hn, hc, hb => by
      obtain ⟨h1, h2, h3⟩ := drop_cons h
      simp only [sumLen] at hb ⊢
      have hd : (x.set i (markI y.length c)).drop (i + 1) = ys := by rw [drop_set1, h3]
      have ih := laws_markIntSS_x0 ys (x.set i (markI y.length c)) (i + 1) (c + (y.length : Int)) hd (by simpa using hn) (by omega) (by push_cast at hb; omega)
      have hm := laws_markIntS_ev y c hc (by push_cast at hb; omega)
      rw [show c + (y.length : Int) + (sumLen ys : Int) = c + ((y.length + sumLen ys : Nat) : Int) by push_cast; omega, take_set1 x i _ h1, List.append_assoc] at ih
      refine Ev.next2 hm ih fun k k1 k2 => ?_
      have e : rd_L1 x i = y := getD_drop h
      simp only [laws_markIntSS.l0, e, k1, Option.bind_some]
      rw [if_pos (by omega), if_pos (by omega), wrap_succ h1 (by omega), toNat_cast]
      exact k2
theorem laws_markIntSS_pv (l : List (List Int)) (c : Int) (hn : l.length ≤ 1048576) (hc : 0 ≤ c) (hb : c + (sumLen l : Int) ≤ 4611686018427387904) : Ev (fun k => laws_markIntSS.p k l c) (c + (sumLen l : Int), markRows l c) :=
  Ev.of1 (laws_markIntSS_x0 l l 0 c rfl hn hc hb) fun k hk => by
    simp only [laws_markIntSS.p]
    rw [show ((0 : Nat) : Int) = 0 from rfl, List.take_zero, List.nil_append] at hk
    exact hk
theorem laws_markJob_ev (m : List (List Int)) (t v : List Int) (a b c d e : Int) (q : Int) (hm : m.length ≤ 1048576) (ht : t.length ≤ 1048576) (hv : v.length ≤ 1048576) (hq : 0 ≤ q) (hb : q + (sumLen m : Int) ≤ 4611686018427387904) : Ev (fun k => laws_markJob.f k m t v a b c d e q) (q + (sumLen m : Int) + (t.length : Int) + (v.length : Int), markRows m q, markI t.length (q + (sumLen m : Int)), markI v.length (q + (sumLen m : Int) + (t.length : Int))) :=
  (ev_and (laws_markIntSS_pv m q hm hq hb) <| ev_and (laws_markIntS_ev t (q + (sumLen m : Int)) (by omega) (by omega)) <| ev_one (laws_markIntS_ev v (q + (sumLen m : Int) + (t.length : Int)) (by omega) (by omega))).ev fun k ⟨h1, h2, h3⟩ => by
    simp only [laws_markJob.f, h1, h2, h3, Option.bind_some]
theorem laws_heldIntS_l0 (n : Nat) (c : Int) (hc : 0 ≤ c) (hb : c + n ≤ 9223372036854775807) : ∀ (d i : Nat), i + d = n → Ev (fun k => laws_heldIntS.l0 k (markI n c) (c + (i : Int)) i) (c + (n : Int))
  | 0, i, hd => Ev.next0 fun k => by
      simp only [laws_heldIntS.l0]
      rw [if_neg (by rw [markI_length]; omega), show i = n by omega]
  | d + 1, i, hd => by
      refine Ev.next1 (laws_heldIntS_l0 n c hc hb d (i + 1) (by omega)) fun k hk => ?_
      have e := rd_get (markI_get n c i (by omega))
      simp only [laws_heldIntS.l0, e]
      rw [if_pos (by rw [markI_length]; omega), if_pos (by omega), if_pos (by simp), wrap_succ (n := n) (by omega) (by omega), wrap_id (by omega) (by omega), show c + (i : Int) + 1 = c + ((i + 1 : Nat) : Int) by push_cast; omega]
      exact hk
theorem laws_heldIntS_ev (n : Nat) (c : Int) (hc : 0 ≤ c) (hb : c + n ≤ 9223372036854775807) : Ev (fun k => laws_heldIntS.f k (markI n c) c) (c + (n : Int)) :=
  Ev.of1 (laws_heldIntS_l0 n c hc hb n 0 (by omega)) fun k hk => by
    simp only [laws_heldIntS.f]
    rw [show c + ((0 : Nat) : Int) = c by omega] at hk
    exact hk
theorem spec_l1In_eq (a lo hi : Int) : spec_l1In.f a lo hi = some (decide (lo ≤ a ∧ a ≤ hi)) := by
  unfold spec_l1In.f
  split
  · congr 1; simp; omega
  · congr 1; simp; omega
theorem spec_l1All_l0 (lo hi : Int) (l : List Int) (hn : l.length ≤ 9223372036854775807) : ∀ (ys : List Int) (i : Nat), l.drop i = ys → Ev (fun k => spec_l1All.l0 k lo hi l (l.length : Int) i) (allIn lo hi ys)
  | [], i, h => Ev.next0 fun k => by
      have h0 := drop_nil h
      simp only [spec_l1All.l0, allIn]
      rw [if_neg (by omega)]
  | y :: ys, i, h => by
      obtain ⟨h1, h2, h3⟩ := drop_cons h
      refine Ev.next1 (spec_l1All_l0 lo hi l hn ys (i + 1) h3) fun k hk => ?_
      have e := rd_drop h
      simp only [spec_l1All.l0, e, spec_l1In_eq, Option.bind_some]
      rw [if_pos (by omega), if_pos (by omega), if_pos (by omega), wrap_succ h1 hn]
      by_cases hy : lo ≤ y ∧ y ≤ hi
      · rw [if_pos (decide_eq_true hy), hk]; simp [allIn, hy]
      · rw [if_neg (by simp; omega)]; simp [allIn, hy]
theorem spec_l1All_ev (l : List Int) (lo hi : Int) (hn : l.length ≤ 9223372036854775807) : Ev (fun k => spec_l1All.f k l lo hi) (allIn lo hi l) :=
  Ev.of1 (spec_l1All_l0 lo hi l hn l 0 rfl) fun k hk => by simp only [spec_l1All.f]; exact hk
theorem spec_acRow_ev (l : List Int) (hn : l.length ≤ 9223372036854775807) : Ev (fun k => spec_acRow.f k l) (rowOk l) :=
  Ev.of1 (spec_l1All_ev l 0 100000000000 hn) fun k hk => by
    simp only [spec_acRow.f, hk, Option.bind_some, rowOk]
    by_cases h : l.length = 12
    · rw [if_pos (by omega)]; simp [h]
    · rw [if_neg (by omega)]; simp [h]
theorem spec_acRows_l0 (l : List (List Int)) (hn : l.length ≤ 1048576) (hl : ∀ y ∈ l, y.length ≤ 1048576) : ∀ (ys : List (List Int)) (i : Nat), l.drop i = ys → Ev (fun k => spec_acRows.l0 k l l (l.length : Int) i) (decide (l.length ≤ 6) && rowsOk ys)
  | [], i, h => Ev.next0 fun k => by
      have h0 := drop_nil h
      simp only [spec_acRows.l0, rowsOk]
      rw [if_neg (by omega)]; congr 1; simp; omega
  | y :: ys, i, h => by
      obtain ⟨h1, h2, h3⟩ := drop_cons h
      have hy := hl y (List.mem_of_getElem? h2)
      refine Ev.next2 (spec_acRows_l0 l hn hl ys (i + 1) h3) (spec_acRow_ev y (by omega)) fun k hk hk2 => ?_
      have e : rd_L1 l i = y := getD_drop h
      simp only [spec_acRows.l0, e, hk2, Option.bind_some]
      rw [if_pos (by omega), if_pos (by omega), if_pos (by omega), wrap_succ h1 (by omega)]
      by_cases hr : rowOk y = true
      · rw [if_pos hr, hk]; simp [rowsOk, hr]
      · rw [if_neg hr]; simp [rowsOk, hr]
theorem spec_acRows_ev (l : List (List Int)) (hn : l.length ≤ 1048576) (hl : ∀ y ∈ l, y.length ≤ 1048576) : Ev (fun k => spec_acRows.f k l) (decide (l.length ≤ 6) && rowsOk l) :=
  Ev.of1 (spec_acRows_l0 l hn hl l 0 rfl) fun k hk => by simp only [spec_acRows.f]; exact hk
theorem spec_l1Rising_l0 (n : Int) (l : List Int) (hn : l.length ≤ 9223372036854775807) : ∀ (ys : List Int) (i : Nat) (p : Int), l.drop i = ys → (i = 0 ∧ p = -1 ∨ 0 < i ∧ l[i - 1]? = some p) → Ev (fun k => spec_l1Rising.l0 k l 0 (n - 1) l (l.length : Int) i) (rise n p ys)
  | [], i, p, h, hp => Ev.next0 fun k => by
      have h0 := drop_nil h
      simp only [spec_l1Rising.l0, rise]
      rw [if_neg (by omega)]
  | y :: ys, i, p, h, hp => by
      obtain ⟨h1, h2, h3⟩ := drop_cons h
      refine Ev.next1 (spec_l1Rising_l0 n l hn ys (i + 1) y h3 (.inr ⟨by omega, by simpa using h2⟩)) fun k hk => ?_
      have e := rd_drop h
      simp only [spec_l1Rising.l0, e, spec_l1In_eq, Option.bind_some, rise]
      rw [if_pos (by omega), if_pos (by omega), if_pos (by omega), wrap_succ h1 hn]
      by_cases hy : 0 ≤ y ∧ y < n
      · rw [if_pos (by simp; omega)]
        rcases hp with ⟨rfl, rfl⟩ | ⟨hi, hp⟩
        · rw [if_neg (by omega), hk]; simp; omega
        · have e2 : rd l (wrap64 ((i : Int) - 1)) = p := by
            rw [wrap_id (by omega) (by omega), show (i : Int) - 1 = ((i - 1 : Nat) : Int) by omega]; exact rd_get hp
          rw [if_pos (by omega), wrap_id (by omega) (by omega), if_pos (by omega), if_pos (by omega)]
          rw [wrap_id (by omega) (by omega)] at e2
          rw [e2]
          by_cases hq : p < y
          · rw [if_neg (by omega), hk]; simp [hy, hq]
          · rw [if_pos (by omega)]; simp [hq]
      · rw [if_neg (by simp; omega)]; congr 1; symm; simp; omega
theorem spec_l1Rising_ev (n : Int) (l : List Int) (hn : l.length ≤ 9223372036854775807) : Ev (fun k => spec_l1Rising.f k l 0 (n - 1)) (rise n (-1) l) :=
  Ev.of1 (spec_l1Rising_l0 n l hn l 0 (-1) rfl (.inl ⟨rfl, rfl⟩)) fun k hk => by simp only [spec_l1Rising.f]; exact hk
/-- Each row rises and names earlier rows only. -/
def arcsOk : List (List Int) → Nat → Bool
  | [], _ => true
  | l :: ls, i => rise (i : Int) (-1) l && arcsOk ls (i + 1)
theorem spec_clArcs_l0 (m : List (List Int)) (hn : m.length ≤ 1048576) (hl : ∀ y ∈ m, y.length ≤ 1048576) : ∀ (ls : List (List Int)) (i : Nat), m.drop i = ls → Ev (fun k => spec_clArcs.l0 k m m (m.length : Int) i) (arcsOk ls i && decide (1 ≤ m.length ∧ m.length ≤ 120))
  | [], i, h => Ev.next0 fun k => by
      have h0 := drop_nil h
      simp only [spec_clArcs.l0, spec_l1In_eq, Option.bind_some, arcsOk, Bool.true_and]
      rw [if_neg (by omega)]; congr 1; rw [decide_eq_decide]; omega
  | l :: ls, i, h => by
      obtain ⟨h1, h2, h3⟩ := drop_cons h
      have e : rd_L1 m (i : Int) = l := getD_drop h
      have hy := hl l (List.mem_of_getElem? h2)
      refine Ev.next2 (spec_l1Rising_ev (i : Int) l (by omega)) (spec_clArcs_l0 m hn hl ls (i + 1) h3) fun k k1 k2 => ?_
      simp only [spec_clArcs.l0, e]
      rw [if_pos (by omega), if_pos (by omega), if_pos (by omega), wrap_id (x := (i : Int) - 1) (by omega) (by omega), k1, Option.bind_some, wrap_succ h1 (by omega)]
      by_cases hr : rise (i : Int) (-1) l = true
      · rw [if_pos hr, k2]; simp [arcsOk, hr]
      · rw [if_neg hr]; simp [arcsOk, hr]
theorem spec_clArcs_ev (m : List (List Int)) (hn : m.length ≤ 1048576) (hl : ∀ y ∈ m, y.length ≤ 1048576) : Ev (fun k => spec_clArcs.f k m) (arcsOk m 0 && decide (1 ≤ m.length ∧ m.length ≤ 120)) :=
  Ev.of1 (spec_clArcs_l0 m hn hl m 0 rfl) fun k hk => by simp only [spec_clArcs.f]; exact hk
def limOk (a b c d e : Int) : Bool := decide (0 ≤ a ∧ a ≤ 1000000 ∧ 0 ≤ b ∧ b ≤ 1000000 ∧ 1 ≤ c ∧ c ≤ 6 ∧ 1 ≤ d ∧ d ≤ e ∧ e ≤ 20)
def jobOk (m : List (List Int)) (t v : List Int) (a b c d e : Int) : Bool := (arcsOk m 0 && decide (1 ≤ m.length ∧ m.length ≤ 120)) && (decide (t.length = m.length ∧ v.length = m.length) && (allIn 0 10000 t && (allIn (-1000000) 1000000 v && limOk a b c d e)))
theorem spec_plJob_j0 (m : List (List Int)) (t v : List Int) (a b c d e : Int) : Ev (fun k => spec_plJob.j0 k false m t v a b c d e) (limOk a b c d e) := Ev.next0 fun k => by
  simp only [spec_plJob.j0, spec_l1In_eq, Option.bind_some, Bool.false_eq_true, if_false, limOk, decide_eq_true_eq]
  repeat' split
  all_goals first | (congr 1; rw [decide_eq_decide]; omega) | (congr 1; symm; simp; omega)
theorem spec_plJob_no (m : List (List Int)) (t v : List Int) (a b c d e : Int) : Ev (fun k => spec_plJob.j0 k true m t v a b c d e) false := Ev.next0 fun k => by simp [spec_plJob.j0]
theorem spec_plJob_ev (m : List (List Int)) (t v : List Int) (a b c d e : Int) (hm : m.length ≤ 1048576) (hl : ∀ y ∈ m, y.length ≤ 1048576) (ht : t.length ≤ 1048576) (hv : v.length ≤ 1048576) : Ev (fun k => spec_plJob.f k m t v a b c d e) (jobOk m t v a b c d e) := by
  refine (ev_and (spec_clArcs_ev m hm hl) <| ev_and (spec_l1All_ev t 0 10000 (by omega)) <| ev_and (spec_l1All_ev v (-1000000) 1000000 (by omega)) <| ev_and (spec_plJob_j0 m t v a b c d e) <| ev_one (spec_plJob_no m t v a b c d e)).ev fun k ⟨h1, h2, h3, h4, h5⟩ => ?_
  simp only [spec_plJob.f, h1, h2, h3, Option.bind_some, jobOk]
  by_cases g1 : (arcsOk m 0 && decide (1 ≤ m.length ∧ m.length ≤ 120)) = true
  · rw [if_pos g1, g1, Bool.true_and]
    by_cases g2 : t.length = m.length
    · rw [if_pos (by omega)]
      by_cases g3 : v.length = m.length
      · rw [if_pos (by omega), decide_eq_true (⟨g2, g3⟩ : t.length = m.length ∧ v.length = m.length), Bool.true_and]
        cases g4 : allIn 0 10000 t
        · rw [if_neg (by simp), h5]; rfl
        · rw [if_pos (by simp), Bool.true_and]
          cases g5 : allIn (-1000000) 1000000 v
          · exact h5
          · exact h4
      · rw [if_neg (by omega), decide_eq_false (fun q : t.length = m.length ∧ v.length = m.length => g3 q.2), h5]; rfl
    · rw [if_neg (by omega), decide_eq_false (fun q : t.length = m.length ∧ v.length = m.length => g2 q.1), h5]; rfl
  · rw [if_neg g1, h5, show (arcsOk m 0 && decide (1 ≤ m.length ∧ m.length ≤ 120)) = false by simpa using g1]; rfl
def spares (b : Int) (ys : List (List Int)) : List Int := ys.map fun y => wrap64 (wrap64 (b - rd y 2) - rd y 8)
def spareMill (m : List (List Int)) (t v : List Int) (a b c d e : Int) (l : List (List Int)) : List Int × Bool := if (jobOk m t v a b c d e = true ∧ (l.length ≤ 6 ∧ rowsOk l = true)) ∧ (l.length : Int) = c then (spares b l, true) else ([], false)
theorem spareMill_len (m : List (List Int)) (t v : List Int) (a b c d e : Int) (l : List (List Int)) : (spareMill m t v a b c d e l).1.length ≤ l.length := by
  unfold spareMill
  split <;> simp [spares]
-- needs: spare_model
theorem spec_SpareMill_l0 (m : List (List Int)) (t v : List Int) (a b c d e : Int) (l : List (List Int)) (hn : l.length ≤ 1048576) (hr : rowsOk l = true) : ∀ (ys : List (List Int)) (i : Nat) (o : List Int), l.drop i = ys → o.length ≤ i → Ev (fun k => spec_SpareMill.l0 k o l (l.length : Int) i m t v a b c d e) (o ++ spares b ys, true)
  | [], i, o, h, ho => Ev.next0 fun k => by
      have h0 := drop_nil h
      simp only [spec_SpareMill.l0, spares, List.map_nil, List.append_nil]
      rw [if_neg (by omega)]
  | y :: ys, i, o, h, ho => by
      obtain ⟨h1, h2, h3⟩ := drop_cons h
      have hy := rowsOk_mem hr y (List.mem_of_getElem? h2)
      have hyl := row_len hy
      have ih := spec_SpareMill_l0 m t v a b c d e l hn hr ys (i + 1) (o ++ [wrap64 (wrap64 (b - rd y 2) - rd y 8)]) h3 (by simp; omega)
      rw [List.append_assoc] at ih
      refine Ev.next1 ih fun k hk => ?_
      have e : rd_L1 l i = y := getD_drop h
      simp only [spec_SpareMill.l0, e]
      rw [if_pos (by omega), if_pos (by omega), if_pos (by omega), if_pos (by omega), if_pos (by omega), if_pos (by omega), wrap_succ h1 (by omega)]
      exact hk
theorem spec_SpareMill_ev (m : List (List Int)) (t v : List Int) (a b c d e : Int) (hm : m.length ≤ 1048576) (hl : ∀ y ∈ m, y.length ≤ 1048576) (ht : t.length ≤ 1048576) (hv : v.length ≤ 1048576) (l : List (List Int)) (hn : l.length ≤ 1048576) (hr : ∀ y ∈ l, y.length ≤ 1048576) : Ev (fun k => spec_SpareMill.f k m t v a b c d e l) (spareMill m t v a b c d e l) := by
  have no : Ev (fun k => spec_SpareMill.j0 k l true m t v a b c d e) ([], false) := Ev.next0 fun k => by
    simp only [spec_SpareMill.j0]
    rw [if_pos (by simp)]
  by_cases h : (jobOk m t v a b c d e = true ∧ (l.length ≤ 6 ∧ rowsOk l = true)) ∧ (l.length : Int) = c
  · have ef : spareMill m t v a b c d e l = (spares b l, true) := by rw [spareMill, if_pos h]
    have go : Ev (fun k => spec_SpareMill.j0 k l false m t v a b c d e) (spares b l, true) := Ev.next1 (spec_SpareMill_l0 m t v a b c d e l hn h.1.2.2 l 0 [] rfl (by simp)) fun k hk => by
      simp only [spec_SpareMill.j0]
      rw [if_neg (by simp)]; exact hk
    refine (ev_and (spec_plJob_ev m t v a b c d e hm hl ht hv) <| ev_and (spec_acRows_ev l hn hr) <| ev_one go).ev fun k ⟨h1, h2, h3⟩ => ?_
    simp only [spec_SpareMill.f, h1, h2, Option.bind_some]
    rw [if_pos h.1.1, if_pos (by simpa using h.1.2), ef, show ((l.length : Int) != c) = false by simp [h.2]]; exact h3
  · have ef : spareMill m t v a b c d e l = ([], false) := by rw [spareMill, if_neg h]
    refine (ev_and (spec_plJob_ev m t v a b c d e hm hl ht hv) <| ev_and (spec_acRows_ev l hn hr) <| ev_one no).ev fun k ⟨h1, h2, h3⟩ => ?_
    simp only [spec_SpareMill.f, h1, h2, Option.bind_some]
    rw [ef]
    by_cases hj : jobOk m t v a b c d e = true
    · rw [if_pos hj]
      by_cases ha : l.length ≤ 6 ∧ rowsOk l = true
      · rw [if_pos (by simpa using ha), show ((l.length : Int) != c) = true by simp only [bne_iff_ne]; exact fun e => h ⟨⟨hj, ha⟩, e⟩]; exact h3
      · rw [if_neg (by simpa using ha)]; exact h3
    · rw [if_neg hj]; exact h3
theorem impl_isAccountRow_l0 (l : List Int) (hn : l.length ≤ 9223372036854775807) : ∀ (ys : List Int) (i : Nat), l.drop i = ys → Ev (fun k => impl_isAccountRow.l0 k l (l.length : Int) i) (allIn 0 100000000000 ys)
  | [], i, h => Ev.next0 fun k => by
      have h0 := drop_nil h
      simp only [impl_isAccountRow.l0, allIn]
      rw [if_neg (by omega)]
  | y :: ys, i, h => by
      obtain ⟨h1, h2, h3⟩ := drop_cons h
      refine Ev.next1 (impl_isAccountRow_l0 l hn ys (i + 1) h3) fun k hk => ?_
      have e := rd_drop h
      simp only [impl_isAccountRow.l0, e]
      rw [if_pos (by omega), if_pos (by omega), if_pos (by omega), wrap_succ h1 hn]
      by_cases hy : 0 ≤ y
      · rw [if_neg (by omega)]
        by_cases hz : y ≤ 100000000000
        · rw [if_neg (by omega), hk]; simp [allIn, hy, hz]
        · rw [if_pos (by omega)]; simp [allIn, hz]
      · rw [if_pos (by omega)]; simp [allIn, hy]
theorem impl_isAccountRow_ev (l : List Int) (hn : l.length ≤ 9223372036854775807) : Ev (fun k => impl_isAccountRow.f k l) (rowOk l) :=
  Ev.of1 (impl_isAccountRow_l0 l hn l 0 rfl) fun k hk => by
    simp only [impl_isAccountRow.f, rowOk]
    by_cases h : l.length = 12
    · rw [if_pos (by omega)]; simpa [h] using hk
    · rw [if_neg (by omega)]; simp [h]
theorem impl_areAccountRows_l0 (l : List (List Int)) (hn : l.length ≤ 1048576) (hl : ∀ y ∈ l, y.length ≤ 1048576) : ∀ (ys : List (List Int)) (i : Nat), l.drop i = ys → Ev (fun k => impl_areAccountRows.l0 k l (l.length : Int) i) (rowsOk ys)
  | [], i, h => Ev.next0 fun k => by
      have h0 := drop_nil h
      simp only [impl_areAccountRows.l0, rowsOk]
      rw [if_neg (by omega)]
  | y :: ys, i, h => by
      obtain ⟨h1, h2, h3⟩ := drop_cons h
      have hy := hl y (List.mem_of_getElem? h2)
      refine Ev.next2 (impl_areAccountRows_l0 l hn hl ys (i + 1) h3) (impl_isAccountRow_ev y (by omega)) fun k hk hk2 => ?_
      have e : rd_L1 l i = y := getD_drop h
      simp only [impl_areAccountRows.l0, e, hk2, Option.bind_some]
      rw [if_pos (by omega), if_pos (by omega), if_pos (by omega), wrap_succ h1 (by omega)]
      by_cases hr : rowOk y = true
      · rw [if_pos hr, hk]; simp [rowsOk, hr]
      · rw [if_neg hr]; simp [rowsOk, hr]
theorem impl_areAccountRows_ev (l : List (List Int)) (hn : l.length ≤ 1048576) (hl : ∀ y ∈ l, y.length ≤ 1048576) : Ev (fun k => impl_areAccountRows.f k l) (decide (l.length ≤ 6) && rowsOk l) :=
  Ev.of1 (impl_areAccountRows_l0 l hn hl l 0 rfl) fun k hk => by
    simp only [impl_areAccountRows.f]
    by_cases h : l.length ≤ 6
    · rw [if_neg (by omega)]; simpa [h] using hk
    · rw [if_pos (by omega)]; simp [h]
theorem impl_areBlocks_l0 (n : Int) (l : List Int) (hn : l.length ≤ 9223372036854775807) : ∀ (ys : List Int) (i : Nat) (p : Int), l.drop i = ys → (i = 0 ∧ p = -1 ∨ 0 < i ∧ l[i - 1]? = some p) → Ev (fun k => impl_areBlocks.l0 k l n l (l.length : Int) i) (rise n p ys)
  | [], i, p, h, hp => Ev.next0 fun k => by
      have h0 := drop_nil h
      simp only [impl_areBlocks.l0, rise]
      rw [if_neg (by omega)]
  | y :: ys, i, p, h, hp => by
      obtain ⟨h1, h2, h3⟩ := drop_cons h
      refine Ev.next1 (impl_areBlocks_l0 n l hn ys (i + 1) y h3 (.inr ⟨by omega, by simpa using h2⟩)) fun k hk => ?_
      have e := rd_drop h
      simp only [impl_areBlocks.l0, e, rise]
      rw [if_pos (by omega), if_pos (by omega), if_pos (by omega), wrap_succ h1 hn]
      by_cases hy : 0 ≤ y ∧ y < n
      · rw [if_neg (by omega), if_neg (by omega)]
        rcases hp with ⟨rfl, rfl⟩ | ⟨hi, hp⟩
        · rw [if_neg (by omega), hk]; simp; omega
        · have e2 : rd l ((i : Int) - 1) = p := by
            rw [show (i : Int) - 1 = ((i - 1 : Nat) : Int) by omega]; exact rd_get hp
          rw [if_pos (by omega), wrap_id (by omega) (by omega), if_pos (by omega), if_pos (by omega), e2]
          by_cases hq : p < y
          · rw [if_neg (by omega), hk]; simp [hy, hq]
          · rw [if_pos (by omega)]; simp [hq]
      · have e3 : (decide (0 ≤ y ∧ y < n ∧ p < y) && rise n y ys) = false := by simp; omega
        rw [e3]; split
        · rfl
        · rw [if_pos (by omega)]
theorem impl_areBlocks_ev (n : Int) (l : List Int) (hn : l.length ≤ 9223372036854775807) : Ev (fun k => impl_areBlocks.f k l n) (rise n (-1) l) :=
  Ev.of1 (impl_areBlocks_l0 n l hn l 0 (-1) rfl (.inl ⟨rfl, rfl⟩)) fun k hk => by simp only [impl_areBlocks.f]; exact hk
-- needs: spec_clArcs
theorem impl_AreArcs_l0 (m : List (List Int)) (hn : m.length ≤ 1048576) (hl : ∀ y ∈ m, y.length ≤ 1048576) : ∀ (ls : List (List Int)) (i : Nat), m.drop i = ls → Ev (fun k => impl_AreArcs.l0 k m (m.length : Int) i) (arcsOk ls i)
  | [], i, h => Ev.next0 fun k => by
      have h0 := drop_nil h
      simp only [impl_AreArcs.l0, arcsOk]
      rw [if_neg (by omega)]
  | l :: ls, i, h => by
      obtain ⟨h1, h2, h3⟩ := drop_cons h
      have e : rd_L1 m (i : Int) = l := getD_drop h
      have hy := hl l (List.mem_of_getElem? h2)
      refine Ev.next2 (impl_areBlocks_ev (i : Int) l (by omega)) (impl_AreArcs_l0 m hn hl ls (i + 1) h3) fun k k1 k2 => ?_
      simp only [impl_AreArcs.l0, e]
      rw [if_pos (by omega), if_pos (by omega), if_pos (by omega), k1, Option.bind_some, wrap_succ h1 (by omega)]
      by_cases hr : rise (i : Int) (-1) l = true
      · rw [if_pos hr, k2]; simp [arcsOk, hr]
      · rw [if_neg hr]; simp [arcsOk, hr]
theorem impl_AreArcs_ev (m : List (List Int)) (hn : m.length ≤ 1048576) (hl : ∀ y ∈ m, y.length ≤ 1048576) : Ev (fun k => impl_AreArcs.f k m) (arcsOk m 0 && decide (1 ≤ m.length ∧ m.length ≤ 120)) := by
  have no : Ev (fun k => impl_AreArcs.j0 k m true) false := Ev.next0 fun k => by simp [impl_AreArcs.j0]
  by_cases h1 : m.length < 1
  · refine Ev.of1 no fun k hk => ?_
    simp only [impl_AreArcs.f]
    rw [if_pos (by omega), hk, decide_eq_false (by omega), Bool.and_false]
  · by_cases h2 : m.length > 120
    · refine Ev.of1 no fun k hk => ?_
      simp only [impl_AreArcs.f]
      rw [if_neg (by omega), show decide ((m.length : Int) > 120) = true by simp; omega, hk, decide_eq_false (by omega), Bool.and_false]
    · have yes : Ev (fun k => impl_AreArcs.j0 k m false) (arcsOk m 0) := Ev.next1 (impl_AreArcs_l0 m hn hl m 0 rfl) fun k hk => by
        simp only [impl_AreArcs.j0, Bool.false_eq_true, if_false]; exact hk
      refine Ev.of1 yes fun k hk => ?_
      simp only [impl_AreArcs.f]
      rw [if_neg (by omega), show decide ((m.length : Int) > 120) = false by simp; omega, hk, decide_eq_true (by omega), Bool.and_true]
theorem impl_goodValues_l0 (l : List Int) (hn : l.length ≤ 9223372036854775807) : ∀ (ys : List Int) (i : Nat), l.drop i = ys → Ev (fun k => impl_goodValues.l0 k l (l.length : Int) i) (allIn (-1000000) 1000000 ys)
  | [], i, h => Ev.next0 fun k => by
      have h0 := drop_nil h
      simp only [impl_goodValues.l0, allIn]
      rw [if_neg (by omega)]
  | y :: ys, i, h => by
      obtain ⟨h1, h2, h3⟩ := drop_cons h
      refine Ev.next1 (impl_goodValues_l0 l hn ys (i + 1) h3) fun k hk => ?_
      have e := rd_drop h
      simp only [impl_goodValues.l0, e]
      rw [if_pos (by omega), if_pos (by omega), if_pos (by omega), wrap_succ h1 hn]
      by_cases hy : -1000000 ≤ y
      · rw [if_neg (by omega)]
        by_cases hz : y ≤ 1000000
        · rw [if_neg (by omega), hk]; simp [allIn, hy, hz]
        · rw [if_pos (by omega)]; simp [allIn, hz]
      · rw [if_pos (by omega)]; simp [allIn, hy]
theorem impl_goodValues_ev (l : List Int) (hn : l.length ≤ 9223372036854775807) : Ev (fun k => impl_goodValues.f k l) (decide (1 ≤ l.length ∧ l.length ≤ 120) && allIn (-1000000) 1000000 l) := by
  by_cases h : 1 ≤ l.length ∧ l.length ≤ 120
  · have h1 : Ev (fun k => impl_goodValues.j0 k l false) (allIn (-1000000) 1000000 l) := Ev.next1 (impl_goodValues_l0 l hn l 0 rfl) fun k hk => by
      simp only [impl_goodValues.j0]; rw [if_neg (by simp)]; exact hk
    refine Ev.of1 h1 fun k hk => ?_
    have e : decide ((l.length : Int) > 120) = false := by simp; omega
    simp only [impl_goodValues.f]
    rw [if_neg (by omega), e, hk]; simp [h]
  · have h1 : Ev (fun k => impl_goodValues.j0 k l true) false := Ev.next0 fun k => by simp [impl_goodValues.j0]
    refine Ev.of1 h1 fun k hk => ?_
    simp only [impl_goodValues.f]
    by_cases h2 : l.length < 1
    · rw [if_pos (by omega), hk]; simp; omega
    · have e : decide ((l.length : Int) > 120) = true := by simp; omega
      rw [if_neg (by omega), e, hk]; simp; omega
theorem impl_areValued_ev (m : List (List Int)) (v : List Int) (hn : m.length ≤ 1048576) (hl : ∀ y ∈ m, y.length ≤ 1048576) (hv : v.length ≤ 1048576) : Ev (fun k => impl_areValued.f k m v) ((arcsOk m 0 && decide (1 ≤ m.length ∧ m.length ≤ 120)) && (decide (v.length = m.length) && allIn (-1000000) 1000000 v)) := by
  refine (ev_and (impl_AreArcs_ev m hn hl) <| ev_one (impl_goodValues_ev v (by omega))).ev fun k ⟨h1, h2⟩ => ?_
  simp only [impl_areValued.f, h1, h2, Option.bind_some]
  by_cases g1 : (arcsOk m 0 && decide (1 ≤ m.length ∧ m.length ≤ 120)) = true
  · rw [if_pos g1, g1, Bool.true_and]
    have g2 : 1 ≤ m.length ∧ m.length ≤ 120 := by simp only [Bool.and_eq_true, decide_eq_true_eq] at g1; exact g1.2
    by_cases g3 : v.length = m.length
    · rw [decide_eq_true g3, decide_eq_true (show 1 ≤ v.length ∧ v.length ≤ 120 by omega), Bool.true_and]
      cases allIn (-1000000) 1000000 v
      · rfl
      · rw [if_pos rfl]; congr 1; simp [g3]
    · rw [decide_eq_false g3, Bool.false_and]
      by_cases g4 : (decide (1 ≤ v.length ∧ v.length ≤ 120) && allIn (-1000000) 1000000 v) = true
      · rw [if_pos g4]; congr 1; simp; omega
      · rw [if_neg g4]
  · rw [if_neg g1, show (arcsOk m 0 && decide (1 ≤ m.length ∧ m.length ≤ 120)) = false by simpa using g1]; rfl
-- needs: spec_plJob
theorem impl_IsJob_l0 (m : List (List Int)) (t v : List Int) (a b c d e : Int) (ht : t.length ≤ 1048576) : ∀ (us : List Int) (i : Nat), t.drop i = us → Ev (fun k => impl_IsJob.l0 k t (t.length : Int) i m t v a b c d e) (allIn 0 10000 us && limOk a b c d e)
  | [], i, h => Ev.next0 fun k => by
      have h0 := drop_nil h
      simp only [impl_IsJob.l0, allIn, Bool.true_and, limOk]
      rw [if_neg (by omega)]
      repeat' split
      all_goals first | (congr 1; rw [decide_eq_decide]; omega) | (congr 1; symm; simp; omega)
  | u :: us, i, h => by
      obtain ⟨h1, h2, h3⟩ := drop_cons h
      have e1 := rd_drop h
      refine Ev.next1 (impl_IsJob_l0 m t v a b c d e ht us (i + 1) h3) fun k hk => ?_
      simp only [impl_IsJob.l0, e1, allIn]
      rw [if_pos (by omega), if_pos (by omega), if_pos (by omega), wrap_succ h1 (by omega)]
      by_cases g : 0 ≤ u ∧ u ≤ 10000
      · rw [if_neg (by omega), if_neg (by omega), hk]; simp [g]
      · rw [decide_eq_false g]
        by_cases g0 : u < 0
        · rw [if_pos g0]; rfl
        · rw [if_neg g0, if_pos (by omega)]; rfl
theorem impl_IsJob_no (m : List (List Int)) (t v : List Int) (a b c d e : Int) : Ev (fun k => impl_IsJob.j0 k true m t v a b c d e) false := Ev.next0 fun k => by simp [impl_IsJob.j0]
theorem impl_IsJob_ev (m : List (List Int)) (t v : List Int) (a b c d e : Int) (hm : m.length ≤ 1048576) (hl : ∀ y ∈ m, y.length ≤ 1048576) (ht : t.length ≤ 1048576) (hv : v.length ≤ 1048576) : Ev (fun k => impl_IsJob.f k m t v a b c d e) (jobOk m t v a b c d e) := by
  have yes : Ev (fun k => impl_IsJob.j0 k false m t v a b c d e) (allIn 0 10000 t && limOk a b c d e) := Ev.next1 (impl_IsJob_l0 m t v a b c d e ht t 0 rfl) fun k hk => by
    simp only [impl_IsJob.j0, Bool.false_eq_true, if_false]; exact hk
  refine (ev_and (impl_areValued_ev m v hm hl hv) <| ev_and yes <| ev_one (impl_IsJob_no m t v a b c d e)).ev fun k ⟨h1, h2, h3⟩ => ?_
  simp only [impl_IsJob.f, h1, Option.bind_some, jobOk]
  by_cases g1 : (arcsOk m 0 && decide (1 ≤ m.length ∧ m.length ≤ 120)) = true
  · rw [g1, Bool.true_and, Bool.true_and]
    by_cases g2 : v.length = m.length
    · rw [decide_eq_true g2, Bool.true_and]
      by_cases g3 : t.length = m.length
      · rw [show ((t.length : Int) != (m.length : Int)) = false by simp [g3], decide_eq_true (⟨g3, g2⟩ : t.length = m.length ∧ v.length = m.length), Bool.true_and]
        cases g4 : allIn (-1000000) 1000000 v
        · rw [if_neg (by simp), h3]; simp
        · rw [if_pos (by simp), h2, Bool.true_and]
      · rw [show ((t.length : Int) != (m.length : Int)) = true by simp; omega, decide_eq_false (fun q : t.length = m.length ∧ v.length = m.length => g3 q.1)]
        split <;> (rw [h3]; rfl)
    · rw [decide_eq_false g2, decide_eq_false (fun q : t.length = m.length ∧ v.length = m.length => g2 q.2), if_neg (by simp), h3]; rfl
  · rw [show (arcsOk m 0 && decide (1 ≤ m.length ∧ m.length ≤ 120)) = false by simpa using g1, if_neg (by simp), h3]; rfl
-- needs: spare_model
theorem impl_SpareMill_l0 (m : List (List Int)) (t v : List Int) (a b c d e : Int) (l : List (List Int)) (hn : l.length ≤ 1048576) (hr : rowsOk l = true) : ∀ (ys : List (List Int)) (i : Nat) (o : List Int), l.drop i = ys → o.length ≤ i → Ev (fun k => impl_SpareMill.l0 k o l (l.length : Int) i m t v a b c d e) (o ++ spares b ys, true)
  | [], i, o, h, ho => Ev.next0 fun k => by
      have h0 := drop_nil h
      simp only [impl_SpareMill.l0, spares, List.map_nil, List.append_nil]
      rw [if_neg (by omega)]
  | y :: ys, i, o, h, ho => by
      obtain ⟨h1, h2, h3⟩ := drop_cons h
      have hy := rowsOk_mem hr y (List.mem_of_getElem? h2)
      have hyl := row_len hy
      have ih := impl_SpareMill_l0 m t v a b c d e l hn hr ys (i + 1) (o ++ [wrap64 (wrap64 (b - rd y 2) - rd y 8)]) h3 (by simp; omega)
      rw [List.append_assoc] at ih
      refine Ev.next1 ih fun k hk => ?_
      have e : rd_L1 l i = y := getD_drop h
      simp only [impl_SpareMill.l0, e]
      rw [if_pos (by omega), if_pos (by omega), if_pos (by omega), if_pos (by omega), if_pos (by omega), if_pos (by omega), wrap_succ h1 (by omega)]
      exact hk
theorem impl_SpareMill_ev (m : List (List Int)) (t v : List Int) (a b c d e : Int) (hm : m.length ≤ 1048576) (hl : ∀ y ∈ m, y.length ≤ 1048576) (ht : t.length ≤ 1048576) (hv : v.length ≤ 1048576) (l : List (List Int)) (hn : l.length ≤ 1048576) (hr : ∀ y ∈ l, y.length ≤ 1048576) : Ev (fun k => impl_SpareMill.f k m t v a b c d e l) (spareMill m t v a b c d e l) := by
  have no : Ev (fun k => impl_SpareMill.j0 k l true m t v a b c d e) ([], false) := Ev.next0 fun k => by
    simp only [impl_SpareMill.j0]
    rw [if_pos (by simp)]
  by_cases h : (jobOk m t v a b c d e = true ∧ (l.length ≤ 6 ∧ rowsOk l = true)) ∧ (l.length : Int) = c
  · have ef : spareMill m t v a b c d e l = (spares b l, true) := by rw [spareMill, if_pos h]
    have go : Ev (fun k => impl_SpareMill.j0 k l false m t v a b c d e) (spares b l, true) := Ev.next1 (impl_SpareMill_l0 m t v a b c d e l hn h.1.2.2 l 0 [] rfl (by simp)) fun k hk => by
      simp only [impl_SpareMill.j0]
      rw [if_neg (by simp)]; exact hk
    refine (ev_and (impl_IsJob_ev m t v a b c d e hm hl ht hv) <| ev_and (impl_areAccountRows_ev l hn hr) <| ev_one go).ev fun k ⟨h1, h2, h3⟩ => ?_
    simp only [impl_SpareMill.f, h1, h2, Option.bind_some]
    rw [if_pos h.1.1, if_pos (by simpa using h.1.2), ef, show ((l.length : Int) != c) = false by simp [h.2]]; exact h3
  · have ef : spareMill m t v a b c d e l = ([], false) := by rw [spareMill, if_neg h]
    refine (ev_and (impl_IsJob_ev m t v a b c d e hm hl ht hv) <| ev_and (impl_areAccountRows_ev l hn hr) <| ev_one no).ev fun k ⟨h1, h2, h3⟩ => ?_
    simp only [impl_SpareMill.f, h1, h2, Option.bind_some]
    rw [ef]
    by_cases hj : jobOk m t v a b c d e = true
    · rw [if_pos hj]
      by_cases ha : l.length ≤ 6 ∧ rowsOk l = true
      · rw [if_pos (by simpa using ha), show ((l.length : Int) != c) = true by simp only [bne_iff_ne]; exact fun e => h ⟨⟨hj, ha⟩, e⟩]; exact h3
      · rw [if_neg (by simpa using ha)]; exact h3
    · rw [if_neg hj]; exact h3
theorem j2_ev (n : Nat) (hn : n ≤ 1048576) : Ev (fun k => laws_FnExactSpareMill.j2 k (markI n 1) (1 + (n : Int)) false) true :=
  (ev_one (laws_heldIntS_ev n 1 (by omega) (by omega))).next fun k h1 => by
    simp only [laws_FnExactSpareMill.j2, h1, Option.bind_some]
    rw [if_neg (by simp), if_neg (by omega), if_pos (by simp)]
theorem j1_ev (m : List (List Int)) (t v : List Int) (a b c d e : Int) (hm : m.length ≤ 1048576) (hl : ∀ y ∈ m, y.length ≤ 1048576) (ht : t.length ≤ 1048576) (hv : v.length ≤ 1048576) (l : List (List Int)) (hn : l.length ≤ 1048576) (hr : ∀ y ∈ l, y.length ≤ 1048576) (u : List Int × Bool) (hu : u = spareMill m t v a b c d e l) : Ev (fun k => laws_FnExactSpareMill.j1 k l u.1 u.2 u.1 false m t v a b c d e) true := by
  have hw := spareMill_len m t v a b c d e l
  have hi := impl_SpareMill_ev m t v a b c d e hm hl ht hv l hn hr
  rw [← hu] at hw hi
  refine (ev_and (laws_markIntS_ev u.1 1 (by omega) (by omega)) <| ev_and (laws_heldIntS_ev u.1.length 1 (by omega) (by omega)) <| ev_and (laws_toJob_ev m t v a b c d e hm hl ht hv) <| ev_and (laws_toIntSS_ev l hn hr) <| ev_and hi <| ev_and (laws_eqIntS_ev u.1 (by omega)) <| ev_one (j2_ev u.1.length (by omega))).next fun k ⟨h1, h2, h3, h4, h5, h6, h7⟩ => ?_
  simp only [laws_FnExactSpareMill.j1, h1, h2, h3, h4, h5, h6, Option.bind_some]
  rw [if_neg (by simp), if_neg (by omega), if_pos (by simp), if_pos (by simp), bne_self_eq_false]; exact h7
theorem j0_ev (m : List (List Int)) (t v : List Int) (a b c d e : Int) (hm : m.length ≤ 1048576) (hl : ∀ y ∈ m, y.length ≤ 1048576) (ht : t.length ≤ 1048576) (hv : v.length ≤ 1048576) (l : List (List Int)) (hn : l.length ≤ 1048576) (hr : ∀ y ∈ l, y.length ≤ 1048576) (hq : sumLen m ≤ 1048576) (hp : sumLen l ≤ 1048576) (u : List Int × Bool) (hu : u = spareMill m t v a b c d e l) : Ev (fun k => laws_FnExactSpareMill.j0 k l u.1 u.2 l u.1 u.2 false m t v a b c d e m t v a b c d e) true := by
  have hw := spareMill_len m t v a b c d e l
  rw [← hu] at hw
  refine (ev_and (laws_toJob_ev m t v a b c d e hm hl ht hv) <| ev_and (laws_eqJob_ev m t v a b c d e hm hl ht hv) <| ev_and (laws_toIntSS_ev l hn hr) <| ev_and (laws_eqIntSS_ev l hn hr) <| ev_and (laws_markJob_ev m t v a b c d e 1 hm ht hv (by omega) (by omega)) <| ev_and (laws_markIntSS_pv l (1 + (sumLen m : Int) + (t.length : Int) + (v.length : Int)) hn (by omega) (by omega)) <| ev_and (laws_eqIntS_ev u.1 (by omega)) <| ev_one (j1_ev m t v a b c d e hm hl ht hv l hn hr u hu)).next fun k ⟨h1, h2, h3, h4, h5, h6, h7, h8⟩ => ?_
  simp only [laws_FnExactSpareMill.j0, h1, h2, h3, h4, h5, h6, h7, Option.bind_some]
  rw [if_neg (by simp), if_pos (by simp), if_pos (by simp), if_neg (by omega), if_pos (by simp), bne_self_eq_false]; exact h8
theorem FnExactSpareMill : Stat.FnExactSpareMill := by
  intro m t v a b c d e l hm0 ht0 hv0 _ _ _ _ _ hl0
  refine Ev.rounds ?_
  have hj := laws_szJob_ev m t v a b c d e 1048576 hm0.1 (fun y hy => (hm0.2 y hy).1) ht0.1 hv0.1 (by omega) (by omega)
  by_cases hw : (1048576 : Int) < ((tot m + t.length + v.length : Nat) : Int)
  · refine (ev_one hj).ev fun k h1 => ?_
    simp only [laws_FnExactSpareMill.f, h1, Option.bind_some]
    rw [left_lt hw, if_pos (by omega)]
  have hs := laws_szIntSS_ev l (1048576 - ((tot m + t.length + v.length : Nat) : Int)) hl0.1 (fun y hy => (hl0.2 y hy).1) (by omega) (by omega)
  by_cases hg : 1048576 - ((tot m + t.length + v.length : Nat) : Int) < (tot l : Int)
  · refine (ev_and hj <| ev_one hs).ev fun k ⟨h1, h2⟩ => ?_
    simp only [laws_FnExactSpareMill.f, h1, Option.bind_some]
    rw [left_ge (by omega), if_neg (by omega), h2, Option.bind_some, left_lt hg, if_pos (by omega)]
  have ho := tot_eq m
  have hp := tot_eq l
  have hm : m.length ≤ 1048576 := by omega
  have hl : ∀ y ∈ m, y.length ≤ 1048576 := fun y hy => by have := sumLen_mem hy; omega
  have ht : t.length ≤ 1048576 := by omega
  have hv : v.length ≤ 1048576 := by omega
  have hn : l.length ≤ 1048576 := by omega
  have hr : ∀ y ∈ l, y.length ≤ 1048576 := fun y hy => by have := sumLen_mem hy; omega
  have hu := spareMill_len m t v a b c d e l
  refine (ev_and hj <| ev_and hs <| ev_and (laws_toJob_ev m t v a b c d e hm hl ht hv) <| ev_and (laws_toIntSS_ev l hn hr) <| ev_and (spec_SpareMill_ev m t v a b c d e hm hl ht hv l hn hr) <| ev_and (impl_SpareMill_ev m t v a b c d e hm hl ht hv l hn hr) <| ev_and (laws_eqIntS_ev (spareMill m t v a b c d e l).1 (by omega)) <| ev_one (j0_ev m t v a b c d e hm hl ht hv l hn hr (by omega) (by omega) _ rfl)).ev fun k ⟨h0, h1, h2, h3, h4, h5, h6, h7⟩ => ?_
  simp only [laws_FnExactSpareMill.f, h0, Option.bind_some]
  rw [left_ge (by omega), if_neg (by omega), h1, Option.bind_some, left_ge (by omega), if_neg (by omega)]
  simp only [h2, h3, h4, h5, h6, Option.bind_some]
  rw [if_pos (by simp), bne_self_eq_false]; exact h7
end Go.Proofs.Ytagnldmaglbpaaa.PureFnExactSpareMill
namespace Go.Proofs.Ytagnldmaglbpaaa.Pure
theorem FnExactSpareMill : Stat.FnExactSpareMill := PureFnExactSpareMill.FnExactSpareMill
end Go.Proofs.Ytagnldmaglbpaaa.Pure
