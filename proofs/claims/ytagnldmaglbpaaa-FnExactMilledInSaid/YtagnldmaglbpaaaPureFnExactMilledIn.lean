/- The law FnExactMilledIn over numbers and lists: it is true of every input. -/
import Derived.Test.YtagnldmaglbpaaaStatFnExactMilledIn
import Derived.Test.YtagnldmaglbpaaaWMore
set_option linter.unusedVariables false
set_option linter.unusedSimpArgs false
namespace Go.Proofs.Ytagnldmaglbpaaa.Kit
open Go.RowKit Go.Proofs.YtagnldmaglbpaaaW.PrintWords Go.Proofs.YtagnldmaglbpaaaW.PrintMore

/-! ### Rounds -/
theorem Ev.all {α : Type} {g : Nat → Option α} {r : α} (h : ∀ k, g k = some r) : Ev g r := ⟨0, fun k _ => h k⟩
theorem Ev.of1 {α β : Type} {g : Nat → Option α} {f : Nat → Option β} {r : α} {b : β} (h : Ev f b) (k : ∀ k, f k = some b → g k = some r) : Ev g r := by
  obtain ⟨K, h⟩ := h; exact ⟨K, fun n hn => k n (h n hn)⟩
theorem Ev.next0 {α : Type} {g : Nat → Option α} {r : α} (h : ∀ k, g (k + 1) = some r) : Ev g r :=
  ⟨1, fun n hn => by obtain ⟨m, rfl⟩ : ∃ m, n = m + 1 := ⟨n - 1, by omega⟩; exact h m⟩
theorem Ev.next1 {α β : Type} {g : Nat → Option α} {f : Nat → Option β} {r : α} {b : β} (h : Ev f b) (k : ∀ k, f k = some b → g (k + 1) = some r) : Ev g r := by
  obtain ⟨K, h⟩ := h
  exact ⟨K + 1, fun n hn => by obtain ⟨m, rfl⟩ : ∃ m, n = m + 1 := ⟨n - 1, by omega⟩; exact k m (h m (by omega))⟩
theorem Ev.next2 {α β γ : Type} {g : Nat → Option α} {f : Nat → Option β} {f' : Nat → Option γ} {r : α} {b : β} {c : γ} (h : Ev f b) (h' : Ev f' c) (k : ∀ k, f k = some b → f' k = some c → g (k + 1) = some r) : Ev g r := by
  obtain ⟨K, h⟩ := h; obtain ⟨K', h'⟩ := h'
  exact ⟨K + K' + 1, fun n hn => by obtain ⟨m, rfl⟩ : ∃ m, n = m + 1 := ⟨n - 1, by omega⟩; exact k m (h m (by omega)) (h' m (by omega))⟩
/-- From some number of rounds on. -/
def Evt (p : Nat → Prop) : Prop := ∃ K, ∀ k, K ≤ k → p k
theorem ev_one {α : Type} {f : Nat → Option α} {a : α} (h : Ev f a) : Evt (fun k => f k = some a) := h
theorem ev_and {α : Type} {f : Nat → Option α} {a : α} {p : Nat → Prop} (h : Ev f a) (h' : Evt p) : Evt (fun k => f k = some a ∧ p k) := by
  obtain ⟨K, h⟩ := h; obtain ⟨K', h'⟩ := h'; exact ⟨K + K', fun n hn => ⟨h n (by omega), h' n (by omega)⟩⟩
theorem Evt.ev {α : Type} {g : Nat → Option α} {r : α} {p : Nat → Prop} (h : Evt p) (k : ∀ k, p k → g k = some r) : Ev g r := by
  obtain ⟨K, h⟩ := h; exact ⟨K, fun n hn => k n (h n hn)⟩
theorem Evt.next {α : Type} {g : Nat → Option α} {r : α} {p : Nat → Prop} (h : Evt p) (k : ∀ k, p k → g (k + 1) = some r) : Ev g r := by
  obtain ⟨K, h⟩ := h
  exact ⟨K + 1, fun n hn => by obtain ⟨m, rfl⟩ : ∃ m, n = m + 1 := ⟨n - 1, by omega⟩; exact k m (h m (by omega))⟩

/-! ### Whole numbers -/
theorem wrap_id {x : Int} (h0 : -9223372036854775808 ≤ x) (h1 : x ≤ 9223372036854775807) : wrap64 x = x := by unfold wrap64; omega
theorem wrap_succ {i n : Nat} (h : i < n) (hn : n ≤ 9223372036854775807) : wrap64 ((i : Int) + 1) = ((i + 1 : Nat) : Int) := by unfold wrap64; omega
theorem toNat_cast (i : Nat) : ((i : Int)).toNat = i := by omega

/-! ### Lists from an index on -/
theorem drop_cons {α : Type} {xs ys : List α} {y : α} {i : Nat} (h : xs.drop i = y :: ys) : i < xs.length ∧ xs[i]? = some y ∧ xs.drop (i + 1) = ys := by
  have hlt : i < xs.length := by
    by_cases hlt : i < xs.length
    · exact hlt
    · rw [List.drop_of_length_le (by omega)] at h; cases h
  rw [List.drop_eq_getElem_cons hlt] at h
  injection h with h1 h2
  exact ⟨hlt, by rw [List.getElem?_eq_getElem hlt, h1], h2⟩
theorem drop_nil {α : Type} {xs : List α} {i : Nat} (h : xs.drop i = []) : xs.length ≤ i := by simpa using h
theorem getD_drop {α : Type} {xs ys : List α} {y d : α} {i : Nat} (h : xs.drop i = y :: ys) : xs.getD ((i : Int)).toNat d = y := by
  rw [toNat_cast, List.getD_eq_getElem?_getD, (drop_cons h).2.1]; rfl
theorem rd_drop {xs ys : List Int} {y : Int} {i : Nat} (h : xs.drop i = y :: ys) : rd xs (i : Int) = y := getD_drop h
theorem getD_get {α : Type} {xs : List α} {y d : α} {i : Nat} (h : xs[i]? = some y) : xs.getD ((i : Int)).toNat d = y := by
  rw [toNat_cast, List.getD_eq_getElem?_getD, h]; rfl
theorem rd_get {xs : List Int} {y : Int} {i : Nat} (h : xs[i]? = some y) : rd xs (i : Int) = y := getD_get h
/-- What is left of a, n taken off; -1 if it isn't enough. -/
def left (a : Int) (n : Nat) : Int := if a < (n : Int) then -1 else a - (n : Int)
theorem left_lt {a : Int} {n : Nat} (h : a < (n : Int)) : left a n = -1 := if_pos h
theorem left_ge {a : Int} {n : Nat} (h : (n : Int) ≤ a) : left a n = a - (n : Int) := if_neg (by omega)
/-- How many values rows hold, the rows counted too. -/
def tot : List (List Int) → Nat
  | [] => 0
  | y :: ys => 1 + y.length + tot ys
def sumLen : List (List Int) → Nat
  | [] => 0
  | y :: ys => y.length + sumLen ys
theorem tot_eq : ∀ ls : List (List Int), tot ls = ls.length + sumLen ls
  | [] => rfl
  | y :: ys => by simp only [tot, sumLen, List.length_cons, tot_eq ys]; omega
theorem sumLen_mem : ∀ {ls : List (List Int)} {y : List Int}, y ∈ ls → y.length ≤ sumLen ls
  | z :: zs, y, h => by
    rcases List.mem_cons.1 h with rfl | h
    · simp only [sumLen]; omega
    · have := sumLen_mem h; simp only [sumLen]; omega

/-! ### A list that is copied, element for element -/
theorem copy_step {α : Type} {m x : List α} {y : α} {i : Nat} (hm : m[i]? = some y) (hl : x.length = m.length) (ht : x.take i = m.take i) : (x.set i y).length = m.length ∧ (x.set i y).take (i + 1) = m.take (i + 1) := by
  obtain ⟨hi, rfl⟩ := List.getElem?_eq_some_iff.1 hm
  refine ⟨by simpa using hl, ?_⟩
  apply List.ext_getElem?
  intro j
  have hj : (x.take i)[j]? = (m.take i)[j]? := by rw [ht]
  rw [List.getElem?_take, List.getElem?_take] at *
  by_cases h1 : j < i + 1
  · rw [if_pos h1, if_pos h1]
    by_cases h2 : j = i
    · subst h2
      rw [List.getElem?_set_self (by omega), List.getElem?_eq_getElem hi]
    · rw [List.getElem?_set_ne (by omega)]
      rw [if_pos (by omega), if_pos (by omega)] at hj
      exact hj
  · rw [if_neg h1, if_neg h1]
theorem copy_end {α : Type} {m x : List α} {i : Nat} (hl : x.length = m.length) (ht : x.take i = m.take i) (hi : m.length ≤ i) : x = m := by
  rw [List.take_of_length_le (by omega), List.take_of_length_le hi] at ht; exact ht

/-! ### Strictly increasing lists of 0..n-1 -/
/-! ### Numbers marked and held -/
def markI : Nat → Int → List Int
  | 0, _ => []
  | n + 1, k => k :: markI n (k + 1)
theorem markI_length : ∀ (n : Nat) (k : Int), (markI n k).length = n
  | 0, _ => rfl
  | n + 1, k => by simp [markI, markI_length n (k + 1)]
theorem markI_get : ∀ (n : Nat) (k : Int) (j : Nat), j < n → (markI n k)[j]? = some (k + j)
  | 0, _, _, h => by omega
  | n + 1, k, 0, _ => by simp [markI]
  | n + 1, k, j + 1, h => by simp only [markI, List.getElem?_cons_succ]; rw [markI_get n (k + 1) j (by omega)]; congr 1; push_cast; omega
end Go.Proofs.Ytagnldmaglbpaaa.Kit
namespace Go.Proofs.Ytagnldmaglbpaaa.Model
open Go.RowKit Go.Proofs.YtagnldmaglbpaaaW.PrintWords Go.Proofs.Ytagnldmaglbpaaa.Kit

/-- Numbers within bounds, all of them. -/
def allIn (lo hi : Int) : List Int → Bool
  | [] => true
  | y :: ys => decide (lo ≤ y ∧ y ≤ hi) && allIn lo hi ys
theorem allIn_mem {lo hi : Int} : ∀ {ys : List Int}, allIn lo hi ys = true → ∀ y ∈ ys, lo ≤ y ∧ y ≤ hi
  | [], _, y, hy => by cases hy
  | z :: zs, h, y, hy => by
    simp only [allIn, Bool.and_eq_true, decide_eq_true_eq] at h
    rcases List.mem_cons.1 hy with rfl | hy
    · exact h.1
    · exact allIn_mem h.2 y hy
theorem allIn_get {lo hi : Int} {ys : List Int} (h : allIn lo hi ys = true) {i : Nat} {y : Int} (hy : ys[i]? = some y) : lo ≤ y ∧ y ≤ hi := allIn_mem h y (List.mem_of_getElem? hy)
def rowOk (l : List Int) : Bool := decide (l.length = 12) && allIn 0 100000000000 l
def rowsOk : List (List Int) → Bool
  | [] => true
  | y :: ys => rowOk y && rowsOk ys
theorem rowsOk_mem : ∀ {ls : List (List Int)}, rowsOk ls = true → ∀ y ∈ ls, rowOk y = true
  | z :: zs, h, y, hy => by
    simp only [rowsOk, Bool.and_eq_true] at h
    rcases List.mem_cons.1 hy with rfl | hy
    · exact h.1
    · exact rowsOk_mem h.2 y hy
theorem row_len {y : List Int} (h : rowOk y = true) : y.length = 12 := by simp [rowOk] at h; exact h.1
theorem row_rd {y : List Int} (h : rowOk y = true) (i : Nat) (hi : i < 12) : 0 ≤ rd y (i : Int) ∧ rd y (i : Int) ≤ 100000000000 := by
  have hl := row_len h
  simp only [rowOk, Bool.and_eq_true] at h
  have hg : y[i]? = some (y[i]'(by omega)) := List.getElem?_eq_getElem (by omega)
  rw [rd_get hg]
  exact allIn_get h.2 hg
end Go.Proofs.Ytagnldmaglbpaaa.Model
namespace Go.Proofs.Ytagnldmaglbpaaa.PureFnExactMilledIn
open Go.RowKit Go.Proofs.Ytagnldmaglbpaaa.PFnExactMilledIn Go.Proofs.YtagnldmaglbpaaaW.PrintWords Go.Proofs.YtagnldmaglbpaaaW.PrintLast Go.Proofs.YtagnldmaglbpaaaW.PrintMore Go.Proofs.Ytagnldmaglbpaaa.Kit Go.Proofs.Ytagnldmaglbpaaa.Model
theorem laws_eqIntS_l0 (l : List Int) (hn : l.length ≤ 9223372036854775807) : ∀ (ys : List Int) (i : Nat), l.drop i = ys → Ev (fun k => laws_eqIntS.l0 k l l i) true
  | [], i, h => Ev.next0 fun k => by
      have h0 := drop_nil h
      simp only [laws_eqIntS.l0]
      rw [if_neg (by omega)]
  | y :: ys, i, h => by
      obtain ⟨h1, h2, h3⟩ := drop_cons h
      refine Ev.next1 (laws_eqIntS_l0 l hn ys (i + 1) h3) fun k hk => ?_
      have e := rd_drop h
      simp only [laws_eqIntS.l0, e]
      rw [if_pos (by omega), if_pos (by omega), if_pos (by omega), if_pos (by simp), wrap_succ h1 hn]
      exact hk
theorem laws_eqIntS_ev (l : List Int) (hn : l.length ≤ 9223372036854775807) : Ev (fun k => laws_eqIntS.f k l l) true :=
  Ev.of1 (laws_eqIntS_l0 l hn l 0 rfl) fun k hk => by
    simp only [laws_eqIntS.f]
    rw [if_pos (by simp)]
    exact hk
theorem laws_markIntS_l0 (n : Nat) (c : Int) (hc : 0 ≤ c) (hb : c + n ≤ 9223372036854775807) : ∀ (d i : Nat) (x : List Int), i + d = n → x.length = n → x.take i = (markI n c).take i → Ev (fun k => laws_markIntS.l0 k x (c + (i : Int)) i) (c + (n : Int), markI n c)
  | 0, i, x, hd, hl, ht => Ev.next0 fun k => by
      simp only [laws_markIntS.l0]
      rw [if_neg (by omega), copy_end (by rw [hl, markI_length]) ht (by rw [markI_length]; omega), show i = n by omega]
  | d + 1, i, x, hd, hl, ht => by
      obtain ⟨c1, c2⟩ := copy_step (markI_get n c i (by omega)) (by rw [hl, markI_length]) ht
      refine Ev.next1 (laws_markIntS_l0 n c hc hb d (i + 1) _ (by omega) (by rw [c1, markI_length]) c2) fun k hk => ?_
      simp only [laws_markIntS.l0]
      rw [if_pos (by omega), if_pos (by omega), wrap_succ (n := n) (by omega) (by omega), wrap_id (by omega) (by omega), toNat_cast, show c + (i : Int) + 1 = c + ((i + 1 : Nat) : Int) by push_cast; omega]
      exact hk
theorem laws_markIntS_ev (x : List Int) (c : Int) (hc : 0 ≤ c) (hb : c + x.length ≤ 9223372036854775807) : Ev (fun k => laws_markIntS.f k x c) (c + (x.length : Int), markI x.length c) :=
  Ev.of1 (laws_markIntS_l0 x.length c hc hb x.length 0 x (by omega) rfl rfl) fun k hk => by
    simp only [laws_markIntS.f]
    rw [show c + ((0 : Nat) : Int) = c by omega] at hk
    exact hk
theorem laws_heldIntS_l0 (n : Nat) (c : Int) (hc : 0 ≤ c) (hb : c + n ≤ 9223372036854775807) : ∀ (d i : Nat), i + d = n → Ev (fun k => laws_heldIntS.l0 k (markI n c) (c + (i : Int)) i) (c + (n : Int))
  | 0, i, hd => Ev.next0 fun k => by
      simp only [laws_heldIntS.l0]
      rw [if_neg (by rw [markI_length]; omega), show i = n by omega]
  | d + 1, i, hd => by
      refine Ev.next1 (laws_heldIntS_l0 n c hc hb d (i + 1) (by omega)) fun k hk => ?_
      have e := rd_get (markI_get n c i (by omega))
      simp only [laws_heldIntS.l0, e]
      rw [if_pos (by rw [markI_length]; omega), if_pos (by omega), if_pos (by simp), wrap_succ (n := n) (by omega) (by omega), wrap_id (by omega) (by omega), show c + (i : Int) + 1 = c + ((i + 1 : Nat) : Int) by push_cast; omega]
      exact hk
theorem laws_heldIntS_ev (n : Nat) (c : Int) (hc : 0 ≤ c) (hb : c + n ≤ 9223372036854775807) : Ev (fun k => laws_heldIntS.f k (markI n c) c) (c + (n : Int)) :=
  Ev.of1 (laws_heldIntS_l0 n c hc hb n 0 (by omega)) fun k hk => by
    simp only [laws_heldIntS.f]
    rw [show c + ((0 : Nat) : Int) = c by omega] at hk
    exact hk
theorem laws_szIntS_eq (l : List Int) (a : Int) (h0 : 0 ≤ a) (ha : a ≤ 1048576) (hn : l.length ≤ 9223372036854775807) : laws_szIntS.f l a = some (if a < l.length then -1 else a - l.length) := by
  simp only [laws_szIntS.f]
  rw [wrap_id (by omega) (by omega)]
  split
  · rw [if_pos (by omega)]
  · rw [if_neg (by omega)]
theorem laws_szIntSS_l0 (l : List (List Int)) (hn : l.length ≤ 9223372036854775807) (hl : ∀ y ∈ l, y.length ≤ 9223372036854775807) : ∀ (ys : List (List Int)) (i : Nat) (a : Int), l.drop i = ys → 0 ≤ a → a ≤ 1048576 → Ev (fun k => laws_szIntSS.l0 k l a i) (left a (sumLen ys))
  | [], i, a, h, h0, ha => Ev.next0 fun k => by
      have := drop_nil h
      simp only [laws_szIntSS.l0]
      rw [if_neg (by omega), left_ge (by show ((0 : Nat) : Int) ≤ a; omega)]
      congr 1; show a = a - ((0 : Nat) : Int); omega
  | y :: ys, i, a, h, h0, ha => by
      obtain ⟨h1, h2, h3⟩ := drop_cons h
      have e : rd_L1 l i = y := getD_drop h
      have e2 := laws_szIntS_eq y a h0 ha (hl y (List.mem_of_getElem? h2))
      have hs : sumLen (y :: ys) = y.length + sumLen ys := rfl
      by_cases hy : a < (y.length : Int)
      · refine Ev.next0 fun k => ?_
        simp only [laws_szIntSS.l0, e, e2, Option.bind_some]
        rw [if_pos (by omega), if_pos (by omega), if_pos hy, if_pos (by omega), left_lt (by omega)]
      · refine Ev.next1 (laws_szIntSS_l0 l hn hl ys (i + 1) (a - y.length) h3 (by omega) (by omega)) fun k hk => ?_
        simp only [laws_szIntSS.l0, e, e2, Option.bind_some]
        rw [if_pos (by omega), if_pos (by omega), if_neg hy, if_neg (by omega), wrap_succ h1 hn, hk]
        congr 1
        by_cases hq : a - (y.length : Int) < (sumLen ys : Int)
        · rw [left_lt hq, left_lt (by omega)]
        · rw [left_ge (by omega), left_ge (by omega)]; omega
theorem laws_szIntSS_ev (l : List (List Int)) (a : Int) (hn : l.length ≤ 9223372036854775807) (hl : ∀ y ∈ l, y.length ≤ 9223372036854775807) (h0 : 0 ≤ a) (ha : a ≤ 1048576) : Ev (fun k => laws_szIntSS.f k l a) (left a (tot l)) := by
  have ht := tot_eq l
  by_cases h : a < (l.length : Int)
  · refine Ev.all fun k => ?_
    simp only [laws_szIntSS.f]
    rw [wrap_id (by omega) (by omega), if_pos (by omega), left_lt (by omega)]
  · refine Ev.of1 (laws_szIntSS_l0 l hn hl l 0 (a - l.length) rfl (by omega) (by omega)) fun k hk => ?_
    simp only [laws_szIntSS.f]
    rw [wrap_id (by omega) (by omega), if_neg (by omega)]
    refine hk.trans ?_
    congr 1
    by_cases hq : a < (tot l : Int)
    · rw [left_lt (by omega), left_lt hq]
    · rw [left_ge (by omega), left_ge (by omega)]; omega
theorem spec_l1In_eq (a lo hi : Int) : spec_l1In.f a lo hi = some (decide (lo ≤ a ∧ a ≤ hi)) := by
  unfold spec_l1In.f
  split
  · congr 1; simp; omega
  · congr 1; simp; omega
theorem spec_l1All_l0 (lo hi : Int) (l : List Int) (hn : l.length ≤ 9223372036854775807) : ∀ (ys : List Int) (i : Nat), l.drop i = ys → Ev (fun k => spec_l1All.l0 k lo hi l (l.length : Int) i) (allIn lo hi ys)
  | [], i, h => Ev.next0 fun k => by
      have h0 := drop_nil h
      simp only [spec_l1All.l0, allIn]
      rw [if_neg (by omega)]
  | y :: ys, i, h => by
      obtain ⟨h1, h2, h3⟩ := drop_cons h
      refine Ev.next1 (spec_l1All_l0 lo hi l hn ys (i + 1) h3) fun k hk => ?_
      have e := rd_drop h
      simp only [spec_l1All.l0, e, spec_l1In_eq, Option.bind_some]
      rw [if_pos (by omega), if_pos (by omega), if_pos (by omega), wrap_succ h1 hn]
      by_cases hy : lo ≤ y ∧ y ≤ hi
      · rw [if_pos (decide_eq_true hy), hk]; simp [allIn, hy]
      · rw [if_neg (by simp; omega)]; simp [allIn, hy]
theorem spec_l1All_ev (l : List Int) (lo hi : Int) (hn : l.length ≤ 9223372036854775807) : Ev (fun k => spec_l1All.f k l lo hi) (allIn lo hi l) :=
  Ev.of1 (spec_l1All_l0 lo hi l hn l 0 rfl) fun k hk => by simp only [spec_l1All.f]; exact hk
theorem spec_acRow_ev (l : List Int) (hn : l.length ≤ 9223372036854775807) : Ev (fun k => spec_acRow.f k l) (rowOk l) :=
  Ev.of1 (spec_l1All_ev l 0 100000000000 hn) fun k hk => by
    simp only [spec_acRow.f, hk, Option.bind_some, rowOk]
    by_cases h : l.length = 12
    · rw [if_pos (by omega)]; simp [h]
    · rw [if_neg (by omega)]; simp [h]
theorem spec_acRows_l0 (l : List (List Int)) (hn : l.length ≤ 1048576) (hl : ∀ y ∈ l, y.length ≤ 1048576) : ∀ (ys : List (List Int)) (i : Nat), l.drop i = ys → Ev (fun k => spec_acRows.l0 k l l (l.length : Int) i) (decide (l.length ≤ 6) && rowsOk ys)
  | [], i, h => Ev.next0 fun k => by
      have h0 := drop_nil h
      simp only [spec_acRows.l0, rowsOk]
      rw [if_neg (by omega)]; congr 1; simp; omega
  | y :: ys, i, h => by
      obtain ⟨h1, h2, h3⟩ := drop_cons h
      have hy := hl y (List.mem_of_getElem? h2)
      refine Ev.next2 (spec_acRows_l0 l hn hl ys (i + 1) h3) (spec_acRow_ev y (by omega)) fun k hk hk2 => ?_
      have e : rd_L1 l i = y := getD_drop h
      simp only [spec_acRows.l0, e, hk2, Option.bind_some]
      rw [if_pos (by omega), if_pos (by omega), if_pos (by omega), wrap_succ h1 (by omega)]
      by_cases hr : rowOk y = true
      · rw [if_pos hr, hk]; simp [rowsOk, hr]
      · rw [if_neg hr]; simp [rowsOk, hr]
theorem spec_acRows_ev (l : List (List Int)) (hn : l.length ≤ 1048576) (hl : ∀ y ∈ l, y.length ≤ 1048576) : Ev (fun k => spec_acRows.f k l) (decide (l.length ≤ 6) && rowsOk l) :=
  Ev.of1 (spec_acRows_l0 l hn hl l 0 rfl) fun k hk => by simp only [spec_acRows.f]; exact hk
def milled (ys : List (List Int)) : List Int := ys.map fun y => rd y 3 + rd y 9
def milledIn (l : List (List Int)) : List Int × Bool := if l.length ≤ 6 ∧ rowsOk l = true then (milled l, true) else ([], false)
theorem milledIn_len (l : List (List Int)) : (milledIn l).1.length ≤ l.length := by
  unfold milledIn
  split <;> simp [milled]
-- needs: milledin_model
theorem spec_MilledIn_l0 (l : List (List Int)) (hn : l.length ≤ 1048576) (hr : rowsOk l = true) : ∀ (ys : List (List Int)) (i : Nat) (o : List Int), l.drop i = ys → o.length ≤ i → Ev (fun k => spec_MilledIn.l0 k o l (l.length : Int) i) (o ++ milled ys, true)
  | [], i, o, h, ho => Ev.next0 fun k => by
      have h0 := drop_nil h
      simp only [spec_MilledIn.l0, milled, List.map_nil, List.append_nil]
      rw [if_neg (by omega)]
  | y :: ys, i, o, h, ho => by
      obtain ⟨h1, h2, h3⟩ := drop_cons h
      have hy := rowsOk_mem hr y (List.mem_of_getElem? h2)
      have hyl := row_len hy
      have r3 : 0 ≤ rd y 3 ∧ rd y 3 ≤ 100000000000 := row_rd hy 3 (by omega)
      have r9 : 0 ≤ rd y 9 ∧ rd y 9 ≤ 100000000000 := row_rd hy 9 (by omega)
      have ih := spec_MilledIn_l0 l hn hr ys (i + 1) (o ++ [rd y 3 + rd y 9]) h3 (by simp; omega)
      rw [List.append_assoc] at ih
      refine Ev.next1 ih fun k hk => ?_
      have e : rd_L1 l i = y := getD_drop h
      simp only [spec_MilledIn.l0, e]
      rw [if_pos (by omega), if_pos (by omega), if_pos (by omega), if_pos (by omega), if_pos (by omega), if_pos (by omega), wrap_id (x := rd y 3 + rd y 9) (by omega) (by omega), wrap_succ h1 (by omega)]
      exact hk
theorem spec_MilledIn_ev (l : List (List Int)) (hn : l.length ≤ 1048576) (hl : ∀ y ∈ l, y.length ≤ 1048576) : Ev (fun k => spec_MilledIn.f k l) (milledIn l) := by
  by_cases h : l.length ≤ 6 ∧ rowsOk l = true
  · have ef : milledIn l = (milled l, true) := by rw [milledIn, if_pos h]
    refine (ev_and (spec_acRows_ev l hn hl) <| ev_one (spec_MilledIn_l0 l hn h.2 l 0 [] rfl (by simp))).ev fun k ⟨h1, h2⟩ => ?_
    simp only [spec_MilledIn.f, h1, Option.bind_some]
    rw [if_pos (by simpa using h), ef]; exact h2
  · have ef : milledIn l = ([], false) := by rw [milledIn, if_neg h]
    refine (ev_one (spec_acRows_ev l hn hl)).ev fun k h1 => ?_
    simp only [spec_MilledIn.f, h1, Option.bind_some]
    rw [if_neg (by simpa using h), ef]
theorem laws_toIntS_l0 (l : List Int) (hn : l.length ≤ 9223372036854775807) : ∀ (ys : List Int) (i : Nat) (x : List Int), l.drop i = ys → x.length = l.length → x.take i = l.take i → Ev (fun k => laws_toIntS.l0 k l x i) l
  | [], i, x, h, hl, ht => Ev.next0 fun k => by
      have h0 := drop_nil h
      have h1 : l.length = l.length := by simp
      simp only [laws_toIntS.l0]
      rw [if_neg (by omega), copy_end hl ht (by omega)]
  | y :: ys, i, x, h, hl, ht => by
      obtain ⟨h1, h2, h3⟩ := drop_cons h
      have hm : l.length = l.length := by simp
      have hg : l[i]? = some y := by simp [h2]
      obtain ⟨c1, c2⟩ := copy_step hg hl ht
      refine Ev.next1 (laws_toIntS_l0 l hn ys (i + 1) (x.set i y) h3 c1 c2) fun k hk => ?_
      have e := rd_drop h
      simp only [laws_toIntS.l0, e, Option.bind_some]
      rw [if_pos (by omega), if_pos (by omega), if_pos (by omega), wrap_succ h1 hn, toNat_cast]
      exact hk
theorem laws_toIntS_ev (l : List Int) (hn : l.length ≤ 35184372088832) : Ev (fun k => laws_toIntS.f k l) l :=
  Ev.of1 (laws_toIntS_l0 l (by omega) l 0 (List.replicate ((l.length : Int)).toNat 0) rfl (by simp) rfl) fun k hk => by
    simp only [laws_toIntS.f]
    rw [if_pos (by omega), if_pos (by omega)]
    exact hk
theorem laws_toIntSS_l0 (l : List (List Int)) (hn : l.length ≤ 1048576) (hl : ∀ y ∈ l, y.length ≤ 1048576) : ∀ (ys : List (List Int)) (i : Nat) (x : List (List Int)), l.drop i = ys → x.length = l.length → x.take i = l.take i → Ev (fun k => laws_toIntSS.l0 k l x i) l
  | [], i, x, h, hl', ht => Ev.next0 fun k => by
      have h0 := drop_nil h
      simp only [laws_toIntSS.l0]
      rw [if_neg (by omega), copy_end hl' ht (by omega)]
  | y :: ys, i, x, h, hl', ht => by
      obtain ⟨h1, h2, h3⟩ := drop_cons h
      obtain ⟨c1, c2⟩ := copy_step h2 hl' ht
      have hy := hl y (List.mem_of_getElem? h2)
      refine Ev.next2 (laws_toIntSS_l0 l hn hl ys (i + 1) (x.set i y) h3 c1 c2) (laws_toIntS_ev y (by omega)) fun k hk hk2 => ?_
      have e : rd_L1 l i = y := getD_drop h
      simp only [laws_toIntSS.l0, e, hk2, Option.bind_some]
      rw [if_pos (by omega), if_pos (by omega), if_pos (by omega), wrap_succ h1 (by omega), toNat_cast]
      exact hk
theorem laws_toIntSS_ev (l : List (List Int)) (hn : l.length ≤ 1048576) (hl : ∀ y ∈ l, y.length ≤ 1048576) : Ev (fun k => laws_toIntSS.f k l) l :=
  Ev.of1 (laws_toIntSS_l0 l hn hl l 0 (List.replicate ((l.length : Int)).toNat []) rfl (by simp) rfl) fun k hk => by
    simp only [laws_toIntSS.f]
    rw [if_pos (by omega), if_pos (by omega)]
    exact hk
theorem impl_isAccountRow_l0 (l : List Int) (hn : l.length ≤ 9223372036854775807) : ∀ (ys : List Int) (i : Nat), l.drop i = ys → Ev (fun k => impl_isAccountRow.l0 k l (l.length : Int) i) (allIn 0 100000000000 ys)
  | [], i, h => Ev.next0 fun k => by
      have h0 := drop_nil h
      simp only [impl_isAccountRow.l0, allIn]
      rw [if_neg (by omega)]
  | y :: ys, i, h => by
      obtain ⟨h1, h2, h3⟩ := drop_cons h
      refine Ev.next1 (impl_isAccountRow_l0 l hn ys (i + 1) h3) fun k hk => ?_
      have e := rd_drop h
      simp only [impl_isAccountRow.l0, e]
      rw [if_pos (by omega), if_pos (by omega), if_pos (by omega), wrap_succ h1 hn]
      by_cases hy : 0 ≤ y
      · rw [if_neg (by omega)]
        by_cases hz : y ≤ 100000000000
        · rw [if_neg (by omega), hk]; simp [allIn, hy, hz]
        · rw [if_pos (by omega)]; simp [allIn, hz]
      · rw [if_pos (by omega)]; simp [allIn, hy]
theorem impl_isAccountRow_ev (l : List Int) (hn : l.length ≤ 9223372036854775807) : Ev (fun k => impl_isAccountRow.f k l) (rowOk l) :=
  Ev.of1 (impl_isAccountRow_l0 l hn l 0 rfl) fun k hk => by
    simp only [impl_isAccountRow.f, rowOk]
    by_cases h : l.length = 12
    · rw [if_pos (by omega)]; simpa [h] using hk
    · rw [if_neg (by omega)]; simp [h]
theorem impl_areAccountRows_l0 (l : List (List Int)) (hn : l.length ≤ 1048576) (hl : ∀ y ∈ l, y.length ≤ 1048576) : ∀ (ys : List (List Int)) (i : Nat), l.drop i = ys → Ev (fun k => impl_areAccountRows.l0 k l (l.length : Int) i) (rowsOk ys)
  | [], i, h => Ev.next0 fun k => by
      have h0 := drop_nil h
      simp only [impl_areAccountRows.l0, rowsOk]
      rw [if_neg (by omega)]
  | y :: ys, i, h => by
      obtain ⟨h1, h2, h3⟩ := drop_cons h
      have hy := hl y (List.mem_of_getElem? h2)
      refine Ev.next2 (impl_areAccountRows_l0 l hn hl ys (i + 1) h3) (impl_isAccountRow_ev y (by omega)) fun k hk hk2 => ?_
      have e : rd_L1 l i = y := getD_drop h
      simp only [impl_areAccountRows.l0, e, hk2, Option.bind_some]
      rw [if_pos (by omega), if_pos (by omega), if_pos (by omega), wrap_succ h1 (by omega)]
      by_cases hr : rowOk y = true
      · rw [if_pos hr, hk]; simp [rowsOk, hr]
      · rw [if_neg hr]; simp [rowsOk, hr]
theorem impl_areAccountRows_ev (l : List (List Int)) (hn : l.length ≤ 1048576) (hl : ∀ y ∈ l, y.length ≤ 1048576) : Ev (fun k => impl_areAccountRows.f k l) (decide (l.length ≤ 6) && rowsOk l) :=
  Ev.of1 (impl_areAccountRows_l0 l hn hl l 0 rfl) fun k hk => by
    simp only [impl_areAccountRows.f]
    by_cases h : l.length ≤ 6
    · rw [if_neg (by omega)]; simpa [h] using hk
    · rw [if_pos (by omega)]; simp [h]
-- needs: milledin_model
theorem impl_MilledIn_l0 (l : List (List Int)) (hn : l.length ≤ 1048576) (hr : rowsOk l = true) : ∀ (ys : List (List Int)) (i : Nat) (o : List Int), l.drop i = ys → o.length ≤ i → Ev (fun k => impl_MilledIn.l0 k o l (l.length : Int) i) (o ++ milled ys, true)
  | [], i, o, h, ho => Ev.next0 fun k => by
      have h0 := drop_nil h
      simp only [impl_MilledIn.l0, milled, List.map_nil, List.append_nil]
      rw [if_neg (by omega)]
  | y :: ys, i, o, h, ho => by
      obtain ⟨h1, h2, h3⟩ := drop_cons h
      have hy := rowsOk_mem hr y (List.mem_of_getElem? h2)
      have hyl := row_len hy
      have r3 : 0 ≤ rd y 3 ∧ rd y 3 ≤ 100000000000 := row_rd hy 3 (by omega)
      have r9 : 0 ≤ rd y 9 ∧ rd y 9 ≤ 100000000000 := row_rd hy 9 (by omega)
      have ih := impl_MilledIn_l0 l hn hr ys (i + 1) (o ++ [rd y 3 + rd y 9]) h3 (by simp; omega)
      rw [List.append_assoc] at ih
      refine Ev.next1 ih fun k hk => ?_
      have e : rd_L1 l i = y := getD_drop h
      simp only [impl_MilledIn.l0, e]
      rw [if_pos (by omega), if_pos (by omega), if_pos (by omega), if_pos (by omega), if_pos (by omega), if_pos (by omega), wrap_id (x := rd y 3 + rd y 9) (by omega) (by omega), wrap_succ h1 (by omega)]
      exact hk
theorem impl_MilledIn_ev (l : List (List Int)) (hn : l.length ≤ 1048576) (hl : ∀ y ∈ l, y.length ≤ 1048576) : Ev (fun k => impl_MilledIn.f k l) (milledIn l) := by
  by_cases h : l.length ≤ 6 ∧ rowsOk l = true
  · have ef : milledIn l = (milled l, true) := by rw [milledIn, if_pos h]
    refine (ev_and (impl_areAccountRows_ev l hn hl) <| ev_one (impl_MilledIn_l0 l hn h.2 l 0 [] rfl (by simp))).ev fun k ⟨h1, h2⟩ => ?_
    simp only [impl_MilledIn.f, h1, Option.bind_some]
    rw [if_pos (by simpa using h), ef]; exact h2
  · have ef : milledIn l = ([], false) := by rw [milledIn, if_neg h]
    refine (ev_one (impl_areAccountRows_ev l hn hl)).ev fun k h1 => ?_
    simp only [impl_MilledIn.f, h1, Option.bind_some]
    rw [if_neg (by simpa using h), ef]
theorem laws_eqIntSS_l0 (l : List (List Int)) (hn : l.length ≤ 1048576) (hl : ∀ y ∈ l, y.length ≤ 1048576) : ∀ (ys : List (List Int)) (i : Nat), l.drop i = ys → Ev (fun k => laws_eqIntSS.l0 k l l i) true
  | [], i, h => Ev.next0 fun k => by
      have h0 := drop_nil h
      simp only [laws_eqIntSS.l0]
      rw [if_neg (by omega)]
  | y :: ys, i, h => by
      obtain ⟨h1, h2, h3⟩ := drop_cons h
      have hy := hl y (List.mem_of_getElem? h2)
      refine Ev.next2 (laws_eqIntSS_l0 l hn hl ys (i + 1) h3) (laws_eqIntS_ev y (by omega)) fun k hk hk2 => ?_
      have e : rd_L1 l i = y := getD_drop h
      simp only [laws_eqIntSS.l0, e, hk2, Option.bind_some]
      rw [if_pos (by omega), if_pos (by omega), if_pos (by omega), if_pos (by simp), wrap_succ h1 (by omega)]
      exact hk
theorem laws_eqIntSS_ev (l : List (List Int)) (hn : l.length ≤ 1048576) (hl : ∀ y ∈ l, y.length ≤ 1048576) : Ev (fun k => laws_eqIntSS.f k l l) true :=
  Ev.of1 (laws_eqIntSS_l0 l hn hl l 0 rfl) fun k hk => by
    simp only [laws_eqIntSS.f]
    rw [if_pos (by simp)]
    exact hk
theorem drop_set {α : Type} (a : List α) (i : Nat) (v : α) : (a.set i v).drop (i + 1) = a.drop (i + 1) := by
  apply List.ext_getElem?
  intro j
  rw [List.getElem?_drop, List.getElem?_drop, List.getElem?_set_ne (by omega)]
theorem laws_markIntSS_l0 : ∀ (ys x : List (List Int)) (i : Nat) (c : Int), x.drop i = ys → x.length ≤ 1048576 → 0 ≤ c → c + (sumLen ys : Int) ≤ 4611686018427387904 → ∃ rr, Ev (fun k => laws_markIntSS.l0 k x c i) (c + (sumLen ys : Int), rr)
  | [], x, i, c, h, hn, hc, hb => ⟨x, Ev.next0 fun k => by
      have h0 := drop_nil h
      simp only [laws_markIntSS.l0, sumLen]
      rw [if_neg (by omega), show c + ((0 : Nat) : Int) = c by omega]⟩
  | y :: ys, x, i, c, h, hn, hc, hb => by
      obtain ⟨h1, h2, h3⟩ := drop_cons h
      simp only [sumLen] at hb ⊢
      have hd : (x.set i (markI y.length c)).drop (i + 1) = ys := by rw [drop_set, h3]
      obtain ⟨rr, ih⟩ := laws_markIntSS_l0 ys (x.set i (markI y.length c)) (i + 1) (c + (y.length : Int)) hd (by simpa using hn) (by omega) (by push_cast at hb; omega)
      have hm := laws_markIntS_ev y c hc (by push_cast at hb; omega)
      rw [show c + (y.length : Int) + (sumLen ys : Int) = c + ((y.length + sumLen ys : Nat) : Int) by push_cast; omega] at ih
      refine ⟨rr, Ev.next2 hm ih fun k k1 k2 => ?_⟩
      have e : rd_L1 x i = y := getD_drop h
      simp only [laws_markIntSS.l0, e, k1, Option.bind_some]
      rw [if_pos (by omega), if_pos (by omega), wrap_succ h1 (by omega), toNat_cast]
      exact k2
theorem laws_markIntSS_ev (l : List (List Int)) (c : Int) (hn : l.length ≤ 1048576) (hc : 0 ≤ c) (hb : c + (sumLen l : Int) ≤ 4611686018427387904) : Ev (fun k => laws_markIntSS.f k l c) (c + (sumLen l : Int)) := by
  obtain ⟨rr, h⟩ := laws_markIntSS_l0 l l 0 c rfl hn hc hb
  exact Ev.of1 h fun k hk => by
    simp only [laws_markIntSS.f, laws_markIntSS.p]
    rw [show ((0 : Nat) : Int) = 0 from rfl] at hk
    rw [hk]; rfl
theorem j2_ev (n : Nat) (hn : n ≤ 1048576) : Ev (fun k => laws_FnExactMilledIn.j2 k (markI n 1) (1 + (n : Int)) false) true :=
  (ev_one (laws_heldIntS_ev n 1 (by omega) (by omega))).next fun k h1 => by
    simp only [laws_FnExactMilledIn.j2, h1, Option.bind_some]
    rw [if_neg (by simp), if_neg (by omega), if_pos (by simp)]
theorem j1_ev (l : List (List Int)) (hn : l.length ≤ 1048576) (hl : ∀ y ∈ l, y.length ≤ 1048576) (hq : sumLen l ≤ 1048576) (v : List Int × Bool) (hv : v = milledIn l) : Ev (fun k => laws_FnExactMilledIn.j1 k l v.1 v.2 v.1 false) true := by
  have hw := milledIn_len l
  have hi := impl_MilledIn_ev l hn hl
  rw [← hv] at hw hi
  refine (ev_and (laws_markIntS_ev v.1 1 (by omega) (by omega)) <| ev_and (laws_heldIntS_ev v.1.length 1 (by omega) (by omega)) <| ev_and (laws_toIntSS_ev l hn hl) <| ev_and hi <| ev_and (laws_eqIntS_ev v.1 (by omega)) <| ev_one (j2_ev v.1.length (by omega))).next fun k ⟨h1, h2, h3, h4, h5, h6⟩ => ?_
  simp only [laws_FnExactMilledIn.j1, h1, h2, h3, h4, h5, Option.bind_some]
  rw [if_neg (by simp), if_neg (by omega), if_pos (by simp), if_pos (by simp), bne_self_eq_false]; exact h6
theorem j0_ev (l : List (List Int)) (hn : l.length ≤ 1048576) (hl : ∀ y ∈ l, y.length ≤ 1048576) (hq : sumLen l ≤ 1048576) (v : List Int × Bool) (hv : v = milledIn l) : Ev (fun k => laws_FnExactMilledIn.j0 k l v.1 v.2 l v.1 v.2 false) true := by
  have hw := milledIn_len l
  rw [← hv] at hw
  refine (ev_and (laws_toIntSS_ev l hn hl) <| ev_and (laws_eqIntSS_ev l hn hl) <| ev_and (laws_markIntSS_ev l 1 hn (by omega) (by omega)) <| ev_and (laws_eqIntS_ev v.1 (by omega)) <| ev_one (j1_ev l hn hl hq v hv)).next fun k ⟨h1, h2, h3, h4, h5⟩ => ?_
  simp only [laws_FnExactMilledIn.j0, h1, h2, h3, h4, Option.bind_some]
  rw [if_neg (by simp), if_pos (by simp), if_neg (by omega), if_pos (by simp), bne_self_eq_false]; exact h5
theorem FnExactMilledIn : Stat.FnExactMilledIn := by
  intro l hl
  refine Ev.rounds ?_
  have hs := laws_szIntSS_ev l 1048576 hl.1 (fun y hy => (hl.2 y hy).1) (by omega) (by omega)
  by_cases hg : (1048576 : Int) < (tot l : Int)
  · refine (ev_one hs).ev fun k h1 => ?_
    simp only [laws_FnExactMilledIn.f, h1, Option.bind_some]
    rw [left_lt hg, if_pos (by omega)]
  · have ht := tot_eq l
    have hn : l.length ≤ 1048576 := by omega
    have hm : ∀ y ∈ l, y.length ≤ 1048576 := fun y hy => by have := sumLen_mem hy; omega
    have hw := milledIn_len l
    refine (ev_and hs <| ev_and (laws_toIntSS_ev l hn hm) <| ev_and (spec_MilledIn_ev l hn hm) <| ev_and (impl_MilledIn_ev l hn hm) <| ev_and (laws_eqIntS_ev (milledIn l).1 (by omega)) <| ev_one (j0_ev l hn hm (by omega) _ rfl)).ev fun k ⟨h0, h1, h2, h3, h4, h5⟩ => ?_
    simp only [laws_FnExactMilledIn.f, h0, h1, h2, h3, h4, Option.bind_some]
    rw [left_ge (by omega), if_neg (by omega), if_pos (by simp), bne_self_eq_false]; exact h5
end Go.Proofs.Ytagnldmaglbpaaa.PureFnExactMilledIn
namespace Go.Proofs.Ytagnldmaglbpaaa.Pure
theorem FnExactMilledIn : Stat.FnExactMilledIn := PureFnExactMilledIn.FnExactMilledIn
end Go.Proofs.Ytagnldmaglbpaaa.Pure
