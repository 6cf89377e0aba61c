/- The law FnExactLevelGaps over numbers and lists: it is true of every input. -/
import Derived.Test.YtagnldmaglbpaaaStatFnExactLevelGaps
import Derived.Test.YtagnldmaglbpaaaWMore
set_option linter.unusedVariables false
set_option linter.unusedSimpArgs false
namespace Go.Proofs.Ytagnldmaglbpaaa.Kit
open Go.RowKit Go.Proofs.YtagnldmaglbpaaaW.PrintWords Go.Proofs.YtagnldmaglbpaaaW.PrintMore

/-! ### Rounds -/
theorem Ev.all {α : Type} {g : Nat → Option α} {r : α} (h : ∀ k, g k = some r) : Ev g r := ⟨0, fun k _ => h k⟩
theorem Ev.of1 {α β : Type} {g : Nat → Option α} {f : Nat → Option β} {r : α} {b : β} (h : Ev f b) (k : ∀ k, f k = some b → g k = some r) : Ev g r := by
  obtain ⟨K, h⟩ := h; exact ⟨K, fun n hn => k n (h n hn)⟩
theorem Ev.next0 {α : Type} {g : Nat → Option α} {r : α} (h : ∀ k, g (k + 1) = some r) : Ev g r :=
  ⟨1, fun n hn => by obtain ⟨m, rfl⟩ : ∃ m, n = m + 1 := ⟨n - 1, by omega⟩; exact h m⟩
theorem Ev.next1 {α β : Type} {g : Nat → Option α} {f : Nat → Option β} {r : α} {b : β} (h : Ev f b) (k : ∀ k, f k = some b → g (k + 1) = some r) : Ev g r := by
  obtain ⟨K, h⟩ := h
  exact ⟨K + 1, fun n hn => by obtain ⟨m, rfl⟩ : ∃ m, n = m + 1 := ⟨n - 1, by omega⟩; exact k m (h m (by omega))⟩
theorem Ev.next2 {α β γ : Type} {g : Nat → Option α} {f : Nat → Option β} {f' : Nat → Option γ} {r : α} {b : β} {c : γ} (h : Ev f b) (h' : Ev f' c) (k : ∀ k, f k = some b → f' k = some c → g (k + 1) = some r) : Ev g r := by
  obtain ⟨K, h⟩ := h; obtain ⟨K', h'⟩ := h'
  exact ⟨K + K' + 1, fun n hn => by obtain ⟨m, rfl⟩ : ∃ m, n = m + 1 := ⟨n - 1, by omega⟩; exact k m (h m (by omega)) (h' m (by omega))⟩
/-- From some number of rounds on. -/
def Evt (p : Nat → Prop) : Prop := ∃ K, ∀ k, K ≤ k → p k
theorem ev_one {α : Type} {f : Nat → Option α} {a : α} (h : Ev f a) : Evt (fun k => f k = some a) := h
theorem ev_and {α : Type} {f : Nat → Option α} {a : α} {p : Nat → Prop} (h : Ev f a) (h' : Evt p) : Evt (fun k => f k = some a ∧ p k) := by
  obtain ⟨K, h⟩ := h; obtain ⟨K', h'⟩ := h'; exact ⟨K + K', fun n hn => ⟨h n (by omega), h' n (by omega)⟩⟩
theorem Evt.ev {α : Type} {g : Nat → Option α} {r : α} {p : Nat → Prop} (h : Evt p) (k : ∀ k, p k → g k = some r) : Ev g r := by
  obtain ⟨K, h⟩ := h; exact ⟨K, fun n hn => k n (h n hn)⟩
theorem Evt.next {α : Type} {g : Nat → Option α} {r : α} {p : Nat → Prop} (h : Evt p) (k : ∀ k, p k → g (k + 1) = some r) : Ev g r := by
  obtain ⟨K, h⟩ := h
  exact ⟨K + 1, fun n hn => by obtain ⟨m, rfl⟩ : ∃ m, n = m + 1 := ⟨n - 1, by omega⟩; exact k m (h m (by omega))⟩

/-! ### Whole numbers -/
theorem wrap_id {x : Int} (h0 : -9223372036854775808 ≤ x) (h1 : x ≤ 9223372036854775807) : wrap64 x = x := by unfold wrap64; omega
theorem wrap_succ {i n : Nat} (h : i < n) (hn : n ≤ 9223372036854775807) : wrap64 ((i : Int) + 1) = ((i + 1 : Nat) : Int) := by unfold wrap64; omega
theorem toNat_cast (i : Nat) : ((i : Int)).toNat = i := by omega

/-! ### Lists from an index on -/
theorem drop_cons {α : Type} {xs ys : List α} {y : α} {i : Nat} (h : xs.drop i = y :: ys) : i < xs.length ∧ xs[i]? = some y ∧ xs.drop (i + 1) = ys := by
  have hlt : i < xs.length := by
    by_cases hlt : i < xs.length
    · exact hlt
    · rw [List.drop_of_length_le (by omega)] at h; cases h
  rw [List.drop_eq_getElem_cons hlt] at h
  injection h with h1 h2
  exact ⟨hlt, by rw [List.getElem?_eq_getElem hlt, h1], h2⟩
theorem drop_nil {α : Type} {xs : List α} {i : Nat} (h : xs.drop i = []) : xs.length ≤ i := by simpa using h
theorem getD_drop {α : Type} {xs ys : List α} {y d : α} {i : Nat} (h : xs.drop i = y :: ys) : xs.getD ((i : Int)).toNat d = y := by
  rw [toNat_cast, List.getD_eq_getElem?_getD, (drop_cons h).2.1]; rfl
theorem rd_drop {xs ys : List Int} {y : Int} {i : Nat} (h : xs.drop i = y :: ys) : rd xs (i : Int) = y := getD_drop h
theorem getD_get {α : Type} {xs : List α} {y d : α} {i : Nat} (h : xs[i]? = some y) : xs.getD ((i : Int)).toNat d = y := by
  rw [toNat_cast, List.getD_eq_getElem?_getD, h]; rfl
theorem rd_get {xs : List Int} {y : Int} {i : Nat} (h : xs[i]? = some y) : rd xs (i : Int) = y := getD_get h
/-- What is left of a, n taken off; -1 if it isn't enough. -/
def left (a : Int) (n : Nat) : Int := if a < (n : Int) then -1 else a - (n : Int)
theorem left_lt {a : Int} {n : Nat} (h : a < (n : Int)) : left a n = -1 := if_pos h
theorem left_ge {a : Int} {n : Nat} (h : (n : Int) ≤ a) : left a n = a - (n : Int) := if_neg (by omega)
def sumLen : List (List Int) → Nat
  | [] => 0
  | y :: ys => y.length + sumLen ys
/-! ### A list that is copied, element for element -/
theorem copy_step {α : Type} {m x : List α} {y : α} {i : Nat} (hm : m[i]? = some y) (hl : x.length = m.length) (ht : x.take i = m.take i) : (x.set i y).length = m.length ∧ (x.set i y).take (i + 1) = m.take (i + 1) := by
  obtain ⟨hi, rfl⟩ := List.getElem?_eq_some_iff.1 hm
  refine ⟨by simpa using hl, ?_⟩
  apply List.ext_getElem?
  intro j
  have hj : (x.take i)[j]? = (m.take i)[j]? := by rw [ht]
  rw [List.getElem?_take, List.getElem?_take] at *
  by_cases h1 : j < i + 1
  · rw [if_pos h1, if_pos h1]
    by_cases h2 : j = i
    · subst h2
      rw [List.getElem?_set_self (by omega), List.getElem?_eq_getElem hi]
    · rw [List.getElem?_set_ne (by omega)]
      rw [if_pos (by omega), if_pos (by omega)] at hj
      exact hj
  · rw [if_neg h1, if_neg h1]
theorem copy_end {α : Type} {m x : List α} {i : Nat} (hl : x.length = m.length) (ht : x.take i = m.take i) (hi : m.length ≤ i) : x = m := by
  rw [List.take_of_length_le (by omega), List.take_of_length_le hi] at ht; exact ht

/-! ### Strictly increasing lists of 0..n-1 -/
/-! ### Numbers marked and held -/
def markI : Nat → Int → List Int
  | 0, _ => []
  | n + 1, k => k :: markI n (k + 1)
theorem markI_length : ∀ (n : Nat) (k : Int), (markI n k).length = n
  | 0, _ => rfl
  | n + 1, k => by simp [markI, markI_length n (k + 1)]
theorem markI_get : ∀ (n : Nat) (k : Int) (j : Nat), j < n → (markI n k)[j]? = some (k + j)
  | 0, _, _, h => by omega
  | n + 1, k, 0, _ => by simp [markI]
  | n + 1, k, j + 1, h => by simp only [markI, List.getElem?_cons_succ]; rw [markI_get n (k + 1) j (by omega)]; congr 1; push_cast; omega
end Go.Proofs.Ytagnldmaglbpaaa.Kit
namespace Go.Proofs.Ytagnldmaglbpaaa.Model
open Go.RowKit Go.Proofs.YtagnldmaglbpaaaW.PrintWords Go.Proofs.Ytagnldmaglbpaaa.Kit

/-- Numbers within bounds, all of them. -/
def allIn (lo hi : Int) : List Int → Bool
  | [] => true
  | y :: ys => decide (lo ≤ y ∧ y ≤ hi) && allIn lo hi ys
theorem allIn_mem {lo hi : Int} : ∀ {ys : List Int}, allIn lo hi ys = true → ∀ y ∈ ys, lo ≤ y ∧ y ≤ hi
  | [], _, y, hy => by cases hy
  | z :: zs, h, y, hy => by
    simp only [allIn, Bool.and_eq_true, decide_eq_true_eq] at h
    rcases List.mem_cons.1 hy with rfl | hy
    · exact h.1
    · exact allIn_mem h.2 y hy
theorem allIn_get {lo hi : Int} {ys : List Int} (h : allIn lo hi ys = true) {i : Nat} {y : Int} (hy : ys[i]? = some y) : lo ≤ y ∧ y ≤ hi := allIn_mem h y (List.mem_of_getElem? hy)
def gridOk (x y z : Int) : Bool := decide (1 ≤ x ∧ x ≤ 8 ∧ 1 ≤ y ∧ y ≤ 6 ∧ 1 ≤ z ∧ z ≤ 5 ∧ x * y * z ≤ 120)
theorem grid_prod {x y z : Int} (hx : 1 ≤ x ∧ x ≤ 8) (hy : 1 ≤ y ∧ y ≤ 6) (hz : 1 ≤ z ∧ z ≤ 5) : 1 ≤ x * y ∧ x * y ≤ 48 ∧ 1 ≤ x * y * z ∧ x * y * z ≤ 240 := by
  rcases (by omega : x = 1 ∨ x = 2 ∨ x = 3 ∨ x = 4 ∨ x = 5 ∨ x = 6 ∨ x = 7 ∨ x = 8) with rfl | rfl | rfl | rfl | rfl | rfl | rfl | rfl <;>
    rcases (by omega : z = 1 ∨ z = 2 ∨ z = 3 ∨ z = 4 ∨ z = 5) with rfl | rfl | rfl | rfl | rfl <;> omega
theorem grid_ok {x y z : Int} (h : gridOk x y z = true) : (1 ≤ x ∧ x ≤ 8) ∧ (1 ≤ y ∧ y ≤ 6) ∧ (1 ≤ z ∧ z ≤ 5) ∧ 1 ≤ x * y ∧ x * y ≤ 48 ∧ 1 ≤ x * y * z ∧ x * y * z ≤ 120 := by
  simp only [gridOk, decide_eq_true_eq] at h
  have := grid_prod (x := x) (y := y) (z := z) (by omega) (by omega) (by omega)
  omega
theorem grid_wrap {x y z : Int} (hx : 1 ≤ x ∧ x ≤ 8) (hy : 1 ≤ y ∧ y ≤ 6) (hz : 1 ≤ z ∧ z ≤ 5) : wrap64 (wrap64 (x * y) * z) = x * y * z := by
  have := grid_prod hx hy hz
  rw [wrap_id (x := x * y) (by omega) (by omega), wrap_id (by omega) (by omega)]
def modelOk (x y z : Int) (t g r : List Int) : Bool := gridOk x y z && decide ((t.length : Int) = x * y * z ∧ (g.length : Int) = x * y * z ∧ (r.length : Int) = x * y * z) && (allIn 0 10000 t && (allIn 0 1000 g && allIn 0 4 r))
end Go.Proofs.Ytagnldmaglbpaaa.Model
namespace Go.Proofs.Ytagnldmaglbpaaa.PureFnExactLevelGaps
open Go.RowKit Go.Proofs.Ytagnldmaglbpaaa.PFnExactLevelGaps Go.Proofs.YtagnldmaglbpaaaW.PrintWords Go.Proofs.YtagnldmaglbpaaaW.PrintLast Go.Proofs.YtagnldmaglbpaaaW.PrintMore Go.Proofs.Ytagnldmaglbpaaa.Kit Go.Proofs.Ytagnldmaglbpaaa.Model
theorem laws_szIntS_eq (l : List Int) (a : Int) (h0 : 0 ≤ a) (ha : a ≤ 1048576) (hn : l.length ≤ 9223372036854775807) : laws_szIntS.f l a = some (if a < l.length then -1 else a - l.length) := by
  simp only [laws_szIntS.f]
  rw [wrap_id (by omega) (by omega)]
  split
  · rw [if_pos (by omega)]
  · rw [if_neg (by omega)]
theorem laws_szModel_eq (x y z : Int) (t g r : List Int) (a : Int) (h0 : 0 ≤ a) (ha : a ≤ 1048576) (ht : t.length ≤ 9223372036854775807) (hg : g.length ≤ 9223372036854775807) (hr : r.length ≤ 9223372036854775807) : laws_szModel.f x y z t g r a = some (left a (t.length + g.length + r.length)) := by
  simp only [laws_szModel.f, laws_szIntS_eq t a h0 ha ht, Option.bind_some]
  by_cases h1 : a < (t.length : Int)
  · rw [if_pos h1, if_pos (by omega), left_lt (by omega)]
  · rw [if_neg h1, if_neg (by omega), laws_szIntS_eq g _ (by omega) (by omega) hg, Option.bind_some]
    by_cases h2 : a - (t.length : Int) < (g.length : Int)
    · rw [if_pos h2, if_pos (by omega), left_lt (by omega)]
    · rw [if_neg h2, if_neg (by omega), laws_szIntS_eq r _ (by omega) (by omega) hr, Option.bind_some]
      by_cases h3 : a - (t.length : Int) - (g.length : Int) < (r.length : Int)
      · rw [if_pos h3, if_pos (by omega), left_lt (by omega)]
      · rw [if_neg h3, if_neg (by omega), left_ge (by omega)]; congr 1; omega
theorem laws_toIntS_l0 (l : List Int) (hn : l.length ≤ 9223372036854775807) : ∀ (ys : List Int) (i : Nat) (x : List Int), l.drop i = ys → x.length = l.length → x.take i = l.take i → Ev (fun k => laws_toIntS.l0 k l x i) l
  | [], i, x, h, hl, ht => Ev.next0 fun k => by
      have h0 := drop_nil h
      have h1 : l.length = l.length := by simp
      simp only [laws_toIntS.l0]
      rw [if_neg (by omega), copy_end hl ht (by omega)]
  | y :: ys, i, x, h, hl, ht => by
      obtain ⟨h1, h2, h3⟩ := drop_cons h
      have hm : l.length = l.length := by simp
      have hg : l[i]? = some y := by simp [h2]
      obtain ⟨c1, c2⟩ := copy_step hg hl ht
      refine Ev.next1 (laws_toIntS_l0 l hn ys (i + 1) (x.set i y) h3 c1 c2) fun k hk => ?_
      have e := rd_drop h
      simp only [laws_toIntS.l0, e, Option.bind_some]
      rw [if_pos (by omega), if_pos (by omega), if_pos (by omega), wrap_succ h1 hn, toNat_cast]
      exact hk
theorem laws_toIntS_ev (l : List Int) (hn : l.length ≤ 35184372088832) : Ev (fun k => laws_toIntS.f k l) l :=
  Ev.of1 (laws_toIntS_l0 l (by omega) l 0 (List.replicate ((l.length : Int)).toNat 0) rfl (by simp) rfl) fun k hk => by
    simp only [laws_toIntS.f]
    rw [if_pos (by omega), if_pos (by omega)]
    exact hk
theorem laws_toModel_ev (x y z : Int) (t g r : List Int) (ht : t.length ≤ 1048576) (hg : g.length ≤ 1048576) (hr : r.length ≤ 1048576) : Ev (fun k => laws_toModel.f k x y z t g r) (x, y, z, t, g, r) :=
  (ev_and (laws_toIntS_ev t (by omega)) <| ev_and (laws_toIntS_ev g (by omega)) <| ev_one (laws_toIntS_ev r (by omega))).ev fun k ⟨h1, h2, h3⟩ => by
    simp only [laws_toModel.f, laws_toGrid.f, h1, h2, h3, Option.bind_some]
theorem laws_eqIntS_l0 (l : List Int) (hn : l.length ≤ 9223372036854775807) : ∀ (ys : List Int) (i : Nat), l.drop i = ys → Ev (fun k => laws_eqIntS.l0 k l l i) true
  | [], i, h => Ev.next0 fun k => by
      have h0 := drop_nil h
      simp only [laws_eqIntS.l0]
      rw [if_neg (by omega)]
  | y :: ys, i, h => by
      obtain ⟨h1, h2, h3⟩ := drop_cons h
      refine Ev.next1 (laws_eqIntS_l0 l hn ys (i + 1) h3) fun k hk => ?_
      have e := rd_drop h
      simp only [laws_eqIntS.l0, e]
      rw [if_pos (by omega), if_pos (by omega), if_pos (by omega), if_pos (by simp), wrap_succ h1 hn]
      exact hk
theorem laws_eqIntS_ev (l : List Int) (hn : l.length ≤ 9223372036854775807) : Ev (fun k => laws_eqIntS.f k l l) true :=
  Ev.of1 (laws_eqIntS_l0 l hn l 0 rfl) fun k hk => by
    simp only [laws_eqIntS.f]
    rw [if_pos (by simp)]
    exact hk
theorem laws_eqModel_ev (x y z : Int) (t g r : List Int) (ht : t.length ≤ 1048576) (hg : g.length ≤ 1048576) (hr : r.length ≤ 1048576) : Ev (fun k => laws_eqModel.f k x y z t g r x y z t g r) true :=
  (ev_and (laws_eqIntS_ev t (by omega)) <| ev_and (laws_eqIntS_ev g (by omega)) <| ev_one (laws_eqIntS_ev r (by omega))).ev fun k ⟨h1, h2, h3⟩ => by
    simp [laws_eqModel.f, laws_eqGrid.f, h1, h2, h3]
theorem laws_markIntS_l0 (n : Nat) (c : Int) (hc : 0 ≤ c) (hb : c + n ≤ 9223372036854775807) : ∀ (d i : Nat) (x : List Int), i + d = n → x.length = n → x.take i = (markI n c).take i → Ev (fun k => laws_markIntS.l0 k x (c + (i : Int)) i) (c + (n : Int), markI n c)
  | 0, i, x, hd, hl, ht => Ev.next0 fun k => by
      simp only [laws_markIntS.l0]
      rw [if_neg (by omega), copy_end (by rw [hl, markI_length]) ht (by rw [markI_length]; omega), show i = n by omega]
  | d + 1, i, x, hd, hl, ht => by
      obtain ⟨c1, c2⟩ := copy_step (markI_get n c i (by omega)) (by rw [hl, markI_length]) ht
      refine Ev.next1 (laws_markIntS_l0 n c hc hb d (i + 1) _ (by omega) (by rw [c1, markI_length]) c2) fun k hk => ?_
      simp only [laws_markIntS.l0]
      rw [if_pos (by omega), if_pos (by omega), wrap_succ (n := n) (by omega) (by omega), wrap_id (by omega) (by omega), toNat_cast, show c + (i : Int) + 1 = c + ((i + 1 : Nat) : Int) by push_cast; omega]
      exact hk
theorem laws_markIntS_ev (x : List Int) (c : Int) (hc : 0 ≤ c) (hb : c + x.length ≤ 9223372036854775807) : Ev (fun k => laws_markIntS.f k x c) (c + (x.length : Int), markI x.length c) :=
  Ev.of1 (laws_markIntS_l0 x.length c hc hb x.length 0 x (by omega) rfl rfl) fun k hk => by
    simp only [laws_markIntS.f]
    rw [show c + ((0 : Nat) : Int) = c by omega] at hk
    exact hk
theorem laws_markModel_ev (x y z : Int) (t g r : List Int) (ht : t.length ≤ 1048576) (hg : g.length ≤ 1048576) (hr : r.length ≤ 1048576) (c : Int) (hc : 0 ≤ c) (hb : c ≤ 9223372036850000000) : Ev (fun k => laws_markModel.f k x y z t g r c) (c + (t.length : Int) + (g.length : Int) + (r.length : Int), markI t.length c, markI g.length (c + (t.length : Int)), markI r.length (c + (t.length : Int) + (g.length : Int))) :=
  (ev_and (laws_markIntS_ev t c hc (by omega)) <| ev_and (laws_markIntS_ev g (c + (t.length : Int)) (by omega) (by omega)) <| ev_one (laws_markIntS_ev r (c + (t.length : Int) + (g.length : Int)) (by omega) (by omega))).ev fun k ⟨h1, h2, h3⟩ => by
    simp only [laws_markModel.f, h1, h2, h3, Option.bind_some]
theorem laws_eqIntSS_l0 (l : List (List Int)) (hn : l.length ≤ 1048576) (hl : ∀ y ∈ l, y.length ≤ 1048576) : ∀ (ys : List (List Int)) (i : Nat), l.drop i = ys → Ev (fun k => laws_eqIntSS.l0 k l l i) true
  | [], i, h => Ev.next0 fun k => by
      have h0 := drop_nil h
      simp only [laws_eqIntSS.l0]
      rw [if_neg (by omega)]
  | y :: ys, i, h => by
      obtain ⟨h1, h2, h3⟩ := drop_cons h
      have hy := hl y (List.mem_of_getElem? h2)
      refine Ev.next2 (laws_eqIntSS_l0 l hn hl ys (i + 1) h3) (laws_eqIntS_ev y (by omega)) fun k hk hk2 => ?_
      have e : rd_L1 l i = y := getD_drop h
      simp only [laws_eqIntSS.l0, e, hk2, Option.bind_some]
      rw [if_pos (by omega), if_pos (by omega), if_pos (by omega), if_pos (by simp), wrap_succ h1 (by omega)]
      exact hk
theorem laws_eqIntSS_ev (l : List (List Int)) (hn : l.length ≤ 1048576) (hl : ∀ y ∈ l, y.length ≤ 1048576) : Ev (fun k => laws_eqIntSS.f k l l) true :=
  Ev.of1 (laws_eqIntSS_l0 l hn hl l 0 rfl) fun k hk => by
    simp only [laws_eqIntSS.f]
    rw [if_pos (by simp)]
    exact hk
theorem spec_l1In_eq (a lo hi : Int) : spec_l1In.f a lo hi = some (decide (lo ≤ a ∧ a ≤ hi)) := by
  unfold spec_l1In.f
  split
  · congr 1; simp; omega
  · congr 1; simp; omega
theorem spec_grGood_eq (x y z : Int) : spec_grGood.f x y z = some (gridOk x y z) := by
  simp only [spec_grGood.f, spec_l1In_eq, Option.bind_some, decide_eq_true_eq, gridOk]
  by_cases hx : 1 ≤ x ∧ x ≤ 8
  · rw [if_pos hx]
    by_cases hy : 1 ≤ y ∧ y ≤ 6
    · rw [if_pos hy]
      by_cases hz : 1 ≤ z ∧ z ≤ 5
      · rw [if_pos hz, grid_wrap hx hy hz]; congr 1; simp [hx, hy, hz]
      · rw [if_neg hz]; congr 1; symm; simp; omega
    · rw [if_neg hy]; congr 1; symm; simp; omega
  · rw [if_neg hx]; congr 1; symm; simp; omega
theorem spec_grCount_eq (x y z : Int) (h : gridOk x y z = true) : spec_grCount.f x y z = some (x * y * z) := by
  have hb := grid_ok h
  simp only [spec_grCount.f]
  rw [grid_wrap hb.1 hb.2.1 hb.2.2.1]
theorem spec_l1All_l0 (lo hi : Int) (l : List Int) (hn : l.length ≤ 9223372036854775807) : ∀ (ys : List Int) (i : Nat), l.drop i = ys → Ev (fun k => spec_l1All.l0 k lo hi l (l.length : Int) i) (allIn lo hi ys)
  | [], i, h => Ev.next0 fun k => by
      have h0 := drop_nil h
      simp only [spec_l1All.l0, allIn]
      rw [if_neg (by omega)]
  | y :: ys, i, h => by
      obtain ⟨h1, h2, h3⟩ := drop_cons h
      refine Ev.next1 (spec_l1All_l0 lo hi l hn ys (i + 1) h3) fun k hk => ?_
      have e := rd_drop h
      simp only [spec_l1All.l0, e, spec_l1In_eq, Option.bind_some]
      rw [if_pos (by omega), if_pos (by omega), if_pos (by omega), wrap_succ h1 hn]
      by_cases hy : lo ≤ y ∧ y ≤ hi
      · rw [if_pos (decide_eq_true hy), hk]; simp [allIn, hy]
      · rw [if_neg (by simp; omega)]; simp [allIn, hy]
theorem spec_l1All_ev (l : List Int) (lo hi : Int) (hn : l.length ≤ 9223372036854775807) : Ev (fun k => spec_l1All.f k l lo hi) (allIn lo hi l) :=
  Ev.of1 (spec_l1All_l0 lo hi l hn l 0 rfl) fun k hk => by simp only [spec_l1All.f]; exact hk
theorem spec_moGood_ev (x y z : Int) (t g r : List Int) (ht : t.length ≤ 1048576) (hg : g.length ≤ 1048576) (hr : r.length ≤ 1048576) : Ev (fun k => spec_moGood.f k x y z t g r) (modelOk x y z t g r) :=
  (ev_and (spec_l1All_ev t 0 10000 (by omega)) <| ev_and (spec_l1All_ev g 0 1000 (by omega)) <| ev_one (spec_l1All_ev r 0 4 (by omega))).ev fun k ⟨h1, h2, h3⟩ => by
    simp only [spec_moGood.f, spec_grGood_eq, Option.bind_some, modelOk]
    by_cases h : gridOk x y z = true
    · rw [if_pos h, spec_grCount_eq x y z h, Option.bind_some, h1, h2, h3]
      simp only [Option.bind_some, h, Bool.true_and]
      by_cases e1 : (t.length : Int) = x * y * z
      · rw [if_pos e1]
        by_cases e2 : (g.length : Int) = x * y * z
        · rw [if_pos e2]
          by_cases e3 : (r.length : Int) = x * y * z
          · rw [if_pos e3, decide_eq_true ⟨e1, e2, e3⟩]
            cases allIn 0 10000 t <;> cases allIn 0 1000 g <;> simp
          · rw [if_neg e3, decide_eq_false (fun h => e3 h.2.2)]; rfl
        · rw [if_neg e2, decide_eq_false (fun h => e2 h.2.1)]; rfl
      · rw [if_neg e1, decide_eq_false (fun h => e1 h.1)]; rfl
    · rw [if_neg h]; simp [h]
theorem spec_rcBoth_ev (x y z : Int) (t g r : List Int) (x' y' z' : Int) (t' g' r' : List Int) (ht : t.length ≤ 1048576) (hg : g.length ≤ 1048576) (hr : r.length ≤ 1048576) (ht' : t'.length ≤ 1048576) (hg' : g'.length ≤ 1048576) (hr' : r'.length ≤ 1048576) : Ev (fun k => spec_rcBoth.f k x y z t g r x' y' z' t' g' r') (modelOk x y z t g r && (modelOk x' y' z' t' g' r' && (x == x' && (y == y' && (z == z'))))) :=
  (ev_and (spec_moGood_ev x y z t g r ht hg hr) <| ev_one (spec_moGood_ev x' y' z' t' g' r' ht' hg' hr')).ev fun k ⟨h1, h2⟩ => by
    simp only [spec_rcBoth.f, h1, h2, Option.bind_some]
    by_cases h : modelOk x y z t g r = true
    · rw [if_pos h, h]
      by_cases h' : modelOk x' y' z' t' g' r' = true
      · rw [if_pos h', h']; rfl
      · rw [if_neg h']; simp [h']
    · rw [if_neg h]; simp [h]
/-- The lists of a model that is good: their lengths and bounds. -/
theorem model_ok {x y z : Int} {t g r : List Int} (h : modelOk x y z t g r = true) : gridOk x y z = true ∧ ((t.length : Int) = x * y * z ∧ (g.length : Int) = x * y * z ∧ (r.length : Int) = x * y * z) ∧ allIn 0 10000 t = true ∧ allIn 0 1000 g = true ∧ allIn 0 4 r = true := by
  simp only [modelOk, Bool.and_eq_true, decide_eq_true_eq] at h
  exact ⟨h.1.1, h.1.2, h.2.1, h.2.2.1, h.2.2.2⟩
theorem rd_in {lo hi : Int} {l : List Int} (h : allIn lo hi l = true) {i : Int} (h0 : 0 ≤ i) (h1 : i < (l.length : Int)) : lo ≤ rd l i ∧ rd l i ≤ hi := by
  have hg : l[i.toNat]? = some (l[i.toNat]'(by omega)) := List.getElem?_eq_getElem (by omega)
  have h5 := rd_get hg
  rw [show ((i.toNat : Nat) : Int) = i by omega] at h5
  rw [h5]; exact allIn_get h hg
theorem metal_bd {t g : List Int} (ht : allIn 0 10000 t = true) (hg : allIn 0 1000 g = true) {i : Int} (h0 : 0 ≤ i) (h1 : i < (t.length : Int)) (h2 : i < (g.length : Int)) : (0 ≤ rd t i ∧ rd t i ≤ 10000) ∧ 0 ≤ rd t i * rd g i ∧ rd t i * rd g i ≤ 10000000 := by
  have a := rd_in ht h0 h1; have b := rd_in hg h0 h2
  exact ⟨a, Int.mul_nonneg a.1 b.1, Int.mul_le_mul (a := rd t i) (b := rd g i) (c := 10000) (d := 1000) a.2 b.2 b.1 (by omega)⟩
theorem spec_moMetal_eq (x y z : Int) (t g r : List Int) (i : Int) (ht : allIn 0 10000 t = true) (hg : allIn 0 1000 g = true) (h0 : 0 ≤ i) (h1 : i < (t.length : Int)) (h2 : i < (g.length : Int)) : spec_moMetal.f x y z t g r i = some (rd t i * rd g i) := by
  have hb := metal_bd ht hg h0 h1 h2
  simp only [spec_moMetal.f]
  rw [if_pos h0, if_pos h1, if_pos h2, wrap_id (by omega) (by omega)]
-- needs: spec_moMetal
/-- Tonnes, and metal, of chosen blocks. -/
def selT (t : List Int) : List Int → Int
  | [] => 0
  | q :: qs => rd t q + selT t qs
def selM (t g : List Int) : List Int → Int
  | [] => 0
  | q :: qs => rd t q * rd g q + selM t g qs
theorem sel_bd {t g : List Int} (ht : allIn 0 10000 t = true) (hg : allIn 0 1000 g = true) : ∀ I : List Int, (∀ q ∈ I, 0 ≤ q ∧ q < (t.length : Int) ∧ q < (g.length : Int)) → (0 ≤ selT t I ∧ selT t I ≤ 10000 * (I.length : Int)) ∧ (0 ≤ selM t g I ∧ selM t g I ≤ 10000000 * (I.length : Int))
  | [], _ => by simp [selT, selM]
  | q :: qs, h => by
    have hq := h q (by simp)
    have hb := metal_bd ht hg hq.1 hq.2.1 hq.2.2
    have ih := sel_bd ht hg qs (fun u hu => h u (by simp [hu]))
    simp only [selT, selM, List.length_cons]; push_cast; omega
theorem spec_moSums_l0 (x y z : Int) (t g r : List Int) (ht : allIn 0 10000 t = true) (hg : allIn 0 1000 g = true) (I : List Int) (hI : I.length ≤ 1048576) (hin : ∀ q ∈ I, 0 ≤ q ∧ q < (t.length : Int) ∧ q < (g.length : Int)) : ∀ (qs : List Int) (j : Nat) (a m : Int), I.drop j = qs → (0 ≤ a ∧ a ≤ 10000 * (j : Int)) → (0 ≤ m ∧ m ≤ 10000000 * (j : Int)) →
    Ev (fun k => spec_moSums.l0 k a m I (I.length : Int) j x y z t g r) (a + selT t qs, m + selM t g qs)
  | [], j, a, m, hj, ha, hm => Ev.next0 fun k => by
      have h0 := drop_nil hj
      simp only [spec_moSums.l0, selT, selM, Int.add_zero]
      rw [if_neg (by omega)]
  | q :: qs, j, a, m, hj, ha, hm => by
      obtain ⟨h1, h2, h3⟩ := drop_cons hj
      have e := rd_drop hj
      have hq := hin q (List.mem_of_getElem? h2)
      have hb := metal_bd ht hg hq.1 hq.2.1 hq.2.2
      refine Ev.next1 (spec_moSums_l0 x y z t g r ht hg I hI hin qs (j + 1) (a + rd t q) (m + rd t q * rd g q) h3 (by omega) (by omega)) fun k hk => ?_
      simp only [spec_moSums.l0, e, spec_moMetal_eq x y z t g r q ht hg hq.1 hq.2.1 hq.2.2, Option.bind_some, selT, selM]
      rw [if_pos (by omega), if_pos (by omega), if_pos (by omega), if_pos hq.1, if_pos hq.2.1, wrap_succ h1 (by omega), wrap_id (x := a + rd t q) (by omega) (by omega), wrap_id (x := m + rd t q * rd g q) (by omega) (by omega), ← Int.add_assoc, ← Int.add_assoc]
      exact hk
theorem spec_moSums_ev (x y z : Int) (t g r : List Int) (ht : allIn 0 10000 t = true) (hg : allIn 0 1000 g = true) (I : List Int) (hI : I.length ≤ 1048576) (hin : ∀ q ∈ I, 0 ≤ q ∧ q < (t.length : Int) ∧ q < (g.length : Int)) : Ev (fun k => spec_moSums.f k x y z t g r I) (selT t I, selM t g I) := by
  have h0 := spec_moSums_l0 x y z t g r ht hg I hI hin I 0 0 0 rfl (by omega) (by omega)
  rw [Int.zero_add, Int.zero_add] at h0
  exact Ev.of1 h0 fun k hk => by simp only [spec_moSums.f]; exact hk
/-- n blocks from s on. -/
def lv (s : Int) (n : Nat) : List Int := (List.range n).map fun (j : Nat) => s + (j : Int)
theorem lv_succ (s : Int) (n : Nat) : lv s (n + 1) = lv s n ++ [s + (n : Int)] := by simp [lv, List.range_succ]
theorem lv_length (s : Int) (n : Nat) : (lv s n).length = n := by simp [lv]
theorem lv_mem {s : Int} {n : Nat} {q : Int} (h : q ∈ lv s n) : s ≤ q ∧ q < s + (n : Int) := by
  simp only [lv, List.mem_map, List.mem_range] at h
  obtain ⟨j, hj, rfl⟩ := h; omega
theorem level_bd {x y Z w : Int} (hx : 1 ≤ x ∧ x ≤ 8) (hy : 1 ≤ y ∧ y ≤ 6) (hz : 1 ≤ Z ∧ Z ≤ 5) (h : 0 ≤ w ∧ w < Z) : 0 ≤ w * x ∧ w * x ≤ 40 ∧ 0 ≤ w * x * y ∧ w * x * y ≤ 240 ∧ w * x * y + x * y ≤ x * y * Z ∧ (w + 1) * x * y = w * x * y + x * y ∧ (w + 1) * x ≤ 48 ∧ 0 ≤ (w + 1) * x ∧ 1 ≤ x * y ∧ x * y ≤ 48 := by
  rcases (by omega : w = 0 ∨ w = 1 ∨ w = 2 ∨ w = 3 ∨ w = 4) with rfl | rfl | rfl | rfl | rfl <;>
    rcases (by omega : x = 1 ∨ x = 2 ∨ x = 3 ∨ x = 4 ∨ x = 5 ∨ x = 6 ∨ x = 7 ∨ x = 8) with rfl | rfl | rfl | rfl | rfl | rfl | rfl | rfl <;>
      rcases (by omega : Z = 1 ∨ Z = 2 ∨ Z = 3 ∨ Z = 4 ∨ Z = 5) with rfl | rfl | rfl | rfl | rfl <;> omega
-- needs: level_model
theorem spec_LevelBlocks_l0 (x y Z w : Int) (hx : 1 ≤ x ∧ x ≤ 8) (hy : 1 ≤ y ∧ y ≤ 6) (hz : 1 ≤ Z ∧ Z ≤ 5) (h : 0 ≤ w ∧ w < Z) (n : Nat) (hn : (n : Int) = x * y) : ∀ (m i : Nat), i + m = n → Ev (fun k => spec_LevelBlocks.l0 k w (lv (w * x * y) i) (i : Int) x y Z) (lv (w * x * y) n, true)
  | 0, i, hi => Ev.next0 fun k => by
      have hb := level_bd hx hy hz h
      simp only [spec_LevelBlocks.l0]
      rw [wrap_id (x := x * y) (by omega) (by omega), if_neg (by omega), show i = n by omega]
  | m + 1, i, hi => by
      have hb := level_bd hx hy hz h
      refine Ev.next1 (spec_LevelBlocks_l0 x y Z w hx hy hz h n hn m (i + 1) (by omega)) fun k hk => ?_
      simp only [spec_LevelBlocks.l0]
      rw [wrap_id (x := x * y) (by omega) (by omega), if_pos (by omega), if_pos (by rw [lv_length]; omega), wrap_id (x := w * x) (by omega) (by omega), wrap_id (x := w * x * y) (by omega) (by omega), wrap_id (x := w * x * y + (i : Int)) (by omega) (by omega), wrap_succ (n := n) (by omega) (by omega), ← lv_succ]
      exact hk
theorem spec_LevelBlocks_ev (x y Z w : Int) (hg : gridOk x y Z = true) (h : 0 ≤ w ∧ w < Z) (n : Nat) (hn : (n : Int) = x * y) : Ev (fun k => spec_LevelBlocks.f k x y Z w) (lv (w * x * y) n, true) := by
  have hb := grid_ok hg
  have i1 : Ev (fun k => spec_LevelBlocks.j0 k w false x y Z) (lv (w * x * y) n, true) := Ev.next1 (spec_LevelBlocks_l0 x y Z w hb.1 hb.2.1 hb.2.2.1 h n hn n 0 (by omega)) fun k hk => by
    simp only [spec_LevelBlocks.j0]
    rw [show lv (w * x * y) 0 = [] from rfl] at hk
    rw [if_neg (by simp)]; exact hk
  refine (ev_one i1).ev fun k k1 => ?_
  simp only [spec_LevelBlocks.f, spec_grGood_eq, spec_l1In_eq, Option.bind_some]
  rw [if_pos hg, wrap_id (x := Z - 1) (by omega) (by omega), show (!decide (0 ≤ w ∧ w ≤ Z - 1)) = false by simp; omega]; exact k1
-- needs: spec_moMetal spec_moSums level_model
/-- What a level holds, and by how much two levels differ. -/
def lvT (x y : Int) (t : List Int) (n i : Nat) : Int := selT t (lv ((i : Int) * x * y) n)
def lvM (x y : Int) (t g : List Int) (n i : Nat) : Int := selM t g (lv ((i : Int) * x * y) n)
def sumsTo (x y : Int) (t g : List Int) (n Z : Nat) : List (List Int) := (List.range Z).map fun i => [lvT x y t n i, lvM x y t g n i]
def gapsTo (x y : Int) (t g t' g' : List Int) (n Z : Nat) : List (List Int) := (List.range Z).map fun i => [lvT x y t' n i - lvT x y t n i, lvM x y t' g' n i - lvM x y t g n i]
theorem sumsTo_succ (x y : Int) (t g : List Int) (n Z : Nat) : sumsTo x y t g n (Z + 1) = sumsTo x y t g n Z ++ [[lvT x y t n Z, lvM x y t g n Z]] := by simp [sumsTo, List.range_succ]
theorem gapsTo_succ (x y : Int) (t g t' g' : List Int) (n Z : Nat) : gapsTo x y t g t' g' n (Z + 1) = gapsTo x y t g t' g' n Z ++ [[lvT x y t' n Z - lvT x y t n Z, lvM x y t' g' n Z - lvM x y t g n Z]] := by simp [gapsTo, List.range_succ]
theorem sumsTo_length (x y : Int) (t g : List Int) (n Z : Nat) : (sumsTo x y t g n Z).length = Z := by simp [sumsTo]
theorem gapsTo_length (x y : Int) (t g t' g' : List Int) (n Z : Nat) : (gapsTo x y t g t' g' n Z).length = Z := by simp [gapsTo]
theorem sumsTo_get {x y : Int} {t g : List Int} {n Z i : Nat} (h : i < Z) : rd_L1 (sumsTo x y t g n Z) (i : Int) = [lvT x y t n i, lvM x y t g n i] := getD_get (by simp [sumsTo, h])
/-- A level of a good model. -/
theorem level_in {x y z : Int} {t g r : List Int} (h : modelOk x y z t g r = true) {n i : Nat} (hn : (n : Int) = x * y) (hi : (i : Int) < z) : (∀ q ∈ lv ((i : Int) * x * y) n, 0 ≤ q ∧ q < (t.length : Int) ∧ q < (g.length : Int)) ∧ n ≤ 48 ∧ (0 ≤ lvT x y t n i ∧ lvT x y t n i ≤ 480000) ∧ (0 ≤ lvM x y t g n i ∧ lvM x y t g n i ≤ 480000000) := by
  obtain ⟨hgr, l1, v1, v2, _⟩ := model_ok h
  have hb := grid_ok hgr
  have hb2 := level_bd hb.1 hb.2.1 hb.2.2.1 (w := (i : Int)) (by omega)
  have hin : ∀ q ∈ lv ((i : Int) * x * y) n, 0 ≤ q ∧ q < (t.length : Int) ∧ q < (g.length : Int) := fun q hq => by have := lv_mem hq; omega
  have hs := sel_bd v1 v2 _ hin
  rw [lv_length] at hs
  refine ⟨hin, by omega, ?_, ?_⟩
  · simp only [lvT]; omega
  · simp only [lvM]; omega
-- needs: gap_model
theorem spec_rcLevels_l0 (x y z : Int) (t g r : List Int) (x' y' z' : Int) (t' g' r' : List Int) (h : modelOk x y z t g r = true ∧ modelOk x' y' z' t' g' r' = true ∧ x = x' ∧ y = y' ∧ z = z') (n Z : Nat) (hn : (n : Int) = x * y) (hz : (Z : Int) = z) : ∀ (m i : Nat), i + m = Z → Ev (fun k => spec_rcLevels.l0 k (gapsTo x y t g t' g' n i) (i : Int) x y z t g r x' y' z' t' g' r') (gapsTo x y t g t' g' n Z)
  | 0, i, hi => Ev.next0 fun k => by
      simp only [spec_rcLevels.l0]
      rw [if_neg (by omega), show i = Z by omega]
  | m + 1, i, hi => by
      obtain ⟨hgr, _, v1, v2, _⟩ := model_ok h.1
      obtain ⟨_, _, u1, u2, _⟩ := model_ok h.2.1
      have hb := grid_ok hgr
      have q1 := level_in h.1 hn (i := i) (by omega)
      have q2 := level_in h.2.1 (n := n) (i := i) (by rw [hn, h.2.2.1, h.2.2.2.1]) (by omega)
      rw [← h.2.2.1, ← h.2.2.2.1] at q2
      have e0 := spec_LevelBlocks_ev x y z (i : Int) hgr (by omega) n hn
      have e1 := spec_moSums_ev x y z t g r v1 v2 _ (by rw [lv_length]; omega) q1.1
      have e2 := spec_moSums_ev x' y' z' t' g' r' u1 u2 _ (by rw [lv_length]; omega) q2.1
      refine ((ev_and e0 <| ev_and e1 <| ev_and e2 <| ev_one (spec_rcLevels_l0 x y z t g r x' y' z' t' g' r' h n Z hn hz m (i + 1) (by omega))).next fun k ⟨k0, k1, k2, k3⟩ => ?_)
      simp only [spec_rcLevels.l0, k0, k1, k2, Option.bind_some]
      rw [if_pos (by omega), if_pos (by rw [gapsTo_length]; omega), wrap_succ (n := Z) (by omega) (by omega)]
      have p1 := q1.2.2; have p2 := q2.2.2
      rw [gapsTo_succ] at k3
      simp only [lvT, lvM] at p1 p2 k3
      rw [wrap_id (by omega) (by omega), wrap_id (by omega) (by omega)]
      exact k3
theorem spec_rcLevels_ev (x y z : Int) (t g r : List Int) (x' y' z' : Int) (t' g' r' : List Int) (h : modelOk x y z t g r = true ∧ modelOk x' y' z' t' g' r' = true ∧ x = x' ∧ y = y' ∧ z = z') (n Z : Nat) (hn : (n : Int) = x * y) (hz : (Z : Int) = z) : Ev (fun k => spec_rcLevels.f k x y z t g r x' y' z' t' g' r') (gapsTo x y t g t' g' n Z) :=
  Ev.of1 (spec_rcLevels_l0 x y z t g r x' y' z' t' g' r' h n Z hn hz Z 0 (by omega)) fun k hk => by simp only [spec_rcLevels.f]; exact hk
-- needs: gap_model
def levelGaps (x y z : Int) (t g r : List Int) (x' y' z' : Int) (t' g' r' : List Int) : List (List Int) × Bool := if modelOk x y z t g r = true ∧ modelOk x' y' z' t' g' r' = true ∧ x = x' ∧ y = y' ∧ z = z' then (gapsTo x y t g t' g' (x * y).toNat z.toNat, true) else ([], false)
-- needs: level_gaps
theorem spec_LevelGaps_ev (x y z : Int) (t g r : List Int) (x' y' z' : Int) (t' g' r' : List Int) (ht : t.length ≤ 1048576) (hg : g.length ≤ 1048576) (hr : r.length ≤ 1048576) (ht' : t'.length ≤ 1048576) (hg' : g'.length ≤ 1048576) (hr' : r'.length ≤ 1048576) : Ev (fun k => spec_LevelGaps.f k x y z t g r x' y' z' t' g' r') (levelGaps x y z t g r x' y' z' t' g' r') := by
  have h0 := spec_rcBoth_ev x y z t g r x' y' z' t' g' r' ht hg hr ht' hg' hr'
  by_cases h : modelOk x y z t g r = true ∧ modelOk x' y' z' t' g' r' = true ∧ x = x' ∧ y = y' ∧ z = z'
  · have hb := grid_ok (model_ok h.1).1
    have hn : (((x * y).toNat : Nat) : Int) = x * y := by omega
    have hz : ((z.toNat : Nat) : Int) = z := by omega
    have ef : levelGaps x y z t g r x' y' z' t' g' r' = (gapsTo x y t g t' g' (x * y).toNat z.toNat, true) := by rw [levelGaps, if_pos h]
    have s1 := spec_rcLevels_ev x y z t g r x' y' z' t' g' r' h _ _ hn hz
    refine (ev_and h0 <| ev_one s1).ev fun k ⟨k0, k1⟩ => ?_
    simp only [spec_LevelGaps.f, k0, k1, Option.bind_some]
    rw [if_pos (by simp only [h.1, h.2.1, Bool.true_and]; simp [h.2.2]), ef]
  · have ef : levelGaps x y z t g r x' y' z' t' g' r' = ([], false) := by rw [levelGaps, if_neg h]
    refine (ev_one h0).ev fun k k0 => ?_
    simp only [spec_LevelGaps.f, k0, Option.bind_some]
    rw [if_neg (by simpa using h), ef]
theorem impl_IsGrid_eq (x y z : Int) : impl_IsGrid.f x y z = some (gridOk x y z) := by
  simp only [impl_IsGrid.f, gridOk]
  by_cases hx : 1 ≤ x ∧ x ≤ 8
  · rw [if_pos (by omega), if_pos (by omega)]
    by_cases hy : 1 ≤ y ∧ y ≤ 6
    · rw [if_pos (by omega), if_pos (by omega)]
      by_cases hz : 1 ≤ z ∧ z ≤ 5
      · rw [if_pos (by omega), if_pos (by omega), grid_wrap hx hy hz]; congr 1; simp [hx, hy, hz]
      · have e : decide (1 ≤ x ∧ x ≤ 8 ∧ 1 ≤ y ∧ y ≤ 6 ∧ 1 ≤ z ∧ z ≤ 5 ∧ x * y * z ≤ 120) = false := by simp; omega
        rw [e]; split
        · rw [if_neg (by omega)]
        · rfl
    · have e : decide (1 ≤ x ∧ x ≤ 8 ∧ 1 ≤ y ∧ y ≤ 6 ∧ 1 ≤ z ∧ z ≤ 5 ∧ x * y * z ≤ 120) = false := by simp; omega
      rw [e]; split
      · rw [if_neg (by omega)]
      · rfl
  · have e : decide (1 ≤ x ∧ x ≤ 8 ∧ 1 ≤ y ∧ y ≤ 6 ∧ 1 ≤ z ∧ z ≤ 5 ∧ x * y * z ≤ 120) = false := by simp; omega
    rw [e]; split
    · rw [if_neg (by omega)]
    · rfl
theorem impl_blocksOf_eq (x y z : Int) (h : gridOk x y z = true) : impl_blocksOf.f x y z = some (x * y * z) := by
  have hb := grid_ok h
  simp only [impl_blocksOf.f]
  rw [grid_wrap hb.1 hb.2.1 hb.2.2.1]
theorem impl_IsModel_l0 (x y z : Int) (t g r : List Int) (n : Nat) (hn : n ≤ 1048576) (ht : t.length = n) (hg : g.length = n) (hr : r.length = n) : ∀ (ts gs rs : List Int) (i : Nat), t.drop i = ts → g.drop i = gs → r.drop i = rs → Ev (fun k => impl_IsModel.l0 k (n : Int) i x y z t g r) (allIn 0 10000 ts && (allIn 0 1000 gs && allIn 0 4 rs))
  | [], gs, rs, i, h, hg', hr' => Ev.next0 fun k => by
      have h0 := drop_nil h
      have e1 : gs = [] := by rw [← hg']; exact List.drop_of_length_le (by omega)
      have e2 : rs = [] := by rw [← hr']; exact List.drop_of_length_le (by omega)
      subst e1 e2
      simp only [impl_IsModel.l0, allIn]
      rw [if_neg (by omega)]; rfl
  | a :: ts, [], rs, i, h, hg', hr' => by have h1 := (drop_cons h).1; have h2 := drop_nil hg'; omega
  | a :: ts, b :: gs, [], i, h, hg', hr' => by have h1 := (drop_cons h).1; have h2 := drop_nil hr'; omega
  | a :: ts, b :: gs, c :: rs, i, h, hg', hr' => by
      obtain ⟨h1, h2, h3⟩ := drop_cons h
      obtain ⟨g1, g2, g3⟩ := drop_cons hg'
      obtain ⟨r1, r2, r3⟩ := drop_cons hr'
      have ea := rd_drop h
      have eb := rd_drop hg'
      have ec := rd_drop hr'
      refine Ev.next1 (impl_IsModel_l0 x y z t g r n hn ht hg hr ts gs rs (i + 1) h3 g3 r3) fun k hk => ?_
      simp only [impl_IsModel.l0, ea, eb, ec]
      rw [if_pos (by omega), if_pos (by omega), if_pos (by omega)]
      by_cases ka : 0 ≤ a ∧ a ≤ 10000
      · rw [if_neg (by omega), if_neg (by omega), if_pos (by omega)]
        by_cases kb : 0 ≤ b ∧ b ≤ 1000
        · rw [if_neg (by omega), if_neg (by omega), if_pos (by omega)]
          by_cases kc : 0 ≤ c ∧ c ≤ 4
          · rw [if_neg (by omega), if_neg (by omega), wrap_succ h1 (by omega), hk]
            simp [allIn, ka, kb, kc]
          · have e : (allIn 0 10000 (a :: ts) && (allIn 0 1000 (b :: gs) && allIn 0 4 (c :: rs))) = false := by simp [allIn, kc]
            rw [e]; split
            · rfl
            · rw [if_pos (by omega)]
        · have e : (allIn 0 10000 (a :: ts) && (allIn 0 1000 (b :: gs) && allIn 0 4 (c :: rs))) = false := by simp [allIn, kb]
          rw [e]; split
          · rfl
          · rw [if_pos (by omega)]
      · have e : (allIn 0 10000 (a :: ts) && (allIn 0 1000 (b :: gs) && allIn 0 4 (c :: rs))) = false := by simp [allIn, ka]
        rw [e]; split
        · rfl
        · rw [if_pos (by omega)]
theorem impl_IsModel_ev (x y z : Int) (t g r : List Int) (ht : t.length ≤ 1048576) (hg : g.length ≤ 1048576) (hr : r.length ≤ 1048576) : Ev (fun k => impl_IsModel.f k x y z t g r) (modelOk x y z t g r) := by
  by_cases h : gridOk x y z = true
  · have no : ∀ n : Int, Ev (fun k => impl_IsModel.j0 k n true x y z t g r) false := fun n => Ev.next0 fun k => by simp [impl_IsModel.j0]
    by_cases e : (t.length : Int) = x * y * z ∧ (g.length : Int) = x * y * z ∧ (r.length : Int) = x * y * z
    · obtain ⟨e1, e2, e3⟩ := e
      have h1 : Ev (fun k => impl_IsModel.j0 k (x * y * z) false x y z t g r) (allIn 0 10000 t && (allIn 0 1000 g && allIn 0 4 r)) := by
        refine Ev.next1 (impl_IsModel_l0 x y z t g r t.length ht rfl (by omega) (by omega) t g r 0 rfl rfl rfl) fun k hk => ?_
        simp only [impl_IsModel.j0]
        rw [if_neg (by simp), ← e1]; exact hk
      refine Ev.of1 h1 fun k hk => ?_
      simp only [impl_IsModel.f, impl_IsGrid_eq, Option.bind_some, impl_blocksOf_eq x y z h]
      rw [if_pos h, if_pos e1, if_pos e2, show ((r.length : Int) != x * y * z) = false by simp [e3], hk]
      simp [modelOk, h, e1, e2, e3]
    · refine Ev.of1 (no (x * y * z)) fun k hk => ?_
      have em : modelOk x y z t g r = false := by
        simp only [modelOk, decide_eq_false e, Bool.and_false, Bool.false_and]
      simp only [impl_IsModel.f, impl_IsGrid_eq, Option.bind_some, impl_blocksOf_eq x y z h]
      rw [if_pos h, em]
      by_cases e1 : (t.length : Int) = x * y * z
      · rw [if_pos e1]
        by_cases e2 : (g.length : Int) = x * y * z
        · rw [if_pos e2, show ((r.length : Int) != x * y * z) = true by
            have e3 : ¬ (r.length : Int) = x * y * z := fun e3 => e ⟨e1, e2, e3⟩
            simpa using e3, hk]
        · rw [if_neg e2, hk]
      · rw [if_neg e1, hk]
  · refine Ev.all fun k => ?_
    simp only [impl_IsModel.f, impl_IsGrid_eq, Option.bind_some]
    rw [if_neg h]; simp [modelOk, h]
theorem impl_areTwins_ev (x y z : Int) (t g r : List Int) (x' y' z' : Int) (t' g' r' : List Int) (ht : t.length ≤ 1048576) (hg : g.length ≤ 1048576) (hr : r.length ≤ 1048576) (ht' : t'.length ≤ 1048576) (hg' : g'.length ≤ 1048576) (hr' : r'.length ≤ 1048576) : Ev (fun k => impl_areTwins.f k x y z t g r x' y' z' t' g' r') (modelOk x y z t g r && (modelOk x' y' z' t' g' r' && (x == x' && (y == y' && (z == z'))))) :=
  (ev_and (impl_IsModel_ev x y z t g r ht hg hr) <| ev_one (impl_IsModel_ev x' y' z' t' g' r' ht' hg' hr')).ev fun k ⟨h1, h2⟩ => by
    simp only [impl_areTwins.f, h1, h2, Option.bind_some]
    by_cases h : modelOk x y z t g r = true
    · rw [if_pos h, h]
      by_cases h' : modelOk x' y' z' t' g' r' = true
      · rw [if_pos h', h']; rfl
      · rw [if_neg h']; simp [h']
    · rw [if_neg h]; simp [h]
-- needs: spec_moSums
theorem impl_sumsOf_l0 (x y z : Int) (t g r : List Int) (ht : allIn 0 10000 t = true) (hg : allIn 0 1000 g = true) (I : List Int) (hI : I.length ≤ 1048576) (hin : ∀ q ∈ I, 0 ≤ q ∧ q < (t.length : Int) ∧ q < (g.length : Int)) : ∀ (qs : List Int) (j : Nat) (a m : Int), I.drop j = qs → (0 ≤ a ∧ a ≤ 10000 * (j : Int)) → (0 ≤ m ∧ m ≤ 10000000 * (j : Int)) →
    Ev (fun k => impl_sumsOf.l0 k a m I (I.length : Int) j x y z t g r) (a + selT t qs, m + selM t g qs)
  | [], j, a, m, hj, ha, hm => Ev.next0 fun k => by
      have h0 := drop_nil hj
      simp only [impl_sumsOf.l0, selT, selM, Int.add_zero]
      rw [if_neg (by omega)]
  | q :: qs, j, a, m, hj, ha, hm => by
      obtain ⟨h1, h2, h3⟩ := drop_cons hj
      have e := rd_drop hj
      have hq := hin q (List.mem_of_getElem? h2)
      have hb := metal_bd ht hg hq.1 hq.2.1 hq.2.2
      refine Ev.next1 (impl_sumsOf_l0 x y z t g r ht hg I hI hin qs (j + 1) (a + rd t q) (m + rd t q * rd g q) h3 (by omega) (by omega)) fun k hk => ?_
      simp only [impl_sumsOf.l0, e, Option.bind_some, selT, selM]
      rw [if_pos (by omega), if_pos (by omega), if_pos (by omega), if_pos hq.1, if_pos hq.2.1, if_pos hq.2.2, wrap_id (x := rd t q * rd g q) (by omega) (by omega), wrap_succ h1 (by omega), wrap_id (x := a + rd t q) (by omega) (by omega), wrap_id (x := m + rd t q * rd g q) (by omega) (by omega), ← Int.add_assoc, ← Int.add_assoc]
      exact hk
theorem impl_sumsOf_ev (x y z : Int) (t g r : List Int) (ht : allIn 0 10000 t = true) (hg : allIn 0 1000 g = true) (I : List Int) (hI : I.length ≤ 1048576) (hin : ∀ q ∈ I, 0 ≤ q ∧ q < (t.length : Int) ∧ q < (g.length : Int)) : Ev (fun k => impl_sumsOf.f k x y z t g r I) (selT t I, selM t g I) := by
  have h0 := impl_sumsOf_l0 x y z t g r ht hg I hI hin I 0 0 0 rfl (by omega) (by omega)
  rw [Int.zero_add, Int.zero_add] at h0
  exact Ev.of1 h0 fun k hk => by simp only [impl_sumsOf.f]; exact hk
-- needs: level_model
theorem impl_LevelBlocks_l0 (x y Z w : Int) (hx : 1 ≤ x ∧ x ≤ 8) (hy : 1 ≤ y ∧ y ≤ 6) (hz : 1 ≤ Z ∧ Z ≤ 5) (h : 0 ≤ w ∧ w < Z) (n : Nat) (hn : (n : Int) = x * y) : ∀ (m i : Nat), i + m = n → Ev (fun k => impl_LevelBlocks.l0 k w (lv (w * x * y) i) (w * x * y + (i : Int)) x y Z) (lv (w * x * y) n, true)
  | 0, i, hi => Ev.next0 fun k => by
      have hb := level_bd hx hy hz h
      simp only [impl_LevelBlocks.l0]
      rw [wrap_id (x := w + 1) (by omega) (by omega), wrap_id (x := (w + 1) * x) (by omega) (by omega), wrap_id (x := (w + 1) * x * y) (by omega) (by omega), if_neg (by omega), show i = n by omega]
  | m + 1, i, hi => by
      have hb := level_bd hx hy hz h
      refine Ev.next1 (impl_LevelBlocks_l0 x y Z w hx hy hz h n hn m (i + 1) (by omega)) fun k hk => ?_
      simp only [impl_LevelBlocks.l0]
      rw [wrap_id (x := w + 1) (by omega) (by omega), wrap_id (x := (w + 1) * x) (by omega) (by omega), wrap_id (x := (w + 1) * x * y) (by omega) (by omega), if_pos (by omega), if_pos (by rw [lv_length]; omega), wrap_id (x := w * x * y + (i : Int) + 1) (by omega) (by omega), ← lv_succ, show w * x * y + (i : Int) + 1 = w * x * y + ((i + 1 : Nat) : Int) by push_cast; omega]
      exact hk
theorem impl_LevelBlocks_ev (x y Z w : Int) (hg : gridOk x y Z = true) (h : 0 ≤ w ∧ w < Z) (n : Nat) (hn : (n : Int) = x * y) : Ev (fun k => impl_LevelBlocks.f k x y Z w) (lv (w * x * y) n, true) := by
  have hb := grid_ok hg
  have hb2 := level_bd hb.1 hb.2.1 hb.2.2.1 h
  have i1 : Ev (fun k => impl_LevelBlocks.j0 k w false x y Z) (lv (w * x * y) n, true) := Ev.next1 (impl_LevelBlocks_l0 x y Z w hb.1 hb.2.1 hb.2.2.1 h n hn n 0 (by omega)) fun k hk => by
    simp only [impl_LevelBlocks.j0]
    rw [if_neg (by simp), wrap_id (x := w * x) (by omega) (by omega), wrap_id (x := w * x * y) (by omega) (by omega)]
    rw [show w * x * y + ((0 : Nat) : Int) = w * x * y by omega, show lv (w * x * y) 0 = [] from rfl] at hk; exact hk
  refine (ev_one i1).ev fun k k1 => ?_
  simp only [impl_LevelBlocks.f, impl_IsGrid_eq, Option.bind_some]
  rw [if_pos hg, if_neg (by omega), show decide (w ≥ Z) = false by simp; omega]; exact k1
-- needs: gap_model
theorem impl_LevelSums_l0 (x y z : Int) (t g r : List Int) (h : modelOk x y z t g r = true) (n Z : Nat) (hn : (n : Int) = x * y) (hz : (Z : Int) = z) : ∀ (m i : Nat), i + m = Z → Ev (fun k => impl_LevelSums.l0 k (sumsTo x y t g n i) (i : Int) x y z t g r) (sumsTo x y t g n Z, true)
  | 0, i, hi => Ev.next0 fun k => by
      simp only [impl_LevelSums.l0]
      rw [if_neg (by omega), show i = Z by omega]
  | m + 1, i, hi => by
      obtain ⟨hgr, _, v1, v2, _⟩ := model_ok h
      have hb := grid_ok hgr
      have q1 := level_in h hn (i := i) (by omega)
      have e0 := impl_LevelBlocks_ev x y z (i : Int) hgr (by omega) n hn
      have e1 := impl_sumsOf_ev x y z t g r v1 v2 _ (by rw [lv_length]; omega) q1.1
      refine ((ev_and e0 <| ev_and e1 <| ev_one (impl_LevelSums_l0 x y z t g r h n Z hn hz m (i + 1) (by omega))).next fun k ⟨k0, k1, k3⟩ => ?_)
      simp only [impl_LevelSums.l0, k0, k1, Option.bind_some]
      rw [if_pos (by omega), if_pos (by rw [sumsTo_length]; omega), wrap_succ (n := Z) (by omega) (by omega)]
      rw [sumsTo_succ] at k3
      exact k3
theorem impl_LevelSums_ev (x y z : Int) (t g r : List Int) (ht : t.length ≤ 1048576) (hg : g.length ≤ 1048576) (hr : r.length ≤ 1048576) (h : modelOk x y z t g r = true) (n Z : Nat) (hn : (n : Int) = x * y) (hz : (Z : Int) = z) : Ev (fun k => impl_LevelSums.f k x y z t g r) (sumsTo x y t g n Z, true) :=
  (ev_and (impl_IsModel_ev x y z t g r ht hg hr) <| ev_one (impl_LevelSums_l0 x y z t g r h n Z hn hz Z 0 (by omega))).ev fun k ⟨k1, k2⟩ => by
    simp only [impl_LevelSums.f, k1, Option.bind_some]
    rw [if_pos h]; exact k2
-- needs: level_gaps
theorem impl_LevelGaps_l0 (x y z : Int) (t g r : List Int) (x' y' z' : Int) (t' g' r' : List Int) (h : modelOk x y z t g r = true ∧ modelOk x' y' z' t' g' r' = true ∧ x = x' ∧ y = y' ∧ z = z') (n Z : Nat) (hn : (n : Int) = x * y) (hz : (Z : Int) = z) : ∀ (m i : Nat), i + m = Z → Ev (fun k => impl_LevelGaps.l0 k (sumsTo x y t g n Z) (sumsTo x y t' g' n Z) (gapsTo x y t g t' g' n i) (Z : Int) (i : Int)) (gapsTo x y t g t' g' n Z, true)
  | 0, i, hi => Ev.next0 fun k => by
      simp only [impl_LevelGaps.l0]
      rw [if_neg (by omega), show i = Z by omega]
  | m + 1, i, hi => by
      have hb := grid_ok (model_ok h.1).1
      have q1 := level_in h.1 hn (i := i) (by omega)
      have q2 := level_in h.2.1 (n := n) (i := i) (by rw [hn, h.2.2.1, h.2.2.2.1]) (by omega)
      rw [← h.2.2.1, ← h.2.2.2.1] at q2
      have p1 := q1.2.2; have p2 := q2.2.2
      have ih := impl_LevelGaps_l0 x y z t g r x' y' z' t' g' r' h n Z hn hz m (i + 1) (by omega)
      rw [gapsTo_succ] at ih
      refine Ev.next1 ih fun k k3 => ?_
      simp only [impl_LevelGaps.l0, sumsTo_get (show i < Z by omega)]
      generalize lvT x y t n i = a1 at *
      generalize lvM x y t g n i = a2 at *
      generalize lvT x y t' n i = a3 at *
      generalize lvM x y t' g' n i = a4 at *
      have c0 : rd [a1, a2] 0 = a1 := rfl
      have c1 : rd [a1, a2] 1 = a2 := rfl
      have c2 : rd [a3, a4] 0 = a3 := rfl
      have c3 : rd [a3, a4] 1 = a4 := rfl
      have n1 : ([a1, a2] : List Int).length = 2 := rfl
      have n2 : ([a3, a4] : List Int).length = 2 := rfl
      rw [sumsTo_length, sumsTo_length, gapsTo_length, n1, n2, c0, c1, c2, c3, if_pos (by omega), if_pos (by omega), if_pos (by omega), if_pos (by omega), if_pos (by omega), if_pos (by omega), if_pos (by omega), if_pos (by omega), if_pos (by omega), wrap_succ (n := Z) (by omega) (by omega), wrap_id (x := a3 - a1) (by omega) (by omega), wrap_id (x := a4 - a2) (by omega) (by omega)]
      exact k3
theorem impl_LevelGaps_ev (x y z : Int) (t g r : List Int) (x' y' z' : Int) (t' g' r' : List Int) (ht : t.length ≤ 1048576) (hg : g.length ≤ 1048576) (hr : r.length ≤ 1048576) (ht' : t'.length ≤ 1048576) (hg' : g'.length ≤ 1048576) (hr' : r'.length ≤ 1048576) : Ev (fun k => impl_LevelGaps.f k x y z t g r x' y' z' t' g' r') (levelGaps x y z t g r x' y' z' t' g' r') := by
  have h0 := impl_areTwins_ev x y z t g r x' y' z' t' g' r' ht hg hr ht' hg' hr'
  by_cases h : modelOk x y z t g r = true ∧ modelOk x' y' z' t' g' r' = true ∧ x = x' ∧ y = y' ∧ z = z'
  · have hb := grid_ok (model_ok h.1).1
    have hn : (((x * y).toNat : Nat) : Int) = x * y := by omega
    have hz : ((z.toNat : Nat) : Int) = z := by omega
    have ef : levelGaps x y z t g r x' y' z' t' g' r' = (gapsTo x y t g t' g' (x * y).toNat z.toNat, true) := by rw [levelGaps, if_pos h]
    have s1 := impl_LevelSums_ev x y z t g r ht hg hr h.1 _ _ hn hz
    have s2 := impl_LevelSums_ev x' y' z' t' g' r' ht' hg' hr' h.2.1 (x * y).toNat z.toNat (by rw [hn, h.2.2.1, h.2.2.2.1]) (by omega)
    rw [← h.2.2.1, ← h.2.2.2.1] at s2
    have s3 := impl_LevelGaps_l0 x y z t g r x' y' z' t' g' r' h _ _ hn hz z.toNat 0 (by omega)
    rw [← h.2.2.1, ← h.2.2.2.1] at h0
    refine (ev_and h0 <| ev_and s1 <| ev_and s2 <| ev_one s3).ev fun k ⟨k0, k1, k2, k3⟩ => ?_
    have e1 := h.2.2.1; have e2 := h.2.2.2.1
    subst e1; subst e2
    simp only [impl_LevelGaps.f, k0, k1, k2, Option.bind_some]
    rw [if_pos (by simp only [h.1, h.2.1, Bool.true_and]; simp [h.2.2.2.2]), ef, sumsTo_length]; exact k3
  · have ef : levelGaps x y z t g r x' y' z' t' g' r' = ([], false) := by rw [levelGaps, if_neg h]
    refine (ev_one h0).ev fun k k0 => ?_
    simp only [impl_LevelGaps.f, k0, Option.bind_some]
    rw [if_neg (by simpa using h), ef]
theorem laws_heldIntS_l0 (n : Nat) (c : Int) (hc : 0 ≤ c) (hb : c + n ≤ 9223372036854775807) : ∀ (d i : Nat), i + d = n → Ev (fun k => laws_heldIntS.l0 k (markI n c) (c + (i : Int)) i) (c + (n : Int))
  | 0, i, hd => Ev.next0 fun k => by
      simp only [laws_heldIntS.l0]
      rw [if_neg (by rw [markI_length]; omega), show i = n by omega]
  | d + 1, i, hd => by
      refine Ev.next1 (laws_heldIntS_l0 n c hc hb d (i + 1) (by omega)) fun k hk => ?_
      have e := rd_get (markI_get n c i (by omega))
      simp only [laws_heldIntS.l0, e]
      rw [if_pos (by rw [markI_length]; omega), if_pos (by omega), if_pos (by simp), wrap_succ (n := n) (by omega) (by omega), wrap_id (by omega) (by omega), show c + (i : Int) + 1 = c + ((i + 1 : Nat) : Int) by push_cast; omega]
      exact hk
theorem laws_heldIntS_ev (n : Nat) (c : Int) (hc : 0 ≤ c) (hb : c + n ≤ 9223372036854775807) : Ev (fun k => laws_heldIntS.f k (markI n c) c) (c + (n : Int)) :=
  Ev.of1 (laws_heldIntS_l0 n c hc hb n 0 (by omega)) fun k hk => by
    simp only [laws_heldIntS.f]
    rw [show c + ((0 : Nat) : Int) = c by omega] at hk
    exact hk
def markRows : List (List Int) → Int → List (List Int)
  | [], _ => []
  | y :: ys, c => markI y.length c :: markRows ys (c + (y.length : Int))
theorem markRows_length : ∀ (l : List (List Int)) (c : Int), (markRows l c).length = l.length
  | [], _ => rfl
  | y :: ys, c => by simp only [markRows, List.length_cons, markRows_length ys]
theorem take_set1 {α : Type} (x : List α) (i : Nat) (m : α) (h : i < x.length) : (x.set i m).take (i + 1) = x.take i ++ [m] := by
  apply List.ext_getElem?
  intro j
  rcases Nat.lt_trichotomy j i with hj | hj | hj
  · rw [List.getElem?_take_of_lt (by omega), List.getElem?_set_ne (by omega), List.getElem?_append_left (by simp; omega), List.getElem?_take_of_lt hj]
  · subst hj
    rw [List.getElem?_take_of_lt (by omega), List.getElem?_set_self h, List.getElem?_append_right (by simp; omega)]
    simp [Nat.min_eq_left (Nat.le_of_lt h)]
  · rw [List.getElem?_eq_none (by simp; omega), List.getElem?_eq_none (by simp; omega)]
theorem drop_set1 {α : Type} (a : List α) (i : Nat) (v : α) : (a.set i v).drop (i + 1) = a.drop (i + 1) := by
  apply List.ext_getElem?
  intro j
  rw [List.getElem?_drop, List.getElem?_drop, List.getElem?_set_ne (by omega)]
-- needs: mark_rows
theorem laws_heldIntSS_l0 : ∀ (ys : List (List Int)) (x : List (List Int)) (i : Nat) (c : Int), x.drop i = markRows ys c → x.length ≤ 1048576 → 0 ≤ c → c + (sumLen ys : Int) ≤ 4611686018427387904 → Ev (fun k => laws_heldIntSS.l0 k x c i) (c + (sumLen ys : Int))
  | [], x, i, c, h, hn, hc, hb => Ev.next0 fun k => by
      have h0 := drop_nil h
      simp only [laws_heldIntSS.l0, sumLen]
      rw [if_neg (by omega), show c + ((0 : Nat) : Int) = c by omega]
  | y :: ys, x, i, c, h, hn, hc, hb => by
      simp only [markRows] at h
      obtain ⟨h1, h2, h3⟩ := drop_cons h
      simp only [sumLen] at hb ⊢
      have ih := laws_heldIntSS_l0 ys x (i + 1) (c + (y.length : Int)) h3 hn (by omega) (by push_cast at hb; omega)
      have hm := laws_heldIntS_ev y.length c hc (by push_cast at hb; omega)
      rw [show c + (y.length : Int) + (sumLen ys : Int) = c + ((y.length + sumLen ys : Nat) : Int) by push_cast; omega] at ih
      refine Ev.next2 hm ih fun k k1 k2 => ?_
      have e : rd_L1 x i = markI y.length c := getD_drop h
      simp only [laws_heldIntSS.l0, e, k1, Option.bind_some]
      rw [if_pos (by omega), if_pos (by omega), if_neg (by omega), wrap_succ h1 (by omega)]
      exact k2
theorem laws_heldIntSS_ev (l : List (List Int)) (c : Int) (hn : l.length ≤ 1048576) (hc : 0 ≤ c) (hb : c + (sumLen l : Int) ≤ 4611686018427387904) : Ev (fun k => laws_heldIntSS.f k (markRows l c) c) (c + (sumLen l : Int)) :=
  Ev.of1 (laws_heldIntSS_l0 l (markRows l c) 0 c rfl (by rw [markRows_length]; exact hn) hc hb) fun k hk => by
    simp only [laws_heldIntSS.f]
    rw [show ((0 : Nat) : Int) = 0 from rfl] at hk
    exact hk
theorem laws_markIntSS_x0 : ∀ (ys x : List (List Int)) (i : Nat) (c : Int), x.drop i = ys → x.length ≤ 1048576 → 0 ≤ c → c + (sumLen ys : Int) ≤ 4611686018427387904 → Ev (fun k => laws_markIntSS.l0 k x c i) (c + (sumLen ys : Int), x.take i ++ markRows ys c)
  | [], x, i, c, h, hn, hc, hb => Ev.next0 fun k => by
      have h0 := drop_nil h
      simp only [laws_markIntSS.l0, sumLen, markRows, List.append_nil]
      rw [if_neg (by omega), show c + ((0 : Nat) : Int) = c by omega, List.take_of_length_le h0]
  | y :: ys, x, i, c, h, hn, hc, hb => by
      obtain ⟨h1, h2, h3⟩ := drop_cons h
      simp only [sumLen] at hb ⊢
      have hd : (x.set i (markI y.length c)).drop (i + 1) = ys := by rw [drop_set1, h3]
      have ih := laws_markIntSS_x0 ys (x.set i (markI y.length c)) (i + 1) (c + (y.length : Int)) hd (by simpa using hn) (by omega) (by push_cast at hb; omega)
      have hm := laws_markIntS_ev y c hc (by push_cast at hb; omega)
      rw [show c + (y.length : Int) + (sumLen ys : Int) = c + ((y.length + sumLen ys : Nat) : Int) by push_cast; omega, take_set1 x i _ h1, List.append_assoc] at ih
      refine Ev.next2 hm ih fun k k1 k2 => ?_
      have e : rd_L1 x i = y := getD_drop h
      simp only [laws_markIntSS.l0, e, k1, Option.bind_some]
      rw [if_pos (by omega), if_pos (by omega), wrap_succ h1 (by omega), toNat_cast]
      exact k2
theorem laws_markIntSS_pv (l : List (List Int)) (c : Int) (hn : l.length ≤ 1048576) (hc : 0 ≤ c) (hb : c + (sumLen l : Int) ≤ 4611686018427387904) : Ev (fun k => laws_markIntSS.p k l c) (c + (sumLen l : Int), markRows l c) :=
  Ev.of1 (laws_markIntSS_x0 l l 0 c rfl hn hc hb) fun k hk => by
    simp only [laws_markIntSS.p]
    rw [show ((0 : Nat) : Int) = 0 from rfl, List.take_zero, List.nil_append] at hk
    exact hk
theorem sumLen_two : ∀ l : List (List Int), (∀ q ∈ l, q.length ≤ 2) → sumLen l ≤ 2 * l.length
  | [], _ => by simp [sumLen]
  | q :: l, h => by
    have h1 := h q (by simp)
    have h2 := sumLen_two l (fun p hp => h p (by simp [hp]))
    simp only [sumLen, List.length_cons]; omega
theorem levelGaps_len (x y z : Int) (t g r : List Int) (x' y' z' : Int) (t' g' r' : List Int) : (levelGaps x y z t g r x' y' z' t' g' r').1.length ≤ 5 ∧ (∀ q ∈ (levelGaps x y z t g r x' y' z' t' g' r').1, q.length ≤ 2) := by
  unfold levelGaps
  split
  · rename_i h
    have hb := grid_ok (model_ok h.1).1
    refine ⟨by simp only [gapsTo_length]; omega, fun q hq => ?_⟩
    simp only [gapsTo, List.mem_map] at hq
    obtain ⟨i, _, rfl⟩ := hq
    simp
  · simp
theorem j5_ev (v : List (List Int)) (hv : v.length ≤ 5 ∧ ∀ q ∈ v, q.length ≤ 2) : Ev (fun k => laws_FnExactLevelGaps.j5 k (markRows v 1) (1 + (sumLen v : Int)) false) true := by
  have hs := sumLen_two v hv.2
  refine (ev_one (laws_heldIntSS_ev v 1 (by omega) (by omega) (by omega))).next fun k h1 => ?_
  simp only [laws_FnExactLevelGaps.j5, h1, Option.bind_some]
  rw [if_neg (by simp), if_neg (by omega), if_pos (by simp)]
theorem j4_ev (x y z : Int) (t g r : List Int) (x' y' z' : Int) (t' g' r' : List Int) (ht : t.length ≤ 1048576) (hg : g.length ≤ 1048576) (hr : r.length ≤ 1048576) (ht' : t'.length ≤ 1048576) (hg' : g'.length ≤ 1048576) (hr' : r'.length ≤ 1048576) (v : List (List Int) × Bool) (e : v = levelGaps x y z t g r x' y' z' t' g' r') : Ev (fun k => laws_FnExactLevelGaps.j4 k v.1 v.2 (markRows v.1 1) (1 + (sumLen v.1 : Int)) (1 + (sumLen v.1 : Int)) x y z t g r x' y' z' t' g' r') true := by
  have hv := levelGaps_len x y z t g r x' y' z' t' g' r'
  have hi := impl_LevelGaps_ev x y z t g r x' y' z' t' g' r' ht hg hr ht' hg' hr'
  rw [← e] at hv hi
  refine (ev_and (laws_toModel_ev x y z t g r ht hg hr) <| ev_and (laws_toModel_ev x' y' z' t' g' r' ht' hg' hr') <| ev_and hi <| ev_and (laws_eqIntSS_ev v.1 (by omega) (fun q hq => by have := hv.2 q hq; omega)) <| ev_one (j5_ev v.1 hv)).next fun k ⟨h1, h2, h3, h4, h5⟩ => ?_
  simp only [laws_FnExactLevelGaps.j4, h1, h2, h3, h4, Option.bind_some]
  rw [if_pos (by simp), if_pos (by simp), bne_self_eq_false]; exact h5
theorem j3_ev (x y z : Int) (t g r : List Int) (x' y' z' : Int) (t' g' r' : List Int) (ht : t.length ≤ 1048576) (hg : g.length ≤ 1048576) (hr : r.length ≤ 1048576) (ht' : t'.length ≤ 1048576) (hg' : g'.length ≤ 1048576) (hr' : r'.length ≤ 1048576) (v : List (List Int) × Bool) (e : v = levelGaps x y z t g r x' y' z' t' g' r') : Ev (fun k => laws_FnExactLevelGaps.j3 k v.1 v.2 v.1 false x y z t g r x' y' z' t' g' r') true := by
  have hv := levelGaps_len x y z t g r x' y' z' t' g' r'
  rw [← e] at hv
  have hs := sumLen_two v.1 hv.2
  refine (ev_and (laws_markIntSS_pv v.1 1 (by omega) (by omega) (by omega)) <| ev_and (laws_heldIntSS_ev v.1 1 (by omega) (by omega) (by omega)) <| ev_one (j4_ev x y z t g r x' y' z' t' g' r' ht hg hr ht' hg' hr' v e)).next fun k ⟨h1, h2, h3⟩ => ?_
  simp only [laws_FnExactLevelGaps.j3, h1, h2, Option.bind_some]
  rw [if_neg (by simp), if_neg (by omega)]; exact h3
theorem j2_ev (x y z : Int) (t g r : List Int) (x' y' z' : Int) (t' g' r' : List Int) (ht : t.length ≤ 1048576) (hg : g.length ≤ 1048576) (hr : r.length ≤ 1048576) (ht' : t'.length ≤ 1048576) (hg' : g'.length ≤ 1048576) (hr' : r'.length ≤ 1048576) (v : List (List Int) × Bool) (e : v = levelGaps x y z t g r x' y' z' t' g' r') : Ev (fun k => laws_FnExactLevelGaps.j2 k v.1 v.2 v.1 v.2 x y z t g r x' y' z' t' g' r' x y z t g r x' y' z' t' g' r') true := by
  have hv := levelGaps_len x y z t g r x' y' z' t' g' r'
  rw [← e] at hv
  refine (ev_and (laws_markModel_ev x y z t g r ht hg hr 1 (by omega) (by omega)) <| ev_and (laws_markModel_ev x' y' z' t' g' r' ht' hg' hr' (1 + (t.length : Int) + (g.length : Int) + (r.length : Int)) (by omega) (by omega)) <| ev_and (laws_eqIntSS_ev v.1 (by omega) (fun q hq => by have := hv.2 q hq; omega)) <| ev_one (j3_ev x y z t g r x' y' z' t' g' r' ht hg hr ht' hg' hr' v e)).next fun k ⟨h1, h2, h3, h4⟩ => ?_
  simp only [laws_FnExactLevelGaps.j2, h1, h2, h3, Option.bind_some]
  rw [if_neg (by omega), if_pos (by simp), bne_self_eq_false]; exact h4
theorem j1_ev (x y z : Int) (t g r : List Int) (x' y' z' : Int) (t' g' r' : List Int) (ht : t.length ≤ 1048576) (hg : g.length ≤ 1048576) (hr : r.length ≤ 1048576) (ht' : t'.length ≤ 1048576) (hg' : g'.length ≤ 1048576) (hr' : r'.length ≤ 1048576) (v : List (List Int) × Bool) (e : v = levelGaps x y z t g r x' y' z' t' g' r') : Ev (fun k => laws_FnExactLevelGaps.j1 k v.1 v.2 v.1 v.2 x y z t g r x' y' z' t' g' r' x y z t g r x' y' z' t' g' r') true := by
  refine (ev_and (laws_toModel_ev x' y' z' t' g' r' ht' hg' hr') <| ev_and (laws_eqModel_ev x' y' z' t' g' r' ht' hg' hr') <| ev_one (j2_ev x y z t g r x' y' z' t' g' r' ht hg hr ht' hg' hr' v e)).next fun k ⟨h1, h2, h3⟩ => ?_
  simp only [laws_FnExactLevelGaps.j1, h1, h2, Option.bind_some]
  rw [if_pos (by simp)]; exact h3
theorem j0_ev (x y z : Int) (t g r : List Int) (x' y' z' : Int) (t' g' r' : List Int) (ht : t.length ≤ 1048576) (hg : g.length ≤ 1048576) (hr : r.length ≤ 1048576) (ht' : t'.length ≤ 1048576) (hg' : g'.length ≤ 1048576) (hr' : r'.length ≤ 1048576) (v : List (List Int) × Bool) (e : v = levelGaps x y z t g r x' y' z' t' g' r') : Ev (fun k => laws_FnExactLevelGaps.j0 k v.1 v.2 v.1 v.2 false x y z t g r x' y' z' t' g' r' x y z t g r x' y' z' t' g' r') true := by
  refine (ev_and (laws_toModel_ev x y z t g r ht hg hr) <| ev_and (laws_eqModel_ev x y z t g r ht hg hr) <| ev_one (j1_ev x y z t g r x' y' z' t' g' r' ht hg hr ht' hg' hr' v e)).next fun k ⟨h1, h2, h3⟩ => ?_
  simp only [laws_FnExactLevelGaps.j0, h1, h2, Option.bind_some]
  rw [if_neg (by simp), if_pos (by simp)]; exact h3
theorem FnExactLevelGaps : Stat.FnExactLevelGaps := by
  intro x y z t g r x' y' z' t' g' r' _ _ _ ht hg hr _ _ _ ht' hg' hr'
  refine Ev.rounds ?_
  have hs := laws_szModel_eq x y z t g r 1048576 (by omega) (by omega) ht.1 hg.1 hr.1
  by_cases hq : (1048576 : Int) < ((t.length + g.length + r.length : Nat) : Int)
  · refine Ev.all fun k => ?_
    simp only [laws_FnExactLevelGaps.f, hs, Option.bind_some]
    rw [left_lt hq, if_pos (by omega)]
  have hl : left 1048576 (t.length + g.length + r.length) = 1048576 - ((t.length + g.length + r.length : Nat) : Int) := left_ge (by omega)
  have hs' := laws_szModel_eq x' y' z' t' g' r' (1048576 - ((t.length + g.length + r.length : Nat) : Int)) (by omega) (by omega) ht'.1 hg'.1 hr'.1
  by_cases hp : 1048576 - ((t.length + g.length + r.length : Nat) : Int) < ((t'.length + g'.length + r'.length : Nat) : Int)
  · refine Ev.all fun k => ?_
    simp only [laws_FnExactLevelGaps.f, hs, Option.bind_some]
    rw [hl, if_neg (by omega), hs', Option.bind_some, left_lt hp, if_pos (by omega)]
  have h1 : t.length ≤ 1048576 := by omega
  have h2 : g.length ≤ 1048576 := by omega
  have h3 : r.length ≤ 1048576 := by omega
  have h4 : t'.length ≤ 1048576 := by omega
  have h5 : g'.length ≤ 1048576 := by omega
  have h6 : r'.length ≤ 1048576 := by omega
  have hv := levelGaps_len x y z t g r x' y' z' t' g' r'
  refine (ev_and (laws_toModel_ev x y z t g r h1 h2 h3) <| ev_and (laws_toModel_ev x' y' z' t' g' r' h4 h5 h6) <| ev_and (spec_LevelGaps_ev x y z t g r x' y' z' t' g' r' h1 h2 h3 h4 h5 h6) <| ev_and (impl_LevelGaps_ev x y z t g r x' y' z' t' g' r' h1 h2 h3 h4 h5 h6) <|
    ev_and (laws_eqIntSS_ev (levelGaps x y z t g r x' y' z' t' g' r').1 (by omega) (fun q hq => by have := hv.2 q hq; omega)) <| ev_one (j0_ev x y z t g r x' y' z' t' g' r' h1 h2 h3 h4 h5 h6 _ rfl)).ev fun k ⟨a1, a2, a3, a4, a5, a6⟩ => ?_
  simp only [laws_FnExactLevelGaps.f, hs, Option.bind_some]
  rw [hl, if_neg (by omega), hs', Option.bind_some, left_ge (by omega), if_neg (by omega)]
  simp only [a1, a2, a3, a4, a5, Option.bind_some]
  rw [if_pos (by simp), bne_self_eq_false]; exact a6
end Go.Proofs.Ytagnldmaglbpaaa.PureFnExactLevelGaps
namespace Go.Proofs.Ytagnldmaglbpaaa.Pure
theorem FnExactLevelGaps : Stat.FnExactLevelGaps := PureFnExactLevelGaps.FnExactLevelGaps
end Go.Proofs.Ytagnldmaglbpaaa.Pure
