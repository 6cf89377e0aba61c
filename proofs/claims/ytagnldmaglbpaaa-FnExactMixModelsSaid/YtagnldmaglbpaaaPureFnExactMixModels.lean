/- The law FnExactMixModels over numbers and lists: it is true of every input. -/
import Derived.Test.YtagnldmaglbpaaaStatFnExactMixModels
import Derived.Test.YtagnldmaglbpaaaWMore
set_option linter.unusedVariables false
set_option linter.unusedSimpArgs false
namespace Go.Proofs.Ytagnldmaglbpaaa.Kit
open Go.RowKit Go.Proofs.YtagnldmaglbpaaaW.PrintWords Go.Proofs.YtagnldmaglbpaaaW.PrintMore

/-! ### Rounds -/
theorem Ev.all {α : Type} {g : Nat → Option α} {r : α} (h : ∀ k, g k = some r) : Ev g r := ⟨0, fun k _ => h k⟩
theorem Ev.of1 {α β : Type} {g : Nat → Option α} {f : Nat → Option β} {r : α} {b : β} (h : Ev f b) (k : ∀ k, f k = some b → g k = some r) : Ev g r := by
  obtain ⟨K, h⟩ := h; exact ⟨K, fun n hn => k n (h n hn)⟩
theorem Ev.next0 {α : Type} {g : Nat → Option α} {r : α} (h : ∀ k, g (k + 1) = some r) : Ev g r :=
  ⟨1, fun n hn => by obtain ⟨m, rfl⟩ : ∃ m, n = m + 1 := ⟨n - 1, by omega⟩; exact h m⟩
theorem Ev.next1 {α β : Type} {g : Nat → Option α} {f : Nat → Option β} {r : α} {b : β} (h : Ev f b) (k : ∀ k, f k = some b → g (k + 1) = some r) : Ev g r := by
  obtain ⟨K, h⟩ := h
  exact ⟨K + 1, fun n hn => by obtain ⟨m, rfl⟩ : ∃ m, n = m + 1 := ⟨n - 1, by omega⟩; exact k m (h m (by omega))⟩
/-- From some number of rounds on. -/
def Evt (p : Nat → Prop) : Prop := ∃ K, ∀ k, K ≤ k → p k
theorem ev_one {α : Type} {f : Nat → Option α} {a : α} (h : Ev f a) : Evt (fun k => f k = some a) := h
theorem ev_and {α : Type} {f : Nat → Option α} {a : α} {p : Nat → Prop} (h : Ev f a) (h' : Evt p) : Evt (fun k => f k = some a ∧ p k) := by
  obtain ⟨K, h⟩ := h; obtain ⟨K', h'⟩ := h'; exact ⟨K + K', fun n hn => ⟨h n (by omega), h' n (by omega)⟩⟩
theorem Evt.ev {α : Type} {g : Nat → Option α} {r : α} {p : Nat → Prop} (h : Evt p) (k : ∀ k, p k → g k = some r) : Ev g r := by
  obtain ⟨K, h⟩ := h; exact ⟨K, fun n hn => k n (h n hn)⟩
theorem Evt.next {α : Type} {g : Nat → Option α} {r : α} {p : Nat → Prop} (h : Evt p) (k : ∀ k, p k → g (k + 1) = some r) : Ev g r := by
  obtain ⟨K, h⟩ := h
  exact ⟨K + 1, fun n hn => by obtain ⟨m, rfl⟩ : ∃ m, n = m + 1 := ⟨n - 1, by omega⟩; exact k m (h m (by omega))⟩

/-! ### Whole numbers -/
theorem wrap_id {x : Int} (h0 : -9223372036854775808 ≤ x) (h1 : x ≤ 9223372036854775807) : wrap64 x = x := by unfold wrap64; omega
theorem wrap_succ {i n : Nat} (h : i < n) (hn : n ≤ 9223372036854775807) : wrap64 ((i : Int) + 1) = ((i + 1 : Nat) : Int) := by unfold wrap64; omega
theorem toNat_cast (i : Nat) : ((i : Int)).toNat = i := by omega

/-! ### Lists from an index on -/
theorem drop_cons {α : Type} {xs ys : List α} {y : α} {i : Nat} (h : xs.drop i = y :: ys) : i < xs.length ∧ xs[i]? = some y ∧ xs.drop (i + 1) = ys := by
  have hlt : i < xs.length := by
    by_cases hlt : i < xs.length
    · exact hlt
    · rw [List.drop_of_length_le (by omega)] at h; cases h
  rw [List.drop_eq_getElem_cons hlt] at h
  injection h with h1 h2
  exact ⟨hlt, by rw [List.getElem?_eq_getElem hlt, h1], h2⟩
theorem drop_nil {α : Type} {xs : List α} {i : Nat} (h : xs.drop i = []) : xs.length ≤ i := by simpa using h
theorem getD_drop {α : Type} {xs ys : List α} {y d : α} {i : Nat} (h : xs.drop i = y :: ys) : xs.getD ((i : Int)).toNat d = y := by
  rw [toNat_cast, List.getD_eq_getElem?_getD, (drop_cons h).2.1]; rfl
theorem rd_drop {xs ys : List Int} {y : Int} {i : Nat} (h : xs.drop i = y :: ys) : rd xs (i : Int) = y := getD_drop h
theorem getD_get {α : Type} {xs : List α} {y d : α} {i : Nat} (h : xs[i]? = some y) : xs.getD ((i : Int)).toNat d = y := by
  rw [toNat_cast, List.getD_eq_getElem?_getD, h]; rfl
theorem rd_get {xs : List Int} {y : Int} {i : Nat} (h : xs[i]? = some y) : rd xs (i : Int) = y := getD_get h
/-- What is left of a, n taken off; -1 if it isn't enough. -/
def left (a : Int) (n : Nat) : Int := if a < (n : Int) then -1 else a - (n : Int)
theorem left_lt {a : Int} {n : Nat} (h : a < (n : Int)) : left a n = -1 := if_pos h
theorem left_ge {a : Int} {n : Nat} (h : (n : Int) ≤ a) : left a n = a - (n : Int) := if_neg (by omega)
/-! ### A list that is copied, element for element -/
theorem copy_step {α : Type} {m x : List α} {y : α} {i : Nat} (hm : m[i]? = some y) (hl : x.length = m.length) (ht : x.take i = m.take i) : (x.set i y).length = m.length ∧ (x.set i y).take (i + 1) = m.take (i + 1) := by
  obtain ⟨hi, rfl⟩ := List.getElem?_eq_some_iff.1 hm
  refine ⟨by simpa using hl, ?_⟩
  apply List.ext_getElem?
  intro j
  have hj : (x.take i)[j]? = (m.take i)[j]? := by rw [ht]
  rw [List.getElem?_take, List.getElem?_take] at *
  by_cases h1 : j < i + 1
  · rw [if_pos h1, if_pos h1]
    by_cases h2 : j = i
    · subst h2
      rw [List.getElem?_set_self (by omega), List.getElem?_eq_getElem hi]
    · rw [List.getElem?_set_ne (by omega)]
      rw [if_pos (by omega), if_pos (by omega)] at hj
      exact hj
  · rw [if_neg h1, if_neg h1]
theorem copy_end {α : Type} {m x : List α} {i : Nat} (hl : x.length = m.length) (ht : x.take i = m.take i) (hi : m.length ≤ i) : x = m := by
  rw [List.take_of_length_le (by omega), List.take_of_length_le hi] at ht; exact ht

/-! ### Strictly increasing lists of 0..n-1 -/
/-! ### Numbers marked and held -/
def markI : Nat → Int → List Int
  | 0, _ => []
  | n + 1, k => k :: markI n (k + 1)
theorem markI_length : ∀ (n : Nat) (k : Int), (markI n k).length = n
  | 0, _ => rfl
  | n + 1, k => by simp [markI, markI_length n (k + 1)]
theorem markI_get : ∀ (n : Nat) (k : Int) (j : Nat), j < n → (markI n k)[j]? = some (k + j)
  | 0, _, _, h => by omega
  | n + 1, k, 0, _ => by simp [markI]
  | n + 1, k, j + 1, h => by simp only [markI, List.getElem?_cons_succ]; rw [markI_get n (k + 1) j (by omega)]; congr 1; push_cast; omega
end Go.Proofs.Ytagnldmaglbpaaa.Kit
namespace Go.Proofs.Ytagnldmaglbpaaa.Model
open Go.RowKit Go.Proofs.YtagnldmaglbpaaaW.PrintWords Go.Proofs.Ytagnldmaglbpaaa.Kit

/-- Numbers within bounds, all of them. -/
def allIn (lo hi : Int) : List Int → Bool
  | [] => true
  | y :: ys => decide (lo ≤ y ∧ y ≤ hi) && allIn lo hi ys
theorem allIn_mem {lo hi : Int} : ∀ {ys : List Int}, allIn lo hi ys = true → ∀ y ∈ ys, lo ≤ y ∧ y ≤ hi
  | [], _, y, hy => by cases hy
  | z :: zs, h, y, hy => by
    simp only [allIn, Bool.and_eq_true, decide_eq_true_eq] at h
    rcases List.mem_cons.1 hy with rfl | hy
    · exact h.1
    · exact allIn_mem h.2 y hy
theorem allIn_get {lo hi : Int} {ys : List Int} (h : allIn lo hi ys = true) {i : Nat} {y : Int} (hy : ys[i]? = some y) : lo ≤ y ∧ y ≤ hi := allIn_mem h y (List.mem_of_getElem? hy)
def gridOk (x y z : Int) : Bool := decide (1 ≤ x ∧ x ≤ 8 ∧ 1 ≤ y ∧ y ≤ 6 ∧ 1 ≤ z ∧ z ≤ 5 ∧ x * y * z ≤ 120)
theorem grid_prod {x y z : Int} (hx : 1 ≤ x ∧ x ≤ 8) (hy : 1 ≤ y ∧ y ≤ 6) (hz : 1 ≤ z ∧ z ≤ 5) : 1 ≤ x * y ∧ x * y ≤ 48 ∧ 1 ≤ x * y * z ∧ x * y * z ≤ 240 := by
  rcases (by omega : x = 1 ∨ x = 2 ∨ x = 3 ∨ x = 4 ∨ x = 5 ∨ x = 6 ∨ x = 7 ∨ x = 8) with rfl | rfl | rfl | rfl | rfl | rfl | rfl | rfl <;>
    rcases (by omega : z = 1 ∨ z = 2 ∨ z = 3 ∨ z = 4 ∨ z = 5) with rfl | rfl | rfl | rfl | rfl <;> omega
theorem grid_ok {x y z : Int} (h : gridOk x y z = true) : (1 ≤ x ∧ x ≤ 8) ∧ (1 ≤ y ∧ y ≤ 6) ∧ (1 ≤ z ∧ z ≤ 5) ∧ 1 ≤ x * y ∧ x * y ≤ 48 ∧ 1 ≤ x * y * z ∧ x * y * z ≤ 120 := by
  simp only [gridOk, decide_eq_true_eq] at h
  have := grid_prod (x := x) (y := y) (z := z) (by omega) (by omega) (by omega)
  omega
theorem grid_wrap {x y z : Int} (hx : 1 ≤ x ∧ x ≤ 8) (hy : 1 ≤ y ∧ y ≤ 6) (hz : 1 ≤ z ∧ z ≤ 5) : wrap64 (wrap64 (x * y) * z) = x * y * z := by
  have := grid_prod hx hy hz
  rw [wrap_id (x := x * y) (by omega) (by omega), wrap_id (by omega) (by omega)]
def modelOk (x y z : Int) (t g r : List Int) : Bool := gridOk x y z && decide ((t.length : Int) = x * y * z ∧ (g.length : Int) = x * y * z ∧ (r.length : Int) = x * y * z) && (allIn 0 10000 t && (allIn 0 1000 g && allIn 0 4 r))
end Go.Proofs.Ytagnldmaglbpaaa.Model
namespace Go.Proofs.Ytagnldmaglbpaaa.PureFnExactMixModels
open Go.RowKit Go.Proofs.Ytagnldmaglbpaaa.PFnExactMixModels Go.Proofs.YtagnldmaglbpaaaW.PrintWords Go.Proofs.YtagnldmaglbpaaaW.PrintLast Go.Proofs.YtagnldmaglbpaaaW.PrintMore Go.Proofs.Ytagnldmaglbpaaa.Kit Go.Proofs.Ytagnldmaglbpaaa.Model
theorem laws_szIntS_eq (l : List Int) (a : Int) (h0 : 0 ≤ a) (ha : a ≤ 1048576) (hn : l.length ≤ 9223372036854775807) : laws_szIntS.f l a = some (if a < l.length then -1 else a - l.length) := by
  simp only [laws_szIntS.f]
  rw [wrap_id (by omega) (by omega)]
  split
  · rw [if_pos (by omega)]
  · rw [if_neg (by omega)]
theorem laws_szModel_eq (x y z : Int) (t g r : List Int) (a : Int) (h0 : 0 ≤ a) (ha : a ≤ 1048576) (ht : t.length ≤ 9223372036854775807) (hg : g.length ≤ 9223372036854775807) (hr : r.length ≤ 9223372036854775807) : laws_szModel.f x y z t g r a = some (left a (t.length + g.length + r.length)) := by
  simp only [laws_szModel.f, laws_szIntS_eq t a h0 ha ht, Option.bind_some]
  by_cases h1 : a < (t.length : Int)
  · rw [if_pos h1, if_pos (by omega), left_lt (by omega)]
  · rw [if_neg h1, if_neg (by omega), laws_szIntS_eq g _ (by omega) (by omega) hg, Option.bind_some]
    by_cases h2 : a - (t.length : Int) < (g.length : Int)
    · rw [if_pos h2, if_pos (by omega), left_lt (by omega)]
    · rw [if_neg h2, if_neg (by omega), laws_szIntS_eq r _ (by omega) (by omega) hr, Option.bind_some]
      by_cases h3 : a - (t.length : Int) - (g.length : Int) < (r.length : Int)
      · rw [if_pos h3, if_pos (by omega), left_lt (by omega)]
      · rw [if_neg h3, if_neg (by omega), left_ge (by omega)]; congr 1; omega
theorem laws_toIntS_l0 (l : List Int) (hn : l.length ≤ 9223372036854775807) : ∀ (ys : List Int) (i : Nat) (x : List Int), l.drop i = ys → x.length = l.length → x.take i = l.take i → Ev (fun k => laws_toIntS.l0 k l x i) l
  | [], i, x, h, hl, ht => Ev.next0 fun k => by
      have h0 := drop_nil h
      have h1 : l.length = l.length := by simp
      simp only [laws_toIntS.l0]
      rw [if_neg (by omega), copy_end hl ht (by omega)]
  | y :: ys, i, x, h, hl, ht => by
      obtain ⟨h1, h2, h3⟩ := drop_cons h
      have hm : l.length = l.length := by simp
      have hg : l[i]? = some y := by simp [h2]
      obtain ⟨c1, c2⟩ := copy_step hg hl ht
      refine Ev.next1 (laws_toIntS_l0 l hn ys (i + 1) (x.set i y) h3 c1 c2) fun k hk => ?_
      have e := rd_drop h
      simp only [laws_toIntS.l0, e, Option.bind_some]
      rw [if_pos (by omega), if_pos (by omega), if_pos (by omega), wrap_succ h1 hn, toNat_cast]
      exact hk
theorem laws_toIntS_ev (l : List Int) (hn : l.length ≤ 35184372088832) : Ev (fun k => laws_toIntS.f k l) l :=
  Ev.of1 (laws_toIntS_l0 l (by omega) l 0 (List.replicate ((l.length : Int)).toNat 0) rfl (by simp) rfl) fun k hk => by
    simp only [laws_toIntS.f]
    rw [if_pos (by omega), if_pos (by omega)]
    exact hk
theorem laws_toModel_ev (x y z : Int) (t g r : List Int) (ht : t.length ≤ 1048576) (hg : g.length ≤ 1048576) (hr : r.length ≤ 1048576) : Ev (fun k => laws_toModel.f k x y z t g r) (x, y, z, t, g, r) :=
  (ev_and (laws_toIntS_ev t (by omega)) <| ev_and (laws_toIntS_ev g (by omega)) <| ev_one (laws_toIntS_ev r (by omega))).ev fun k ⟨h1, h2, h3⟩ => by
    simp only [laws_toModel.f, laws_toGrid.f, h1, h2, h3, Option.bind_some]
theorem laws_eqIntS_l0 (l : List Int) (hn : l.length ≤ 9223372036854775807) : ∀ (ys : List Int) (i : Nat), l.drop i = ys → Ev (fun k => laws_eqIntS.l0 k l l i) true
  | [], i, h => Ev.next0 fun k => by
      have h0 := drop_nil h
      simp only [laws_eqIntS.l0]
      rw [if_neg (by omega)]
  | y :: ys, i, h => by
      obtain ⟨h1, h2, h3⟩ := drop_cons h
      refine Ev.next1 (laws_eqIntS_l0 l hn ys (i + 1) h3) fun k hk => ?_
      have e := rd_drop h
      simp only [laws_eqIntS.l0, e]
      rw [if_pos (by omega), if_pos (by omega), if_pos (by omega), if_pos (by simp), wrap_succ h1 hn]
      exact hk
theorem laws_eqIntS_ev (l : List Int) (hn : l.length ≤ 9223372036854775807) : Ev (fun k => laws_eqIntS.f k l l) true :=
  Ev.of1 (laws_eqIntS_l0 l hn l 0 rfl) fun k hk => by
    simp only [laws_eqIntS.f]
    rw [if_pos (by simp)]
    exact hk
theorem laws_eqModel_ev (x y z : Int) (t g r : List Int) (ht : t.length ≤ 1048576) (hg : g.length ≤ 1048576) (hr : r.length ≤ 1048576) : Ev (fun k => laws_eqModel.f k x y z t g r x y z t g r) true :=
  (ev_and (laws_eqIntS_ev t (by omega)) <| ev_and (laws_eqIntS_ev g (by omega)) <| ev_one (laws_eqIntS_ev r (by omega))).ev fun k ⟨h1, h2, h3⟩ => by
    simp [laws_eqModel.f, laws_eqGrid.f, h1, h2, h3]
theorem laws_markIntS_l0 (n : Nat) (c : Int) (hc : 0 ≤ c) (hb : c + n ≤ 9223372036854775807) : ∀ (d i : Nat) (x : List Int), i + d = n → x.length = n → x.take i = (markI n c).take i → Ev (fun k => laws_markIntS.l0 k x (c + (i : Int)) i) (c + (n : Int), markI n c)
  | 0, i, x, hd, hl, ht => Ev.next0 fun k => by
      simp only [laws_markIntS.l0]
      rw [if_neg (by omega), copy_end (by rw [hl, markI_length]) ht (by rw [markI_length]; omega), show i = n by omega]
  | d + 1, i, x, hd, hl, ht => by
      obtain ⟨c1, c2⟩ := copy_step (markI_get n c i (by omega)) (by rw [hl, markI_length]) ht
      refine Ev.next1 (laws_markIntS_l0 n c hc hb d (i + 1) _ (by omega) (by rw [c1, markI_length]) c2) fun k hk => ?_
      simp only [laws_markIntS.l0]
      rw [if_pos (by omega), if_pos (by omega), wrap_succ (n := n) (by omega) (by omega), wrap_id (by omega) (by omega), toNat_cast, show c + (i : Int) + 1 = c + ((i + 1 : Nat) : Int) by push_cast; omega]
      exact hk
theorem laws_markIntS_ev (x : List Int) (c : Int) (hc : 0 ≤ c) (hb : c + x.length ≤ 9223372036854775807) : Ev (fun k => laws_markIntS.f k x c) (c + (x.length : Int), markI x.length c) :=
  Ev.of1 (laws_markIntS_l0 x.length c hc hb x.length 0 x (by omega) rfl rfl) fun k hk => by
    simp only [laws_markIntS.f]
    rw [show c + ((0 : Nat) : Int) = c by omega] at hk
    exact hk
theorem laws_markModel_ev (x y z : Int) (t g r : List Int) (ht : t.length ≤ 1048576) (hg : g.length ≤ 1048576) (hr : r.length ≤ 1048576) (c : Int) (hc : 0 ≤ c) (hb : c ≤ 9223372036850000000) : Ev (fun k => laws_markModel.f k x y z t g r c) (c + (t.length : Int) + (g.length : Int) + (r.length : Int), markI t.length c, markI g.length (c + (t.length : Int)), markI r.length (c + (t.length : Int) + (g.length : Int))) :=
  (ev_and (laws_markIntS_ev t c hc (by omega)) <| ev_and (laws_markIntS_ev g (c + (t.length : Int)) (by omega) (by omega)) <| ev_one (laws_markIntS_ev r (c + (t.length : Int) + (g.length : Int)) (by omega) (by omega))).ev fun k ⟨h1, h2, h3⟩ => by
    simp only [laws_markModel.f, h1, h2, h3, Option.bind_some]
theorem spec_l1In_eq (a lo hi : Int) : spec_l1In.f a lo hi = some (decide (lo ≤ a ∧ a ≤ hi)) := by
  unfold spec_l1In.f
  split
  · congr 1; simp; omega
  · congr 1; simp; omega
theorem spec_grGood_eq (x y z : Int) : spec_grGood.f x y z = some (gridOk x y z) := by
  simp only [spec_grGood.f, spec_l1In_eq, Option.bind_some, decide_eq_true_eq, gridOk]
  by_cases hx : 1 ≤ x ∧ x ≤ 8
  · rw [if_pos hx]
    by_cases hy : 1 ≤ y ∧ y ≤ 6
    · rw [if_pos hy]
      by_cases hz : 1 ≤ z ∧ z ≤ 5
      · rw [if_pos hz, grid_wrap hx hy hz]; congr 1; simp [hx, hy, hz]
      · rw [if_neg hz]; congr 1; symm; simp; omega
    · rw [if_neg hy]; congr 1; symm; simp; omega
  · rw [if_neg hx]; congr 1; symm; simp; omega
theorem spec_grCount_eq (x y z : Int) (h : gridOk x y z = true) : spec_grCount.f x y z = some (x * y * z) := by
  have hb := grid_ok h
  simp only [spec_grCount.f]
  rw [grid_wrap hb.1 hb.2.1 hb.2.2.1]
theorem spec_l1All_l0 (lo hi : Int) (l : List Int) (hn : l.length ≤ 9223372036854775807) : ∀ (ys : List Int) (i : Nat), l.drop i = ys → Ev (fun k => spec_l1All.l0 k lo hi l (l.length : Int) i) (allIn lo hi ys)
  | [], i, h => Ev.next0 fun k => by
      have h0 := drop_nil h
      simp only [spec_l1All.l0, allIn]
      rw [if_neg (by omega)]
  | y :: ys, i, h => by
      obtain ⟨h1, h2, h3⟩ := drop_cons h
      refine Ev.next1 (spec_l1All_l0 lo hi l hn ys (i + 1) h3) fun k hk => ?_
      have e := rd_drop h
      simp only [spec_l1All.l0, e, spec_l1In_eq, Option.bind_some]
      rw [if_pos (by omega), if_pos (by omega), if_pos (by omega), wrap_succ h1 hn]
      by_cases hy : lo ≤ y ∧ y ≤ hi
      · rw [if_pos (decide_eq_true hy), hk]; simp [allIn, hy]
      · rw [if_neg (by simp; omega)]; simp [allIn, hy]
theorem spec_l1All_ev (l : List Int) (lo hi : Int) (hn : l.length ≤ 9223372036854775807) : Ev (fun k => spec_l1All.f k l lo hi) (allIn lo hi l) :=
  Ev.of1 (spec_l1All_l0 lo hi l hn l 0 rfl) fun k hk => by simp only [spec_l1All.f]; exact hk
theorem spec_moGood_ev (x y z : Int) (t g r : List Int) (ht : t.length ≤ 1048576) (hg : g.length ≤ 1048576) (hr : r.length ≤ 1048576) : Ev (fun k => spec_moGood.f k x y z t g r) (modelOk x y z t g r) :=
  (ev_and (spec_l1All_ev t 0 10000 (by omega)) <| ev_and (spec_l1All_ev g 0 1000 (by omega)) <| ev_one (spec_l1All_ev r 0 4 (by omega))).ev fun k ⟨h1, h2, h3⟩ => by
    simp only [spec_moGood.f, spec_grGood_eq, Option.bind_some, modelOk]
    by_cases h : gridOk x y z = true
    · rw [if_pos h, spec_grCount_eq x y z h, Option.bind_some, h1, h2, h3]
      simp only [Option.bind_some, h, Bool.true_and]
      by_cases e1 : (t.length : Int) = x * y * z
      · rw [if_pos e1]
        by_cases e2 : (g.length : Int) = x * y * z
        · rw [if_pos e2]
          by_cases e3 : (r.length : Int) = x * y * z
          · rw [if_pos e3, decide_eq_true ⟨e1, e2, e3⟩]
            cases allIn 0 10000 t <;> cases allIn 0 1000 g <;> simp
          · rw [if_neg e3, decide_eq_false (fun h => e3 h.2.2)]; rfl
        · rw [if_neg e2, decide_eq_false (fun h => e2 h.2.1)]; rfl
      · rw [if_neg e1, decide_eq_false (fun h => e1 h.1)]; rfl
    · rw [if_neg h]; simp [h]
theorem spec_rcBoth_ev (x y z : Int) (t g r : List Int) (x' y' z' : Int) (t' g' r' : List Int) (ht : t.length ≤ 1048576) (hg : g.length ≤ 1048576) (hr : r.length ≤ 1048576) (ht' : t'.length ≤ 1048576) (hg' : g'.length ≤ 1048576) (hr' : r'.length ≤ 1048576) : Ev (fun k => spec_rcBoth.f k x y z t g r x' y' z' t' g' r') (modelOk x y z t g r && (modelOk x' y' z' t' g' r' && (x == x' && (y == y' && (z == z'))))) :=
  (ev_and (spec_moGood_ev x y z t g r ht hg hr) <| ev_one (spec_moGood_ev x' y' z' t' g' r' ht' hg' hr')).ev fun k ⟨h1, h2⟩ => by
    simp only [spec_rcBoth.f, h1, h2, Option.bind_some]
    by_cases h : modelOk x y z t g r = true
    · rw [if_pos h, h]
      by_cases h' : modelOk x' y' z' t' g' r' = true
      · rw [if_pos h', h']; rfl
      · rw [if_neg h']; simp [h']
    · rw [if_neg h]; simp [h]
theorem spec_l1Own_eq (l : List Int) (h : l.length < 17592186044416) : spec_l1Own.f l = some l := by
  simp only [spec_l1Own.f, Option.bind_some, List.length_nil, List.nil_append]
  rw [if_pos (by omega)]
theorem spec_moOwn_eq (x y z : Int) (t g r : List Int) (ht : t.length ≤ 1048576) (hg : g.length ≤ 1048576) (hr : r.length ≤ 1048576) : spec_moOwn.f x y z t g r = some (x, y, z, t, g, r) := by
  simp only [spec_moOwn.f, spec_l1Own_eq t (by omega), spec_l1Own_eq g (by omega), spec_l1Own_eq r (by omega), Option.bind_some]
/-- The lists of a model that is good: their lengths and bounds. -/
theorem model_ok {x y z : Int} {t g r : List Int} (h : modelOk x y z t g r = true) : gridOk x y z = true ∧ ((t.length : Int) = x * y * z ∧ (g.length : Int) = x * y * z ∧ (r.length : Int) = x * y * z) ∧ allIn 0 10000 t = true ∧ allIn 0 1000 g = true ∧ allIn 0 4 r = true := by
  simp only [modelOk, Bool.and_eq_true, decide_eq_true_eq] at h
  exact ⟨h.1.1, h.1.2, h.2.1, h.2.2.1, h.2.2.2⟩
-- needs: model_facts
abbrev ModelR := Int × Int × Int × List Int × List Int × List Int × Bool
-- needs: model_facts scale_model
def mixAt (c : Int) (g g' : List Int) (i : Nat) : Int := (c * rd g (i : Int) + (10 - c) * rd g' (i : Int)) / 10
def mixed (c : Int) (g g' : List Int) : List Int := (List.range g.length).map fun i => mixAt c g g' i
theorem mixed_length (c : Int) (g g' : List Int) : (mixed c g g').length = g.length := by simp [mixed]
theorem mixed_get {c : Int} {g g' : List Int} {i : Nat} (h : i < g.length) : (mixed c g g')[i]? = some (mixAt c g g' i) := by simp [mixed, h]
theorem mix_bd {c v u : Int} (hc : 0 ≤ c ∧ c ≤ 10) (hv : 0 ≤ v ∧ v ≤ 1000) (hu : 0 ≤ u ∧ u ≤ 1000) : (0 ≤ c * v ∧ c * v ≤ 10000) ∧ (0 ≤ (10 - c) * u ∧ (10 - c) * u ≤ 10000) ∧ (0 ≤ (c * v + (10 - c) * u) / 10 ∧ (c * v + (10 - c) * u) / 10 ≤ 20000) := by
  have h1 : 0 ≤ c * v := Int.mul_nonneg hc.1 hv.1
  have h2 : c * v ≤ 10 * 1000 := Int.mul_le_mul hc.2 hv.2 hv.1 (by omega)
  have h3 : 0 ≤ (10 - c) * u := Int.mul_nonneg (by omega) hu.1
  have h4 : (10 - c) * u ≤ 10 * 1000 := Int.mul_le_mul (by omega) hu.2 hu.1 (by omega)
  generalize c * v = a at *
  generalize (10 - c) * u = b at *
  omega
def mixRes (x y z : Int) (t g r : List Int) (x' y' z' : Int) (t' g' r' : List Int) (c : Int) : ModelR := if (modelOk x y z t g r = true ∧ modelOk x' y' z' t' g' r' = true ∧ x = x' ∧ y = y' ∧ z = z') ∧ (0 ≤ c ∧ c ≤ 10) then (x, y, z, t, mixed c g g', r, true) else (0, 0, 0, [], [], [], false)
theorem mixRes_len (x y z : Int) (t g r : List Int) (x' y' z' : Int) (t' g' r' : List Int) (ht : t.length ≤ 1048576) (hg : g.length ≤ 1048576) (hr : r.length ≤ 1048576) (ht' : t'.length ≤ 1048576) (hg' : g'.length ≤ 1048576) (hr' : r'.length ≤ 1048576) (c : Int) : (mixRes x y z t g r x' y' z' t' g' r' c).2.2.2.1.length ≤ 1048576 ∧ (mixRes x y z t g r x' y' z' t' g' r' c).2.2.2.2.1.length ≤ 1048576 ∧ (mixRes x y z t g r x' y' z' t' g' r' c).2.2.2.2.2.1.length ≤ 1048576 := by
  unfold mixRes
  split
  · exact ⟨ht, by simp only [mixed_length]; exact hg, hr⟩
  · simp
theorem mix_len {x y z : Int} {t g r : List Int} {x' y' z' : Int} {t' g' r' : List Int} (h : modelOk x y z t g r = true ∧ modelOk x' y' z' t' g' r' = true ∧ x = x' ∧ y = y' ∧ z = z') : g'.length = g.length := by
  obtain ⟨_, l1, _⟩ := model_ok h.1
  obtain ⟨_, l2, _⟩ := model_ok h.2.1
  rw [← h.2.2.1, ← h.2.2.2.1, ← h.2.2.2.2] at l2
  generalize x * y * z = p at l1 l2
  omega
-- needs: mix_model
theorem spec_MixModels_l0 (x y z : Int) (t g r : List Int) (x' y' z' : Int) (t' g' r' : List Int) (c : Int) (hc : 0 ≤ c ∧ c ≤ 10) (hn : g.length ≤ 1048576) (hg' : g'.length = g.length) (hv : allIn 0 1000 g = true) (hu : allIn 0 1000 g' = true) : ∀ (m i : Nat) (a : List Int), i + m = g.length → a.length = g.length → a.take i = (mixed c g g').take i →
    Ev (fun k => spec_MixModels.l0 k c g (g.length : Int) (i : Int) x' y' z' t' g' r' x y z t a r) (x, y, z, t, mixed c g g', r, true)
  | 0, i, a, h, ha, hi => Ev.next0 fun k => by
      have e : a = mixed c g g' := copy_end (by rw [ha, mixed_length]) hi (by rw [mixed_length]; omega)
      simp only [spec_MixModels.l0]
      rw [if_neg (by omega), e]
  | m + 1, i, a, h, ha, hi => by
      have ew := wrap_succ (i := i) (n := g.length) (by omega) (by omega)
      have hgi : g[i]? = some (g[i]'(by omega)) := List.getElem?_eq_getElem (by omega)
      have hui : g'[i]? = some (g'[i]'(by omega)) := List.getElem?_eq_getElem (by omega)
      have bv := allIn_get hv hgi
      have bu := allIn_get hu hui
      rw [← rd_get hgi] at bv
      rw [← rd_get hui] at bu
      have hb := mix_bd hc bv bu
      obtain ⟨c1, c2⟩ := copy_step (mixed_get (c := c) (g := g) (g' := g') (i := i) (by omega)) (by rw [ha, mixed_length]) hi
      rw [mixed_length] at c1
      have b0 : (i : Int) < (g.length : Int) := by omega
      have b1 : 0 ≤ (i : Int) := by omega
      have b2 : (i : Int) < (g'.length : Int) := by omega
      have b3 : (i : Int) < (a.length : Int) := by omega
      have e10 : wrap64 (10 - c) = 10 - c := wrap_id (by omega) (by omega)
      have em : wrap64 (Int.tdiv (wrap64 ((wrap64 (c * rd g (i : Int))) + (wrap64 ((10 - c) * rd g' (i : Int))))) 10) = mixAt c g g' i := by
        rw [wrap_id (x := c * rd g (i : Int)) (by omega) (by omega), wrap_id (x := (10 - c) * rd g' (i : Int)) (by omega) (by omega), wrap_id (x := c * rd g (i : Int) + (10 - c) * rd g' (i : Int)) (by omega) (by omega), Int.tdiv_eq_ediv_of_nonneg (by omega), wrap_id (by omega) (by omega), mixAt]
      refine Ev.next1 (spec_MixModels_l0 x y z t g r x' y' z' t' g' r' c hc hn hg' hv hu m (i + 1) (a.set i (mixAt c g g' i)) (by omega) c1 c2) fun k hk => ?_
      simp only [spec_MixModels.l0]
      rw [if_pos b0, if_pos b1, if_pos b0, if_pos b2, if_pos b3, e10, em, ew, toNat_cast]
      exact hk
theorem spec_MixModels_no (x y z : Int) (t g r : List Int) (x' y' z' : Int) (t' g' r' : List Int) (c : Int) : Ev (fun k => spec_MixModels.j0 k c true x y z t g r x' y' z' t' g' r') (0, 0, 0, [], [], [], false) := Ev.next0 fun k => by simp [spec_MixModels.j0]
theorem spec_MixModels_ev (x y z : Int) (t g r : List Int) (x' y' z' : Int) (t' g' r' : List Int) (ht : t.length ≤ 1048576) (hg : g.length ≤ 1048576) (hr : r.length ≤ 1048576) (ht' : t'.length ≤ 1048576) (hg' : g'.length ≤ 1048576) (hr' : r'.length ≤ 1048576) (c : Int) : Ev (fun k => spec_MixModels.f k x y z t g r x' y' z' t' g' r' c) (mixRes x y z t g r x' y' z' t' g' r' c) := by
  have h0 := spec_rcBoth_ev x y z t g r x' y' z' t' g' r' ht hg hr ht' hg' hr'
  have hno := spec_MixModels_no x y z t g r x' y' z' t' g' r' c
  by_cases h : modelOk x y z t g r = true ∧ modelOk x' y' z' t' g' r' = true ∧ x = x' ∧ y = y' ∧ z = z'
  · have et : (modelOk x y z t g r && (modelOk x' y' z' t' g' r' && (x == x' && (y == y' && (z == z'))))) = true := by simp only [h.1, h.2.1, Bool.true_and]; simp [h.2.2]
    by_cases hc : 0 ≤ c ∧ c ≤ 10
    · have ef : mixRes x y z t g r x' y' z' t' g' r' c = (x, y, z, t, mixed c g g', r, true) := by rw [mixRes, if_pos ⟨h, hc⟩]
      obtain ⟨_, _, _, v2, _⟩ := model_ok h.1
      obtain ⟨_, _, _, u2, _⟩ := model_ok h.2.1
      have i1 : Ev (fun k => spec_MixModels.j0 k c false x y z t g r x' y' z' t' g' r') (x, y, z, t, mixed c g g', r, true) := Ev.next1 (spec_MixModels_l0 x y z t g r x' y' z' t' g' r' c hc hg (mix_len h) v2 u2 g.length 0 g (by omega) rfl (by simp)) fun k hk => by
        simp only [spec_MixModels.j0, spec_moOwn_eq x y z t g r ht hg hr, Option.bind_some]
        rw [if_neg (by simp)]; exact hk
      refine (ev_and h0 <| ev_one i1).ev fun k ⟨k1, k2⟩ => ?_
      simp only [spec_MixModels.f, spec_l1In_eq, k1, Option.bind_some]
      rw [if_pos et, ef]
      rw [show (!decide (0 ≤ c ∧ c ≤ 10)) = false by simp [hc]]; exact k2
    · have ef : mixRes x y z t g r x' y' z' t' g' r' c = (0, 0, 0, [], [], [], false) := by rw [mixRes, if_neg (fun q => hc q.2)]
      refine (ev_and h0 <| ev_one hno).ev fun k ⟨k1, k2⟩ => ?_
      simp only [spec_MixModels.f, spec_l1In_eq, k1, Option.bind_some]
      rw [if_pos et, ef]
      rw [show (!decide (0 ≤ c ∧ c ≤ 10)) = true by rw [decide_eq_false hc]; rfl]; exact k2
  · have ef : mixRes x y z t g r x' y' z' t' g' r' c = (0, 0, 0, [], [], [], false) := by rw [mixRes, if_neg (fun q => h q.1)]
    refine (ev_and h0 <| ev_one hno).ev fun k ⟨k1, k2⟩ => ?_
    simp only [spec_MixModels.f, k1, Option.bind_some]
    rw [if_neg (by simpa using h), ef]; exact k2
theorem impl_IsGrid_eq (x y z : Int) : impl_IsGrid.f x y z = some (gridOk x y z) := by
  simp only [impl_IsGrid.f, gridOk]
  by_cases hx : 1 ≤ x ∧ x ≤ 8
  · rw [if_pos (by omega), if_pos (by omega)]
    by_cases hy : 1 ≤ y ∧ y ≤ 6
    · rw [if_pos (by omega), if_pos (by omega)]
      by_cases hz : 1 ≤ z ∧ z ≤ 5
      · rw [if_pos (by omega), if_pos (by omega), grid_wrap hx hy hz]; congr 1; simp [hx, hy, hz]
      · have e : decide (1 ≤ x ∧ x ≤ 8 ∧ 1 ≤ y ∧ y ≤ 6 ∧ 1 ≤ z ∧ z ≤ 5 ∧ x * y * z ≤ 120) = false := by simp; omega
        rw [e]; split
        · rw [if_neg (by omega)]
        · rfl
    · have e : decide (1 ≤ x ∧ x ≤ 8 ∧ 1 ≤ y ∧ y ≤ 6 ∧ 1 ≤ z ∧ z ≤ 5 ∧ x * y * z ≤ 120) = false := by simp; omega
      rw [e]; split
      · rw [if_neg (by omega)]
      · rfl
  · have e : decide (1 ≤ x ∧ x ≤ 8 ∧ 1 ≤ y ∧ y ≤ 6 ∧ 1 ≤ z ∧ z ≤ 5 ∧ x * y * z ≤ 120) = false := by simp; omega
    rw [e]; split
    · rw [if_neg (by omega)]
    · rfl
theorem impl_blocksOf_eq (x y z : Int) (h : gridOk x y z = true) : impl_blocksOf.f x y z = some (x * y * z) := by
  have hb := grid_ok h
  simp only [impl_blocksOf.f]
  rw [grid_wrap hb.1 hb.2.1 hb.2.2.1]
theorem impl_IsModel_l0 (x y z : Int) (t g r : List Int) (n : Nat) (hn : n ≤ 1048576) (ht : t.length = n) (hg : g.length = n) (hr : r.length = n) : ∀ (ts gs rs : List Int) (i : Nat), t.drop i = ts → g.drop i = gs → r.drop i = rs → Ev (fun k => impl_IsModel.l0 k (n : Int) i x y z t g r) (allIn 0 10000 ts && (allIn 0 1000 gs && allIn 0 4 rs))
  | [], gs, rs, i, h, hg', hr' => Ev.next0 fun k => by
      have h0 := drop_nil h
      have e1 : gs = [] := by rw [← hg']; exact List.drop_of_length_le (by omega)
      have e2 : rs = [] := by rw [← hr']; exact List.drop_of_length_le (by omega)
      subst e1 e2
      simp only [impl_IsModel.l0, allIn]
      rw [if_neg (by omega)]; rfl
  | a :: ts, [], rs, i, h, hg', hr' => by have h1 := (drop_cons h).1; have h2 := drop_nil hg'; omega
  | a :: ts, b :: gs, [], i, h, hg', hr' => by have h1 := (drop_cons h).1; have h2 := drop_nil hr'; omega
  | a :: ts, b :: gs, c :: rs, i, h, hg', hr' => by
      obtain ⟨h1, h2, h3⟩ := drop_cons h
      obtain ⟨g1, g2, g3⟩ := drop_cons hg'
      obtain ⟨r1, r2, r3⟩ := drop_cons hr'
      have ea := rd_drop h
      have eb := rd_drop hg'
      have ec := rd_drop hr'
      refine Ev.next1 (impl_IsModel_l0 x y z t g r n hn ht hg hr ts gs rs (i + 1) h3 g3 r3) fun k hk => ?_
      simp only [impl_IsModel.l0, ea, eb, ec]
      rw [if_pos (by omega), if_pos (by omega), if_pos (by omega)]
      by_cases ka : 0 ≤ a ∧ a ≤ 10000
      · rw [if_neg (by omega), if_neg (by omega), if_pos (by omega)]
        by_cases kb : 0 ≤ b ∧ b ≤ 1000
        · rw [if_neg (by omega), if_neg (by omega), if_pos (by omega)]
          by_cases kc : 0 ≤ c ∧ c ≤ 4
          · rw [if_neg (by omega), if_neg (by omega), wrap_succ h1 (by omega), hk]
            simp [allIn, ka, kb, kc]
          · have e : (allIn 0 10000 (a :: ts) && (allIn 0 1000 (b :: gs) && allIn 0 4 (c :: rs))) = false := by simp [allIn, kc]
            rw [e]; split
            · rfl
            · rw [if_pos (by omega)]
        · have e : (allIn 0 10000 (a :: ts) && (allIn 0 1000 (b :: gs) && allIn 0 4 (c :: rs))) = false := by simp [allIn, kb]
          rw [e]; split
          · rfl
          · rw [if_pos (by omega)]
      · have e : (allIn 0 10000 (a :: ts) && (allIn 0 1000 (b :: gs) && allIn 0 4 (c :: rs))) = false := by simp [allIn, ka]
        rw [e]; split
        · rfl
        · rw [if_pos (by omega)]
theorem impl_IsModel_ev (x y z : Int) (t g r : List Int) (ht : t.length ≤ 1048576) (hg : g.length ≤ 1048576) (hr : r.length ≤ 1048576) : Ev (fun k => impl_IsModel.f k x y z t g r) (modelOk x y z t g r) := by
  by_cases h : gridOk x y z = true
  · have no : ∀ n : Int, Ev (fun k => impl_IsModel.j0 k n true x y z t g r) false := fun n => Ev.next0 fun k => by simp [impl_IsModel.j0]
    by_cases e : (t.length : Int) = x * y * z ∧ (g.length : Int) = x * y * z ∧ (r.length : Int) = x * y * z
    · obtain ⟨e1, e2, e3⟩ := e
      have h1 : Ev (fun k => impl_IsModel.j0 k (x * y * z) false x y z t g r) (allIn 0 10000 t && (allIn 0 1000 g && allIn 0 4 r)) := by
        refine Ev.next1 (impl_IsModel_l0 x y z t g r t.length ht rfl (by omega) (by omega) t g r 0 rfl rfl rfl) fun k hk => ?_
        simp only [impl_IsModel.j0]
        rw [if_neg (by simp), ← e1]; exact hk
      refine Ev.of1 h1 fun k hk => ?_
      simp only [impl_IsModel.f, impl_IsGrid_eq, Option.bind_some, impl_blocksOf_eq x y z h]
      rw [if_pos h, if_pos e1, if_pos e2, show ((r.length : Int) != x * y * z) = false by simp [e3], hk]
      simp [modelOk, h, e1, e2, e3]
    · refine Ev.of1 (no (x * y * z)) fun k hk => ?_
      have em : modelOk x y z t g r = false := by
        simp only [modelOk, decide_eq_false e, Bool.and_false, Bool.false_and]
      simp only [impl_IsModel.f, impl_IsGrid_eq, Option.bind_some, impl_blocksOf_eq x y z h]
      rw [if_pos h, em]
      by_cases e1 : (t.length : Int) = x * y * z
      · rw [if_pos e1]
        by_cases e2 : (g.length : Int) = x * y * z
        · rw [if_pos e2, show ((r.length : Int) != x * y * z) = true by
            have e3 : ¬ (r.length : Int) = x * y * z := fun e3 => e ⟨e1, e2, e3⟩
            simpa using e3, hk]
        · rw [if_neg e2, hk]
      · rw [if_neg e1, hk]
  · refine Ev.all fun k => ?_
    simp only [impl_IsModel.f, impl_IsGrid_eq, Option.bind_some]
    rw [if_neg h]; simp [modelOk, h]
theorem impl_areTwins_ev (x y z : Int) (t g r : List Int) (x' y' z' : Int) (t' g' r' : List Int) (ht : t.length ≤ 1048576) (hg : g.length ≤ 1048576) (hr : r.length ≤ 1048576) (ht' : t'.length ≤ 1048576) (hg' : g'.length ≤ 1048576) (hr' : r'.length ≤ 1048576) : Ev (fun k => impl_areTwins.f k x y z t g r x' y' z' t' g' r') (modelOk x y z t g r && (modelOk x' y' z' t' g' r' && (x == x' && (y == y' && (z == z'))))) :=
  (ev_and (impl_IsModel_ev x y z t g r ht hg hr) <| ev_one (impl_IsModel_ev x' y' z' t' g' r' ht' hg' hr')).ev fun k ⟨h1, h2⟩ => by
    simp only [impl_areTwins.f, h1, h2, Option.bind_some]
    by_cases h : modelOk x y z t g r = true
    · rw [if_pos h, h]
      by_cases h' : modelOk x' y' z' t' g' r' = true
      · rw [if_pos h', h']; rfl
      · rw [if_neg h']; simp [h']
    · rw [if_neg h]; simp [h]
theorem impl_copyModel_eq (x y z : Int) (t g r : List Int) (ht : t.length ≤ 1048576) (hg : g.length ≤ 1048576) (hr : r.length ≤ 1048576) : impl_copyModel.f x y z t g r = some (x, y, z, t, g, r) := by
  simp only [impl_copyModel.f, Option.bind_some, List.length_nil, List.nil_append]
  rw [if_pos (by omega), if_pos (by omega), if_pos (by omega)]
-- needs: mix_model
theorem impl_MixModels_l0 (x y z : Int) (t g r : List Int) (x' y' z' : Int) (t' g' r' : List Int) (c : Int) (hc : 0 ≤ c ∧ c ≤ 10) (hn : g.length ≤ 1048576) (hg' : g'.length = g.length) (hv : allIn 0 1000 g = true) (hu : allIn 0 1000 g' = true) : ∀ (m i : Nat) (a : List Int), i + m = g.length → a.length = g.length → a.take i = (mixed c g g').take i →
    Ev (fun k => impl_MixModels.l0 k c (g.length : Int) (i : Int) x y z t g r x' y' z' t' g' r' x y z t a r) (x, y, z, t, mixed c g g', r, true)
  | 0, i, a, h, ha, hi => Ev.next0 fun k => by
      have e : a = mixed c g g' := copy_end (by rw [ha, mixed_length]) hi (by rw [mixed_length]; omega)
      simp only [impl_MixModels.l0]
      rw [if_neg (by omega), e]
  | m + 1, i, a, h, ha, hi => by
      have ew := wrap_succ (i := i) (n := g.length) (by omega) (by omega)
      have hgi : g[i]? = some (g[i]'(by omega)) := List.getElem?_eq_getElem (by omega)
      have hui : g'[i]? = some (g'[i]'(by omega)) := List.getElem?_eq_getElem (by omega)
      have bv := allIn_get hv hgi
      have bu := allIn_get hu hui
      rw [← rd_get hgi] at bv
      rw [← rd_get hui] at bu
      have hb := mix_bd hc bv bu
      obtain ⟨c1, c2⟩ := copy_step (mixed_get (c := c) (g := g) (g' := g') (i := i) (by omega)) (by rw [ha, mixed_length]) hi
      rw [mixed_length] at c1
      have b0 : (i : Int) < (g.length : Int) := by omega
      have b1 : 0 ≤ (i : Int) := by omega
      have b2 : (i : Int) < (g'.length : Int) := by omega
      have b3 : (i : Int) < (a.length : Int) := by omega
      have e10 : wrap64 (10 - c) = 10 - c := wrap_id (by omega) (by omega)
      have em : wrap64 (Int.tdiv (wrap64 ((wrap64 (c * rd g (i : Int))) + (wrap64 ((10 - c) * rd g' (i : Int))))) 10) = mixAt c g g' i := by
        rw [wrap_id (x := c * rd g (i : Int)) (by omega) (by omega), wrap_id (x := (10 - c) * rd g' (i : Int)) (by omega) (by omega), wrap_id (x := c * rd g (i : Int) + (10 - c) * rd g' (i : Int)) (by omega) (by omega), Int.tdiv_eq_ediv_of_nonneg (by omega), wrap_id (by omega) (by omega), mixAt]
      refine Ev.next1 (impl_MixModels_l0 x y z t g r x' y' z' t' g' r' c hc hn hg' hv hu m (i + 1) (a.set i (mixAt c g g' i)) (by omega) c1 c2) fun k hk => ?_
      simp only [impl_MixModels.l0]
      rw [if_pos b0, if_pos b1, if_pos b0, if_pos b2, if_pos b3, e10, em, ew, toNat_cast]
      exact hk
theorem impl_MixModels_no (x y z : Int) (t g r : List Int) (x' y' z' : Int) (t' g' r' : List Int) (c : Int) : Ev (fun k => impl_MixModels.j0 k c true x y z t g r x' y' z' t' g' r') (0, 0, 0, [], [], [], false) := Ev.next0 fun k => by simp [impl_MixModels.j0]
theorem impl_MixModels_ev (x y z : Int) (t g r : List Int) (x' y' z' : Int) (t' g' r' : List Int) (ht : t.length ≤ 1048576) (hg : g.length ≤ 1048576) (hr : r.length ≤ 1048576) (ht' : t'.length ≤ 1048576) (hg' : g'.length ≤ 1048576) (hr' : r'.length ≤ 1048576) (c : Int) : Ev (fun k => impl_MixModels.f k x y z t g r x' y' z' t' g' r' c) (mixRes x y z t g r x' y' z' t' g' r' c) := by
  have h0 := impl_areTwins_ev x y z t g r x' y' z' t' g' r' ht hg hr ht' hg' hr'
  have hno := impl_MixModels_no x y z t g r x' y' z' t' g' r' c
  by_cases h : modelOk x y z t g r = true ∧ modelOk x' y' z' t' g' r' = true ∧ x = x' ∧ y = y' ∧ z = z'
  · have et : (modelOk x y z t g r && (modelOk x' y' z' t' g' r' && (x == x' && (y == y' && (z == z'))))) = true := by simp only [h.1, h.2.1, Bool.true_and]; simp [h.2.2]
    by_cases hc : 0 ≤ c ∧ c ≤ 10
    · have ef : mixRes x y z t g r x' y' z' t' g' r' c = (x, y, z, t, mixed c g g', r, true) := by rw [mixRes, if_pos ⟨h, hc⟩]
      obtain ⟨_, _, _, v2, _⟩ := model_ok h.1
      obtain ⟨_, _, _, u2, _⟩ := model_ok h.2.1
      have i1 : Ev (fun k => impl_MixModels.j0 k c false x y z t g r x' y' z' t' g' r') (x, y, z, t, mixed c g g', r, true) := Ev.next1 (impl_MixModels_l0 x y z t g r x' y' z' t' g' r' c hc hg (mix_len h) v2 u2 g.length 0 g (by omega) rfl (by simp)) fun k hk => by
        simp only [impl_MixModels.j0, impl_copyModel_eq x y z t g r ht hg hr, Option.bind_some]
        rw [if_neg (by simp)]; exact hk
      refine (ev_and h0 <| ev_one i1).ev fun k ⟨k1, k2⟩ => ?_
      simp only [impl_MixModels.f, k1, Option.bind_some]
      rw [if_pos et, ef]
      rw [if_neg (by omega), show decide (c > 10) = false by simp; omega]; exact k2
    · have ef : mixRes x y z t g r x' y' z' t' g' r' c = (0, 0, 0, [], [], [], false) := by rw [mixRes, if_neg (fun q => hc q.2)]
      refine (ev_and h0 <| ev_one hno).ev fun k ⟨k1, k2⟩ => ?_
      simp only [impl_MixModels.f, k1, Option.bind_some]
      rw [if_pos et, ef]
      by_cases h5 : c < 0
      · rw [if_pos h5]; exact k2
      · rw [if_neg h5, show decide (c > 10) = true by simp; omega]; exact k2
  · have ef : mixRes x y z t g r x' y' z' t' g' r' c = (0, 0, 0, [], [], [], false) := by rw [mixRes, if_neg (fun q => h q.1)]
    refine (ev_and h0 <| ev_one hno).ev fun k ⟨k1, k2⟩ => ?_
    simp only [impl_MixModels.f, k1, Option.bind_some]
    rw [if_neg (by simpa using h), ef]; exact k2
theorem laws_heldIntS_l0 (n : Nat) (c : Int) (hc : 0 ≤ c) (hb : c + n ≤ 9223372036854775807) : ∀ (d i : Nat), i + d = n → Ev (fun k => laws_heldIntS.l0 k (markI n c) (c + (i : Int)) i) (c + (n : Int))
  | 0, i, hd => Ev.next0 fun k => by
      simp only [laws_heldIntS.l0]
      rw [if_neg (by rw [markI_length]; omega), show i = n by omega]
  | d + 1, i, hd => by
      refine Ev.next1 (laws_heldIntS_l0 n c hc hb d (i + 1) (by omega)) fun k hk => ?_
      have e := rd_get (markI_get n c i (by omega))
      simp only [laws_heldIntS.l0, e]
      rw [if_pos (by rw [markI_length]; omega), if_pos (by omega), if_pos (by simp), wrap_succ (n := n) (by omega) (by omega), wrap_id (by omega) (by omega), show c + (i : Int) + 1 = c + ((i + 1 : Nat) : Int) by push_cast; omega]
      exact hk
theorem laws_heldIntS_ev (n : Nat) (c : Int) (hc : 0 ≤ c) (hb : c + n ≤ 9223372036854775807) : Ev (fun k => laws_heldIntS.f k (markI n c) c) (c + (n : Int)) :=
  Ev.of1 (laws_heldIntS_l0 n c hc hb n 0 (by omega)) fun k hk => by
    simp only [laws_heldIntS.f]
    rw [show c + ((0 : Nat) : Int) = c by omega] at hk
    exact hk
theorem laws_heldModel_ev (x y z : Int) (a b d : Nat) (ha : a ≤ 1048576) (hb : b ≤ 1048576) (hd : d ≤ 1048576) (c : Int) (hc : 0 ≤ c) (hcb : c ≤ 9223372036850000000) : Ev (fun k => laws_heldModel.f k x y z (markI a c) (markI b (c + (a : Int))) (markI d (c + (a : Int) + (b : Int))) c) (c + (a : Int) + (b : Int) + (d : Int)) :=
  (ev_and (laws_heldIntS_ev a c hc (by omega)) <| ev_and (laws_heldIntS_ev b (c + (a : Int)) (by omega) (by omega)) <| ev_one (laws_heldIntS_ev d (c + (a : Int) + (b : Int)) (by omega) (by omega))).ev fun k ⟨h1, h2, h3⟩ => by
    simp only [laws_heldModel.f, h1, h2, h3, Option.bind_some]
    first | rfl | (rw [if_neg (by omega), if_neg (by omega), if_neg (by omega)]) | (rw [if_neg (by omega), if_neg (by omega)])
theorem j5_ev (X Y Z : Int) (a b d : Nat) (ha : a ≤ 1048576) (hb : b ≤ 1048576) (hd : d ≤ 1048576) : Ev (fun k => laws_FnExactMixModels.j5 k (1 + (a : Int) + (b : Int) + (d : Int)) false X Y Z (markI a 1) (markI b (1 + (a : Int))) (markI d (1 + (a : Int) + (b : Int)))) true :=
  (ev_one (laws_heldModel_ev X Y Z a b d ha hb hd 1 (by omega) (by omega))).next fun k h1 => by
    simp only [laws_FnExactMixModels.j5, h1, Option.bind_some]
    rw [if_neg (by simp), if_neg (by omega), if_pos (by simp)]
theorem j4_ev (x y z : Int) (t g r : List Int) (x' y' z' : Int) (t' g' r' : List Int) (ht : t.length ≤ 1048576) (hg : g.length ≤ 1048576) (hr : r.length ≤ 1048576) (ht' : t'.length ≤ 1048576) (hg' : g'.length ≤ 1048576) (hr' : r'.length ≤ 1048576) (c : Int) (X Y Z : Int) (T G R : List Int) (b : Bool) (hT : T.length ≤ 1048576) (hG : G.length ≤ 1048576) (hR : R.length ≤ 1048576) (hi : Ev (fun k => impl_MixModels.f k x y z t g r x' y' z' t' g' r' c) (X, Y, Z, T, G, R, b)) : Ev (fun k => laws_FnExactMixModels.j4 k c b (1 + (T.length : Int) + (G.length : Int) + (R.length : Int)) (1 + (T.length : Int) + (G.length : Int) + (R.length : Int)) x y z t g r x' y' z' t' g' r' X Y Z T G R X Y Z (markI T.length 1) (markI G.length (1 + (T.length : Int))) (markI R.length (1 + (T.length : Int) + (G.length : Int)))) true :=
  (ev_and (laws_toModel_ev x y z t g r ht hg hr) <| ev_and (laws_toModel_ev x' y' z' t' g' r' ht' hg' hr') <| ev_and hi <| ev_and (laws_eqModel_ev X Y Z T G R hT hG hR) <| ev_one (j5_ev X Y Z T.length G.length R.length hT hG hR)).next fun k ⟨h1, h5, h2, h3, h4⟩ => by
    simp only [laws_FnExactMixModels.j4, h1, h5, h2, h3, Option.bind_some]
    rw [if_pos (by simp), if_pos (by simp), bne_self_eq_false]; exact h4
theorem j3_ev (x y z : Int) (t g r : List Int) (x' y' z' : Int) (t' g' r' : List Int) (ht : t.length ≤ 1048576) (hg : g.length ≤ 1048576) (hr : r.length ≤ 1048576) (ht' : t'.length ≤ 1048576) (hg' : g'.length ≤ 1048576) (hr' : r'.length ≤ 1048576) (c : Int) (X Y Z : Int) (T G R : List Int) (b : Bool) (hT : T.length ≤ 1048576) (hG : G.length ≤ 1048576) (hR : R.length ≤ 1048576) (hi : Ev (fun k => impl_MixModels.f k x y z t g r x' y' z' t' g' r' c) (X, Y, Z, T, G, R, b)) : Ev (fun k => laws_FnExactMixModels.j3 k c b false x y z t g r x' y' z' t' g' r' X Y Z T G R X Y Z T G R) true :=
  (ev_and (laws_markModel_ev X Y Z T G R hT hG hR 1 (by omega) (by omega)) <| ev_and (laws_heldModel_ev X Y Z T.length G.length R.length hT hG hR 1 (by omega) (by omega)) <| ev_one (j4_ev x y z t g r x' y' z' t' g' r' ht hg hr ht' hg' hr' c X Y Z T G R b hT hG hR hi)).next fun k ⟨h1, h2, h3⟩ => by
    simp only [laws_FnExactMixModels.j3, h1, h2, Option.bind_some]
    rw [if_neg (by simp), if_neg (by omega)]; exact h3
theorem j2_ev (x y z : Int) (t g r : List Int) (x' y' z' : Int) (t' g' r' : List Int) (ht : t.length ≤ 1048576) (hg : g.length ≤ 1048576) (hr : r.length ≤ 1048576) (ht' : t'.length ≤ 1048576) (hg' : g'.length ≤ 1048576) (hr' : r'.length ≤ 1048576) (c : Int) (X Y Z : Int) (T G R : List Int) (b : Bool) (hT : T.length ≤ 1048576) (hG : G.length ≤ 1048576) (hR : R.length ≤ 1048576) (hi : Ev (fun k => impl_MixModels.f k x y z t g r x' y' z' t' g' r' c) (X, Y, Z, T, G, R, b)) : Ev (fun k => laws_FnExactMixModels.j2 k c b b x y z t g r x' y' z' t' g' r' X Y Z T G R x y z t g r x' y' z' t' g' r' X Y Z T G R) true :=
  (ev_and (laws_markModel_ev x y z t g r ht hg hr 1 (by omega) (by omega)) <| ev_and (laws_markModel_ev x' y' z' t' g' r' ht' hg' hr' (1 + (t.length : Int) + (g.length : Int) + (r.length : Int)) (by omega) (by omega)) <| ev_and (laws_eqModel_ev X Y Z T G R hT hG hR) <| ev_one (j3_ev x y z t g r x' y' z' t' g' r' ht hg hr ht' hg' hr' c X Y Z T G R b hT hG hR hi)).next fun k ⟨h1, h2, h3, h4⟩ => by
    simp only [laws_FnExactMixModels.j2, h1, h2, h3, Option.bind_some]
    rw [if_neg (by omega), if_pos (by simp), bne_self_eq_false]; exact h4
theorem j1_ev (x y z : Int) (t g r : List Int) (x' y' z' : Int) (t' g' r' : List Int) (ht : t.length ≤ 1048576) (hg : g.length ≤ 1048576) (hr : r.length ≤ 1048576) (ht' : t'.length ≤ 1048576) (hg' : g'.length ≤ 1048576) (hr' : r'.length ≤ 1048576) (c : Int) (X Y Z : Int) (T G R : List Int) (b : Bool) (hT : T.length ≤ 1048576) (hG : G.length ≤ 1048576) (hR : R.length ≤ 1048576) (hi : Ev (fun k => impl_MixModels.f k x y z t g r x' y' z' t' g' r' c) (X, Y, Z, T, G, R, b)) : Ev (fun k => laws_FnExactMixModels.j1 k c b b x y z t g r x' y' z' t' g' r' X Y Z T G R x y z t g r x' y' z' t' g' r' X Y Z T G R) true :=
  (ev_and (laws_toModel_ev x' y' z' t' g' r' ht' hg' hr') <| ev_and (laws_eqModel_ev x' y' z' t' g' r' ht' hg' hr') <| ev_one (j2_ev x y z t g r x' y' z' t' g' r' ht hg hr ht' hg' hr' c X Y Z T G R b hT hG hR hi)).next fun k ⟨h1, h2, h3⟩ => by
    simp only [laws_FnExactMixModels.j1, h1, h2, Option.bind_some]
    rw [if_pos (by simp)]; exact h3
theorem j0_ev (x y z : Int) (t g r : List Int) (x' y' z' : Int) (t' g' r' : List Int) (ht : t.length ≤ 1048576) (hg : g.length ≤ 1048576) (hr : r.length ≤ 1048576) (ht' : t'.length ≤ 1048576) (hg' : g'.length ≤ 1048576) (hr' : r'.length ≤ 1048576) (c : Int) (X Y Z : Int) (T G R : List Int) (b : Bool) (hT : T.length ≤ 1048576) (hG : G.length ≤ 1048576) (hR : R.length ≤ 1048576) (hi : Ev (fun k => impl_MixModels.f k x y z t g r x' y' z' t' g' r' c) (X, Y, Z, T, G, R, b)) : Ev (fun k => laws_FnExactMixModels.j0 k c b b false x y z t g r x' y' z' t' g' r' X Y Z T G R x y z t g r x' y' z' t' g' r' X Y Z T G R) true :=
  (ev_and (laws_toModel_ev x y z t g r ht hg hr) <| ev_and (laws_eqModel_ev x y z t g r ht hg hr) <| ev_one (j1_ev x y z t g r x' y' z' t' g' r' ht hg hr ht' hg' hr' c X Y Z T G R b hT hG hR hi)).next fun k ⟨h1, h2, h3⟩ => by
    simp only [laws_FnExactMixModels.j0, h1, h2, Option.bind_some]
    rw [if_neg (by simp), if_pos (by simp)]; exact h3
theorem law_ev (x y z : Int) (t g r : List Int) (x' y' z' : Int) (t' g' r' : List Int) (ht : t.length ≤ 1048576) (hg : g.length ≤ 1048576) (hr : r.length ≤ 1048576) (ht' : t'.length ≤ 1048576) (hg' : g'.length ≤ 1048576) (hr' : r'.length ≤ 1048576) (c : Int) (X Y Z : Int) (T G R : List Int) (b : Bool) (hT : T.length ≤ 1048576) (hG : G.length ≤ 1048576) (hR : R.length ≤ 1048576) (hs : Ev (fun k => spec_MixModels.f k x y z t g r x' y' z' t' g' r' c) (X, Y, Z, T, G, R, b)) (hi : Ev (fun k => impl_MixModels.f k x y z t g r x' y' z' t' g' r' c) (X, Y, Z, T, G, R, b)) (hq : t.length + g.length + r.length + (t'.length + g'.length + r'.length) ≤ 1048576) : Ev (fun k => laws_FnExactMixModels.f k x y z t g r x' y' z' t' g' r' c) true := by
  have hz := laws_szModel_eq x y z t g r 1048576 (by omega) (by omega) (by omega) (by omega) (by omega)
  have hz' := laws_szModel_eq x' y' z' t' g' r' (1048576 - ((t.length + g.length + r.length : Nat) : Int)) (by omega) (by omega) (by omega) (by omega) (by omega)
  refine (ev_and (laws_toModel_ev x y z t g r ht hg hr) <| ev_and (laws_toModel_ev x' y' z' t' g' r' ht' hg' hr') <| ev_and hs <| ev_and hi <| ev_and (laws_eqModel_ev X Y Z T G R hT hG hR) <| ev_one (j0_ev x y z t g r x' y' z' t' g' r' ht hg hr ht' hg' hr' c X Y Z T G R b hT hG hR hi)).ev fun k ⟨a1, a6, a2, a3, a4, a5⟩ => ?_
  simp only [laws_FnExactMixModels.f, hz, Option.bind_some]
  rw [left_ge (by omega), if_neg (by omega), hz', Option.bind_some, left_ge (by omega), if_neg (by omega)]
  simp only [a1, a2, a3, a4, a6, Option.bind_some]
  rw [if_pos (by simp), bne_self_eq_false]; exact a5
theorem FnExactMixModels : Stat.FnExactMixModels := by
  intro x y z t g r x' y' z' t' g' r' c _ _ _ ht hg hr _ _ _ ht' hg' hr' _
  refine Ev.rounds ?_
  have hs := laws_szModel_eq x y z t g r 1048576 (by omega) (by omega) ht.1 hg.1 hr.1
  by_cases hq : (1048576 : Int) < ((t.length + g.length + r.length : Nat) : Int)
  · refine Ev.all fun k => ?_
    simp only [laws_FnExactMixModels.f, hs, Option.bind_some]
    rw [left_lt hq, if_pos (by omega)]
  have hl : left 1048576 (t.length + g.length + r.length) = 1048576 - ((t.length + g.length + r.length : Nat) : Int) := left_ge (by omega)
  have hs' := laws_szModel_eq x' y' z' t' g' r' (1048576 - ((t.length + g.length + r.length : Nat) : Int)) (by omega) (by omega) ht'.1 hg'.1 hr'.1
  by_cases hp : 1048576 - ((t.length + g.length + r.length : Nat) : Int) < ((t'.length + g'.length + r'.length : Nat) : Int)
  · refine Ev.all fun k => ?_
    simp only [laws_FnExactMixModels.f, hs, Option.bind_some]
    rw [hl, if_neg (by omega), hs', Option.bind_some, left_lt hp, if_pos (by omega)]
  have h1 : t.length ≤ 1048576 := by omega
  have h2 : g.length ≤ 1048576 := by omega
  have h3 : r.length ≤ 1048576 := by omega
  have h4 : t'.length ≤ 1048576 := by omega
  have h5 : g'.length ≤ 1048576 := by omega
  have h6 : r'.length ≤ 1048576 := by omega
  have s1 := spec_MixModels_ev x y z t g r x' y' z' t' g' r' h1 h2 h3 h4 h5 h6 c
  have s2 := impl_MixModels_ev x y z t g r x' y' z' t' g' r' h1 h2 h3 h4 h5 h6 c
  have qq := mixRes_len x y z t g r x' y' z' t' g' r' h1 h2 h3 h4 h5 h6 c
  generalize mixRes x y z t g r x' y' z' t' g' r' c = v at s1 s2 qq
  obtain ⟨X, Y, Z, T, G, R, b⟩ := v
  exact law_ev x y z t g r x' y' z' t' g' r' h1 h2 h3 h4 h5 h6 c X Y Z T G R b qq.1 qq.2.1 qq.2.2 s1 s2 (by omega)
end Go.Proofs.Ytagnldmaglbpaaa.PureFnExactMixModels
namespace Go.Proofs.Ytagnldmaglbpaaa.Pure
theorem FnExactMixModels : Stat.FnExactMixModels := PureFnExactMixModels.FnExactMixModels
end Go.Proofs.Ytagnldmaglbpaaa.Pure
