/- The law FnSorted over numbers and lists: it is true of every input. -/
import Derived.Test.YtfakhgopbhnocaaStatFnSorted
import Derived.Test.YtfakhgopbhnocaaWMore
set_option linter.unusedVariables false
set_option linter.unusedSimpArgs false
namespace Go.Proofs.Ytfakhgopbhnocaa.Kit
open Go.RowKit Go.Proofs.YtfakhgopbhnocaaW.PrintWords Go.Proofs.YtfakhgopbhnocaaW.PrintMore

/-! ### Rounds -/
theorem Ev.all {α : Type} {g : Nat → Option α} {r : α} (h : ∀ k, g k = some r) : Ev g r := ⟨0, fun k _ => h k⟩
theorem Ev.of1 {α β : Type} {g : Nat → Option α} {f : Nat → Option β} {r : α} {b : β} (h : Ev f b) (k : ∀ k, f k = some b → g k = some r) : Ev g r := by
  obtain ⟨K, h⟩ := h; exact ⟨K, fun n hn => k n (h n hn)⟩
theorem Ev.of2 {α β γ : Type} {g : Nat → Option α} {f : Nat → Option β} {f' : Nat → Option γ} {r : α} {b : β} {c : γ} (h : Ev f b) (h' : Ev f' c) (k : ∀ k, f k = some b → f' k = some c → g k = some r) : Ev g r := by
  obtain ⟨K, h⟩ := h; obtain ⟨K', h'⟩ := h'; exact ⟨K + K', fun n hn => k n (h n (by omega)) (h' n (by omega))⟩
theorem Ev.next0 {α : Type} {g : Nat → Option α} {r : α} (h : ∀ k, g (k + 1) = some r) : Ev g r :=
  ⟨1, fun n hn => by obtain ⟨m, rfl⟩ : ∃ m, n = m + 1 := ⟨n - 1, by omega⟩; exact h m⟩
theorem Ev.next1 {α β : Type} {g : Nat → Option α} {f : Nat → Option β} {r : α} {b : β} (h : Ev f b) (k : ∀ k, f k = some b → g (k + 1) = some r) : Ev g r := by
  obtain ⟨K, h⟩ := h
  exact ⟨K + 1, fun n hn => by obtain ⟨m, rfl⟩ : ∃ m, n = m + 1 := ⟨n - 1, by omega⟩; exact k m (h m (by omega))⟩
theorem Ev.next2 {α β γ : Type} {g : Nat → Option α} {f : Nat → Option β} {f' : Nat → Option γ} {r : α} {b : β} {c : γ} (h : Ev f b) (h' : Ev f' c) (k : ∀ k, f k = some b → f' k = some c → g (k + 1) = some r) : Ev g r := by
  obtain ⟨K, h⟩ := h; obtain ⟨K', h'⟩ := h'
  exact ⟨K + K' + 1, fun n hn => by obtain ⟨m, rfl⟩ : ∃ m, n = m + 1 := ⟨n - 1, by omega⟩; exact k m (h m (by omega)) (h' m (by omega))⟩
/-- From some number of rounds on. -/
def Evt (p : Nat → Prop) : Prop := ∃ K, ∀ k, K ≤ k → p k
theorem ev_one {α : Type} {f : Nat → Option α} {a : α} (h : Ev f a) : Evt (fun k => f k = some a) := h
theorem ev_and {α : Type} {f : Nat → Option α} {a : α} {p : Nat → Prop} (h : Ev f a) (h' : Evt p) : Evt (fun k => f k = some a ∧ p k) := by
  obtain ⟨K, h⟩ := h; obtain ⟨K', h'⟩ := h'; exact ⟨K + K', fun n hn => ⟨h n (by omega), h' n (by omega)⟩⟩
theorem Evt.ev {α : Type} {g : Nat → Option α} {r : α} {p : Nat → Prop} (h : Evt p) (k : ∀ k, p k → g k = some r) : Ev g r := by
  obtain ⟨K, h⟩ := h; exact ⟨K, fun n hn => k n (h n hn)⟩
theorem Evt.next {α : Type} {g : Nat → Option α} {r : α} {p : Nat → Prop} (h : Evt p) (k : ∀ k, p k → g (k + 1) = some r) : Ev g r := by
  obtain ⟨K, h⟩ := h
  exact ⟨K + 1, fun n hn => by obtain ⟨m, rfl⟩ : ∃ m, n = m + 1 := ⟨n - 1, by omega⟩; exact k m (h m (by omega))⟩

/-! ### Whole numbers -/
theorem wrap_id {x : Int} (h0 : -9223372036854775808 ≤ x) (h1 : x ≤ 9223372036854775807) : wrap64 x = x := by unfold wrap64; omega
theorem wrap_succ {i n : Nat} (h : i < n) (hn : n ≤ 9223372036854775807) : wrap64 ((i : Int) + 1) = ((i + 1 : Nat) : Int) := by unfold wrap64; omega
theorem toNat_cast (i : Nat) : ((i : Int)).toNat = i := by omega

theorem mn_eq (a b : Int) : mn a b = min a b := by unfold mn; split <;> omega

/-! ### Lists from an index on -/
theorem drop_cons {α : Type} {xs ys : List α} {y : α} {i : Nat} (h : xs.drop i = y :: ys) : i < xs.length ∧ xs[i]? = some y ∧ xs.drop (i + 1) = ys := by
  have hlt : i < xs.length := by
    by_cases hlt : i < xs.length
    · exact hlt
    · rw [List.drop_of_length_le (by omega)] at h; cases h
  rw [List.drop_eq_getElem_cons hlt] at h
  injection h with h1 h2
  exact ⟨hlt, by rw [List.getElem?_eq_getElem hlt, h1], h2⟩
theorem drop_nil {α : Type} {xs : List α} {i : Nat} (h : xs.drop i = []) : xs.length ≤ i := by simpa using h
theorem getD_drop {α : Type} {xs ys : List α} {y d : α} {i : Nat} (h : xs.drop i = y :: ys) : xs.getD ((i : Int)).toNat d = y := by
  rw [toNat_cast, List.getD_eq_getElem?_getD, (drop_cons h).2.1]; rfl
theorem rd_drop {xs ys : List Int} {y : Int} {i : Nat} (h : xs.drop i = y :: ys) : rd xs (i : Int) = y := getD_drop h
theorem getD_get {α : Type} {xs : List α} {y d : α} {i : Nat} (h : xs[i]? = some y) : xs.getD ((i : Int)).toNat d = y := by
  rw [toNat_cast, List.getD_eq_getElem?_getD, h]; rfl
theorem rd_get {xs : List Int} {y : Int} {i : Nat} (h : xs[i]? = some y) : rd xs (i : Int) = y := getD_get h
/-! ### A list that is copied, element for element -/
theorem copy_step {α : Type} {m x : List α} {y : α} {i : Nat} (hm : m[i]? = some y) (hl : x.length = m.length) (ht : x.take i = m.take i) : (x.set i y).length = m.length ∧ (x.set i y).take (i + 1) = m.take (i + 1) := by
  obtain ⟨hi, rfl⟩ := List.getElem?_eq_some_iff.1 hm
  refine ⟨by simpa using hl, ?_⟩
  apply List.ext_getElem?
  intro j
  have hj : (x.take i)[j]? = (m.take i)[j]? := by rw [ht]
  rw [List.getElem?_take, List.getElem?_take] at *
  by_cases h1 : j < i + 1
  · rw [if_pos h1, if_pos h1]
    by_cases h2 : j = i
    · subst h2
      rw [List.getElem?_set_self (by omega), List.getElem?_eq_getElem hi]
    · rw [List.getElem?_set_ne (by omega)]
      rw [if_pos (by omega), if_pos (by omega)] at hj
      exact hj
  · rw [if_neg h1, if_neg h1]
theorem copy_end {α : Type} {m x : List α} {i : Nat} (hl : x.length = m.length) (ht : x.take i = m.take i) (hi : m.length ≤ i) : x = m := by
  rw [List.take_of_length_le (by omega), List.take_of_length_le hi] at ht; exact ht

/-! ### Strictly increasing lists of 0..n-1 -/
def rise (n : Int) : Int → List Int → Bool
  | _, [] => true
  | p, y :: ys => decide (0 ≤ y ∧ y < n ∧ p < y) && rise n y ys
theorem rise_mem {n : Int} : ∀ {p : Int} {ys : List Int}, rise n p ys = true → ∀ y ∈ ys, 0 ≤ y ∧ y < n ∧ p < y
  | p, [], _, y, hy => by cases hy
  | p, z :: zs, h, y, hy => by
    simp only [rise, Bool.and_eq_true, decide_eq_true_eq] at h
    rcases List.mem_cons.1 hy with rfl | hy
    · exact h.1
    · have := rise_mem h.2 y hy; omega

/-! ### Numbers marked and held -/
end Go.Proofs.Ytfakhgopbhnocaa.Kit
namespace Go.Proofs.Ytfakhgopbhnocaa.Model
open Go.RowKit Go.Proofs.YtfakhgopbhnocaaW.PrintWords Go.Proofs.Ytfakhgopbhnocaa.Kit

/-- Numbers within bounds, all of them. -/
def allIn (lo hi : Int) : List Int → Bool
  | [] => true
  | y :: ys => decide (lo ≤ y ∧ y ≤ hi) && allIn lo hi ys
theorem allIn_mem {lo hi : Int} : ∀ {ys : List Int}, allIn lo hi ys = true → ∀ y ∈ ys, lo ≤ y ∧ y ≤ hi
  | [], _, y, hy => by cases hy
  | z :: zs, h, y, hy => by
    simp only [allIn, Bool.and_eq_true, decide_eq_true_eq] at h
    rcases List.mem_cons.1 hy with rfl | hy
    · exact h.1
    · exact allIn_mem h.2 y hy
theorem allIn_get {lo hi : Int} {ys : List Int} (h : allIn lo hi ys = true) {i : Nat} {y : Int} (hy : ys[i]? = some y) : lo ≤ y ∧ y ≤ hi := allIn_mem h y (List.mem_of_getElem? hy)
theorem allIn_of {lo hi : Int} : ∀ {ys : List Int}, (∀ y ∈ ys, lo ≤ y ∧ y ≤ hi) → allIn lo hi ys = true
  | [], _ => rfl
  | z :: zs, h => by simp only [allIn, Bool.and_eq_true, decide_eq_true_eq]; exact ⟨h z (by simp), allIn_of fun y hy => h y (by simp [hy])⟩

def gridOk (x y z : Int) : Bool := decide (1 ≤ x ∧ x ≤ 8 ∧ 1 ≤ y ∧ y ≤ 6 ∧ 1 ≤ z ∧ z ≤ 5 ∧ x * y * z ≤ 120)
theorem grid_prod {x y z : Int} (hx : 1 ≤ x ∧ x ≤ 8) (hy : 1 ≤ y ∧ y ≤ 6) (hz : 1 ≤ z ∧ z ≤ 5) : 1 ≤ x * y ∧ x * y ≤ 48 ∧ 1 ≤ x * y * z ∧ x * y * z ≤ 240 := by
  rcases (by omega : x = 1 ∨ x = 2 ∨ x = 3 ∨ x = 4 ∨ x = 5 ∨ x = 6 ∨ x = 7 ∨ x = 8) with rfl | rfl | rfl | rfl | rfl | rfl | rfl | rfl <;>
    rcases (by omega : z = 1 ∨ z = 2 ∨ z = 3 ∨ z = 4 ∨ z = 5) with rfl | rfl | rfl | rfl | rfl <;> omega
theorem grid_ok {x y z : Int} (h : gridOk x y z = true) : (1 ≤ x ∧ x ≤ 8) ∧ (1 ≤ y ∧ y ≤ 6) ∧ (1 ≤ z ∧ z ≤ 5) ∧ 1 ≤ x * y ∧ x * y ≤ 48 ∧ 1 ≤ x * y * z ∧ x * y * z ≤ 120 := by
  simp only [gridOk, decide_eq_true_eq] at h
  have := grid_prod (x := x) (y := y) (z := z) (by omega) (by omega) (by omega)
  omega
theorem grid_wrap {x y z : Int} (hx : 1 ≤ x ∧ x ≤ 8) (hy : 1 ≤ y ∧ y ≤ 6) (hz : 1 ≤ z ∧ z ≤ 5) : wrap64 (wrap64 (x * y) * z) = x * y * z := by
  have := grid_prod hx hy hz
  rw [wrap_id (x := x * y) (by omega) (by omega), wrap_id (by omega) (by omega)]
def modelOk (x y z : Int) (t g r : List Int) : Bool := gridOk x y z && decide ((t.length : Int) = x * y * z ∧ (g.length : Int) = x * y * z ∧ (r.length : Int) = x * y * z) && (allIn 0 10000 t && (allIn 0 1000 g && allIn 0 4 r))
end Go.Proofs.Ytfakhgopbhnocaa.Model
namespace Go.Proofs.Ytfakhgopbhnocaa.PureFnSorted
open Go.RowKit Go.Proofs.Ytfakhgopbhnocaa.PFnSorted Go.Proofs.YtfakhgopbhnocaaW.PrintWords Go.Proofs.YtfakhgopbhnocaaW.PrintLast Go.Proofs.YtfakhgopbhnocaaW.PrintMore Go.Proofs.Ytfakhgopbhnocaa.Kit Go.Proofs.Ytfakhgopbhnocaa.Model
theorem impl_IsGrid_eq (x y z : Int) : impl_IsGrid.f x y z = some (gridOk x y z) := by
  simp only [impl_IsGrid.f, gridOk]
  by_cases hx : 1 ≤ x ∧ x ≤ 8
  · rw [if_pos (by omega), if_pos (by omega)]
    by_cases hy : 1 ≤ y ∧ y ≤ 6
    · rw [if_pos (by omega), if_pos (by omega)]
      by_cases hz : 1 ≤ z ∧ z ≤ 5
      · rw [if_pos (by omega), if_pos (by omega), grid_wrap hx hy hz]; congr 1; simp [hx, hy, hz]
      · have e : decide (1 ≤ x ∧ x ≤ 8 ∧ 1 ≤ y ∧ y ≤ 6 ∧ 1 ≤ z ∧ z ≤ 5 ∧ x * y * z ≤ 120) = false := by simp; omega
        rw [e]; split
        · rw [if_neg (by omega)]
        · rfl
    · have e : decide (1 ≤ x ∧ x ≤ 8 ∧ 1 ≤ y ∧ y ≤ 6 ∧ 1 ≤ z ∧ z ≤ 5 ∧ x * y * z ≤ 120) = false := by simp; omega
      rw [e]; split
      · rw [if_neg (by omega)]
      · rfl
  · have e : decide (1 ≤ x ∧ x ≤ 8 ∧ 1 ≤ y ∧ y ≤ 6 ∧ 1 ≤ z ∧ z ≤ 5 ∧ x * y * z ≤ 120) = false := by simp; omega
    rw [e]; split
    · rw [if_neg (by omega)]
    · rfl
theorem impl_blocksOf_eq (x y z : Int) (h : gridOk x y z = true) : impl_blocksOf.f x y z = some (x * y * z) := by
  have hb := grid_ok h
  simp only [impl_blocksOf.f]
  rw [grid_wrap hb.1 hb.2.1 hb.2.2.1]
theorem impl_IsModel_l0 (x y z : Int) (t g r : List Int) (n : Nat) (hn : n ≤ 1048576) (ht : t.length = n) (hg : g.length = n) (hr : r.length = n) : ∀ (ts gs rs : List Int) (i : Nat), t.drop i = ts → g.drop i = gs → r.drop i = rs → Ev (fun k => impl_IsModel.l0 k (n : Int) i x y z t g r) (allIn 0 10000 ts && (allIn 0 1000 gs && allIn 0 4 rs))
  | [], gs, rs, i, h, hg', hr' => Ev.next0 fun k => by
      have h0 := drop_nil h
      have e1 : gs = [] := by rw [← hg']; exact List.drop_of_length_le (by omega)
      have e2 : rs = [] := by rw [← hr']; exact List.drop_of_length_le (by omega)
      subst e1 e2
      simp only [impl_IsModel.l0, allIn]
      rw [if_neg (by omega)]; rfl
  | a :: ts, [], rs, i, h, hg', hr' => by have h1 := (drop_cons h).1; have h2 := drop_nil hg'; omega
  | a :: ts, b :: gs, [], i, h, hg', hr' => by have h1 := (drop_cons h).1; have h2 := drop_nil hr'; omega
  | a :: ts, b :: gs, c :: rs, i, h, hg', hr' => by
      obtain ⟨h1, h2, h3⟩ := drop_cons h
      obtain ⟨g1, g2, g3⟩ := drop_cons hg'
      obtain ⟨r1, r2, r3⟩ := drop_cons hr'
      have ea := rd_drop h
      have eb := rd_drop hg'
      have ec := rd_drop hr'
      refine Ev.next1 (impl_IsModel_l0 x y z t g r n hn ht hg hr ts gs rs (i + 1) h3 g3 r3) fun k hk => ?_
      simp only [impl_IsModel.l0, ea, eb, ec]
      rw [if_pos (by omega), if_pos (by omega), if_pos (by omega)]
      by_cases ka : 0 ≤ a ∧ a ≤ 10000
      · rw [if_neg (by omega), if_neg (by omega), if_pos (by omega)]
        by_cases kb : 0 ≤ b ∧ b ≤ 1000
        · rw [if_neg (by omega), if_neg (by omega), if_pos (by omega)]
          by_cases kc : 0 ≤ c ∧ c ≤ 4
          · rw [if_neg (by omega), if_neg (by omega), wrap_succ h1 (by omega), hk]
            simp [allIn, ka, kb, kc]
          · have e : (allIn 0 10000 (a :: ts) && (allIn 0 1000 (b :: gs) && allIn 0 4 (c :: rs))) = false := by simp [allIn, kc]
            rw [e]; split
            · rfl
            · rw [if_pos (by omega)]
        · have e : (allIn 0 10000 (a :: ts) && (allIn 0 1000 (b :: gs) && allIn 0 4 (c :: rs))) = false := by simp [allIn, kb]
          rw [e]; split
          · rfl
          · rw [if_pos (by omega)]
      · have e : (allIn 0 10000 (a :: ts) && (allIn 0 1000 (b :: gs) && allIn 0 4 (c :: rs))) = false := by simp [allIn, ka]
        rw [e]; split
        · rfl
        · rw [if_pos (by omega)]
theorem impl_IsModel_ev (x y z : Int) (t g r : List Int) (ht : t.length ≤ 1048576) (hg : g.length ≤ 1048576) (hr : r.length ≤ 1048576) : Ev (fun k => impl_IsModel.f k x y z t g r) (modelOk x y z t g r) := by
  by_cases h : gridOk x y z = true
  · have no : ∀ n : Int, Ev (fun k => impl_IsModel.j0 k n true x y z t g r) false := fun n => Ev.next0 fun k => by simp [impl_IsModel.j0]
    by_cases e : (t.length : Int) = x * y * z ∧ (g.length : Int) = x * y * z ∧ (r.length : Int) = x * y * z
    · obtain ⟨e1, e2, e3⟩ := e
      have h1 : Ev (fun k => impl_IsModel.j0 k (x * y * z) false x y z t g r) (allIn 0 10000 t && (allIn 0 1000 g && allIn 0 4 r)) := by
        refine Ev.next1 (impl_IsModel_l0 x y z t g r t.length ht rfl (by omega) (by omega) t g r 0 rfl rfl rfl) fun k hk => ?_
        simp only [impl_IsModel.j0]
        rw [if_neg (by simp), ← e1]; exact hk
      refine Ev.of1 h1 fun k hk => ?_
      simp only [impl_IsModel.f, impl_IsGrid_eq, Option.bind_some, impl_blocksOf_eq x y z h]
      rw [if_pos h, if_pos e1, if_pos e2, show ((r.length : Int) != x * y * z) = false by simp [e3], hk]
      simp [modelOk, h, e1, e2, e3]
    · refine Ev.of1 (no (x * y * z)) fun k hk => ?_
      have em : modelOk x y z t g r = false := by
        simp only [modelOk, decide_eq_false e, Bool.and_false, Bool.false_and]
      simp only [impl_IsModel.f, impl_IsGrid_eq, Option.bind_some, impl_blocksOf_eq x y z h]
      rw [if_pos h, em]
      by_cases e1 : (t.length : Int) = x * y * z
      · rw [if_pos e1]
        by_cases e2 : (g.length : Int) = x * y * z
        · rw [if_pos e2, show ((r.length : Int) != x * y * z) = true by
            have e3 : ¬ (r.length : Int) = x * y * z := fun e3 => e ⟨e1, e2, e3⟩
            simpa using e3, hk]
        · rw [if_neg e2, hk]
      · rw [if_neg e1, hk]
  · refine Ev.all fun k => ?_
    simp only [impl_IsModel.f, impl_IsGrid_eq, Option.bind_some]
    rw [if_neg h]; simp [modelOk, h]
theorem impl_areBlocks_l0 (n : Int) (l : List Int) (hn : l.length ≤ 9223372036854775807) : ∀ (ys : List Int) (i : Nat) (p : Int), l.drop i = ys → (i = 0 ∧ p = -1 ∨ 0 < i ∧ l[i - 1]? = some p) → Ev (fun k => impl_areBlocks.l0 k l n l (l.length : Int) i) (rise n p ys)
  | [], i, p, h, hp => Ev.next0 fun k => by
      have h0 := drop_nil h
      simp only [impl_areBlocks.l0, rise]
      rw [if_neg (by omega)]
  | y :: ys, i, p, h, hp => by
      obtain ⟨h1, h2, h3⟩ := drop_cons h
      refine Ev.next1 (impl_areBlocks_l0 n l hn ys (i + 1) y h3 (.inr ⟨by omega, by simpa using h2⟩)) fun k hk => ?_
      have e := rd_drop h
      simp only [impl_areBlocks.l0, e, rise]
      rw [if_pos (by omega), if_pos (by omega), if_pos (by omega), wrap_succ h1 hn]
      by_cases hy : 0 ≤ y ∧ y < n
      · rw [if_neg (by omega), if_neg (by omega)]
        rcases hp with ⟨rfl, rfl⟩ | ⟨hi, hp⟩
        · rw [if_neg (by omega), hk]; simp; omega
        · have e2 : rd l ((i : Int) - 1) = p := by
            rw [show (i : Int) - 1 = ((i - 1 : Nat) : Int) by omega]; exact rd_get hp
          rw [if_pos (by omega), wrap_id (by omega) (by omega), if_pos (by omega), if_pos (by omega), e2]
          by_cases hq : p < y
          · rw [if_neg (by omega), hk]; simp [hy, hq]
          · rw [if_pos (by omega)]; simp [hq]
      · have e3 : (decide (0 ≤ y ∧ y < n ∧ p < y) && rise n y ys) = false := by simp; omega
        rw [e3]; split
        · rfl
        · rw [if_pos (by omega)]
theorem impl_areBlocks_ev (n : Int) (l : List Int) (hn : l.length ≤ 9223372036854775807) : Ev (fun k => impl_areBlocks.f k l n) (rise n (-1) l) :=
  Ev.of1 (impl_areBlocks_l0 n l hn l 0 (-1) rfl (.inl ⟨rfl, rfl⟩)) fun k hk => by simp only [impl_areBlocks.f]; exact hk
/-- The lists of a model that is good: their lengths and bounds. -/
theorem model_ok {x y z : Int} {t g r : List Int} (h : modelOk x y z t g r = true) : gridOk x y z = true ∧ ((t.length : Int) = x * y * z ∧ (g.length : Int) = x * y * z ∧ (r.length : Int) = x * y * z) ∧ allIn 0 10000 t = true ∧ allIn 0 1000 g = true ∧ allIn 0 4 r = true := by
  simp only [modelOk, Bool.and_eq_true, decide_eq_true_eq] at h
  exact ⟨h.1.1, h.1.2, h.2.1, h.2.2.1, h.2.2.2⟩
-- needs: model_facts
theorem rd_in {lo hi : Int} {l : List Int} (h : allIn lo hi l = true) {i : Int} (h0 : 0 ≤ i) (h1 : i < (l.length : Int)) : lo ≤ rd l i ∧ rd l i ≤ hi := by
  have hg : l[i.toNat]? = some (l[i.toNat]'(by omega)) := List.getElem?_eq_getElem (by omega)
  have h5 := rd_get hg
  rw [show ((i.toNat : Nat) : Int) = i by omega] at h5
  rw [h5]; exact allIn_get h hg
theorem metal_bd {t g : List Int} (ht : allIn 0 10000 t = true) (hg : allIn 0 1000 g = true) {i : Int} (h0 : 0 ≤ i) (h1 : i < (t.length : Int)) (h2 : i < (g.length : Int)) : (0 ≤ rd t i ∧ rd t i ≤ 10000) ∧ 0 ≤ rd t i * rd g i ∧ rd t i * rd g i ≤ 10000000 := by
  have a := rd_in ht h0 h1; have b := rd_in hg h0 h2
  exact ⟨a, Int.mul_nonneg a.1 b.1, Int.mul_le_mul (a := rd t i) (b := rd g i) (c := 10000) (d := 1000) a.2 b.2 b.1 (by omega)⟩
theorem spec_moMetal_eq (x y z : Int) (t g r : List Int) (i : Int) (ht : allIn 0 10000 t = true) (hg : allIn 0 1000 g = true) (h0 : 0 ≤ i) (h1 : i < (t.length : Int)) (h2 : i < (g.length : Int)) : spec_moMetal.f x y z t g r i = some (rd t i * rd g i) := by
  have hb := metal_bd ht hg h0 h1 h2
  simp only [spec_moMetal.f]
  rw [if_pos h0, if_pos h1, if_pos h2, wrap_id (by omega) (by omega)]
-- needs: spec_moMetal
/-- Tonnes, and metal, of chosen blocks. -/
def selT (t : List Int) : List Int → Int
  | [] => 0
  | q :: qs => rd t q + selT t qs
def selM (t g : List Int) : List Int → Int
  | [] => 0
  | q :: qs => rd t q * rd g q + selM t g qs
-- needs: sel_model
theorem impl_sumsOf_l0 (x y z : Int) (t g r : List Int) (ht : allIn 0 10000 t = true) (hg : allIn 0 1000 g = true) (I : List Int) (hI : I.length ≤ 1048576) (hin : ∀ q ∈ I, 0 ≤ q ∧ q < (t.length : Int) ∧ q < (g.length : Int)) : ∀ (qs : List Int) (j : Nat) (a m : Int), I.drop j = qs → (0 ≤ a ∧ a ≤ 10000 * (j : Int)) → (0 ≤ m ∧ m ≤ 10000000 * (j : Int)) →
    Ev (fun k => impl_sumsOf.l0 k a m I (I.length : Int) j x y z t g r) (a + selT t qs, m + selM t g qs)
  | [], j, a, m, hj, ha, hm => Ev.next0 fun k => by
      have h0 := drop_nil hj
      simp only [impl_sumsOf.l0, selT, selM, Int.add_zero]
      rw [if_neg (by omega)]
  | q :: qs, j, a, m, hj, ha, hm => by
      obtain ⟨h1, h2, h3⟩ := drop_cons hj
      have e := rd_drop hj
      have hq := hin q (List.mem_of_getElem? h2)
      have hb := metal_bd ht hg hq.1 hq.2.1 hq.2.2
      refine Ev.next1 (impl_sumsOf_l0 x y z t g r ht hg I hI hin qs (j + 1) (a + rd t q) (m + rd t q * rd g q) h3 (by omega) (by omega)) fun k hk => ?_
      simp only [impl_sumsOf.l0, e, Option.bind_some, selT, selM]
      rw [if_pos (by omega), if_pos (by omega), if_pos (by omega), if_pos hq.1, if_pos hq.2.1, if_pos hq.2.2, wrap_id (x := rd t q * rd g q) (by omega) (by omega), wrap_succ h1 (by omega), wrap_id (x := a + rd t q) (by omega) (by omega), wrap_id (x := m + rd t q * rd g q) (by omega) (by omega), ← Int.add_assoc, ← Int.add_assoc]
      exact hk
theorem impl_sumsOf_ev (x y z : Int) (t g r : List Int) (ht : allIn 0 10000 t = true) (hg : allIn 0 1000 g = true) (I : List Int) (hI : I.length ≤ 1048576) (hin : ∀ q ∈ I, 0 ≤ q ∧ q < (t.length : Int) ∧ q < (g.length : Int)) : Ev (fun k => impl_sumsOf.f k x y z t g r I) (selT t I, selM t g I) := by
  have h0 := impl_sumsOf_l0 x y z t g r ht hg I hI hin I 0 0 0 rfl (by omega) (by omega)
  rw [Int.zero_add, Int.zero_add] at h0
  exact Ev.of1 h0 fun k hk => by simp only [impl_sumsOf.f]; exact hk
-- needs: model_facts sel_model
def sumsRes (x y z : Int) (t g r : List Int) (I : List Int) : Int × Int × Bool := if modelOk x y z t g r = true ∧ rise (t.length : Int) (-1) I = true then (selT t I, selM t g I, true) else (0, 0, false)
theorem impl_SumsOf_ev (x y z : Int) (t g r : List Int) (ht : t.length ≤ 1048576) (hg : g.length ≤ 1048576) (hr : r.length ≤ 1048576) (I : List Int) (hI : I.length ≤ 1048576) : Ev (fun k => impl_SumsOf.f k x y z t g r I) (sumsRes x y z t g r I) := by
  have h1 := impl_IsModel_ev x y z t g r ht hg hr
  have h2 := impl_areBlocks_ev (t.length : Int) I (by omega)
  unfold sumsRes
  by_cases c : modelOk x y z t g r = true
  · by_cases d : rise (t.length : Int) (-1) I = true
    · rw [if_pos ⟨c, d⟩]
      obtain ⟨_, l, b1, b2, _⟩ := model_ok c
      have h3 := impl_sumsOf_ev x y z t g r b1 b2 I hI (fun q hq => by
        have := rise_mem d q hq
        generalize x * y * z = p at l
        omega)
      refine (ev_and h1 <| ev_and h2 <| ev_one h3).ev fun k ⟨e1, e2, e3⟩ => ?_
      simp only [impl_SumsOf.f, e1, e2, e3, Option.bind_some]
      rw [if_pos c, if_pos d]
    · rw [if_neg (fun q => d q.2)]
      refine (ev_and h1 <| ev_one h2).ev fun k ⟨e1, e2⟩ => ?_
      simp only [impl_SumsOf.f, e1, e2, Option.bind_some]
      rw [if_pos c, if_neg d]
  · rw [if_neg (fun q => c q.1)]
    refine Ev.of1 h1 fun k e1 => ?_
    simp only [impl_SumsOf.f, e1, Option.bind_some]
    rw [if_neg c]
theorem wrap_u64' (n : Int) : IntKind.u64.wrap n = n % 18446744073709551616 := by simp [IntKind.wrap, IntKind.bits, IntKind.signed]
theorem and255 (x : Int) (h0 : 0 ≤ x) (h1 : x < 16777216) : Go.bits .and .u64 x 255 = x % 256 := bits_mask .u64 24 (by decide) (fun n a b => by rw [wrap_u64']; omega) 8 (by decide) x h0 h1
theorem tail_bd (y : Int) : 0 ≤ wrap64 (Go.bits .and .u64 (IntKind.u64.wrap y / 1099511627776) 255) ∧ wrap64 (Go.bits .and .u64 (IntKind.u64.wrap y / 1099511627776) 255) ≤ 255 := by
  rw [wrap_u64', and255 _ (by omega) (by omega), wrap_id (by omega) (by omega)]
  omega
theorem byte_bd {l : List Int} (hl : ∀ x ∈ l, 0 ≤ x ∧ x ≤ 255) {p : Int} (h0 : 0 ≤ p) (h1 : p < (l.length : Int)) : 0 ≤ rd l p ∧ rd l p ≤ 255 := by
  obtain ⟨i, rfl⟩ := Int.eq_ofNat_of_zero_le h0
  have hi : i < l.length := by omega
  have e : l[i]? = some l[i] := List.getElem?_eq_getElem hi
  have r : rd l ((i : Nat) : Int) = l[i] := rd_get e
  show 0 ≤ rd l ((i : Nat) : Int) ∧ rd l ((i : Nat) : Int) ≤ 255
  rw [r]
  exact hl _ (List.getElem_mem hi)
theorem spec_l1Cur_next_some (l : List Int) (hl : ∀ x ∈ l, 0 ≤ x ∧ x ≤ 255) (hn : l.length ≤ 9223372036854775807) (p s : Int) (h0 : 0 ≤ p) (h1 : p ≤ 1000000) : ∃ r s', spec_l1Cur_next.f l p s = some (r, p + 1, s') ∧ 0 ≤ r ∧ r ≤ 255 := by
  have ew : wrap64 (p + 1) = p + 1 := wrap_id (by omega) (by omega)
  simp only [spec_l1Cur_next.f, ew]
  by_cases c : p < (l.length : Int)
  · rw [if_pos c, if_pos h0, if_pos (by omega)]
    have b := byte_bd hl h0 c
    exact ⟨_, _, rfl, by rw [wrap_id (by omega) (by omega)]; exact b⟩
  · rw [if_neg c, if_neg (by omega)]
    exact ⟨_, _, rfl, tail_bd _⟩
theorem spec_l1Cur_pick_some (l : List Int) (hl : ∀ x ∈ l, 0 ≤ x ∧ x ≤ 255) (hn : l.length ≤ 9223372036854775807) (p s : Int) (h0 : 0 ≤ p) (h1 : p ≤ 900000) (n : Int) : ∃ r p' s', spec_l1Cur_pick.f l p s n = some (r, p', s') ∧ (0 ≤ r ∧ (1 ≤ n → r < n)) ∧ p ≤ p' ∧ p' ≤ p + 2 := by
  by_cases c : n ≤ 1
  · refine ⟨0, p, s, ?_, by omega, by omega, by omega⟩
    simp only [spec_l1Cur_pick.f]
    rw [if_pos c]
  · obtain ⟨x, s1, e1, b1⟩ := spec_l1Cur_next_some l hl hn p s h0 (by omega)
    have tm : ∀ v : Int, 0 ≤ v → 0 ≤ Int.tmod v n ∧ Int.tmod v n < n := fun v hv => by
      rw [Int.tmod_eq_emod_of_nonneg hv]
      exact ⟨Int.emod_nonneg v (by omega), Int.emod_lt_of_pos v (by omega)⟩
    by_cases d : n > 200
    · obtain ⟨y, s2, e2, b2⟩ := spec_l1Cur_next_some l hl hn (p + 1) s1 (by omega) (by omega)
      have t := tm (x * 256 + y) (by omega)
      refine ⟨Int.tmod (x * 256 + y) n, p + 1 + 1, s2, ?_, ⟨t.1, fun _ => t.2⟩, by omega, by omega⟩
      simp only [spec_l1Cur_pick.f, e1, e2, Option.bind_some]
      rw [if_neg c, if_pos d, if_neg (by omega), wrap_id (x := x * 256) (by omega) (by omega), wrap_id (x := x * 256 + y) (by omega) (by omega)]
    · have t := tm x b1.1
      refine ⟨Int.tmod x n, p + 1, s1, ?_, ⟨t.1, fun _ => t.2⟩, by omega, by omega⟩
      simp only [spec_l1Cur_pick.f, e1, Option.bind_some]
      rw [if_neg c, if_neg d, if_neg (by omega)]
theorem spec_l1Cur_among_some (l : List Int) (hl : ∀ x ∈ l, 0 ≤ x ∧ x ≤ 255) (hn : l.length ≤ 9223372036854775807) (p s : Int) (h0 : 0 ≤ p) (h1 : p ≤ 900000) (xs : List Int) (hx : 1 ≤ xs.length) : ∃ r p' s', spec_l1Cur_among.f l p s xs = some (r, p', s') ∧ p ≤ p' ∧ p' ≤ p + 2 := by
  obtain ⟨r, p', s', e, b, c⟩ := spec_l1Cur_pick_some l hl hn p s h0 h1 (xs.length : Int)
  have d := b.2 (by omega)
  refine ⟨rd xs r, p', s', ?_, c⟩
  simp only [spec_l1Cur_among.f, e, Option.bind_some]
  rw [if_pos b.1, if_pos d]
theorem spec_l1Cur_one_some (l : List Int) (hl : ∀ x ∈ l, 0 ≤ x ∧ x ≤ 255) (hn : l.length ≤ 9223372036854775807) (p s : Int) (h0 : 0 ≤ p) (h1 : p ≤ 900000) (n : Int) : ∃ r p' s', spec_l1Cur_one.f l p s n = some (r, p', s') ∧ p ≤ p' ∧ p' ≤ p + 2 := by
  obtain ⟨r, p', s', e, _, c⟩ := spec_l1Cur_pick_some l hl hn p s h0 h1 n
  exact ⟨(r == 0), p', s', by simp only [spec_l1Cur_one.f, e, Option.bind_some], c⟩
theorem spec_l1Cur_grid_some (l : List Int) (hl : ∀ x ∈ l, 0 ≤ x ∧ x ≤ 255) (hn : l.length ≤ 9223372036854775807) (p s : Int) (h0 : 0 ≤ p) (h1 : p ≤ 800000) : ∃ x y z p' s', spec_l1Cur_grid.f l p s = some (x, y, z, p', s') ∧ ((1 ≤ x ∧ x ≤ 8) ∧ (1 ≤ y ∧ y ≤ 6) ∧ (1 ≤ z ∧ z ≤ 5) ∧ x * y * z ≤ 120) ∧ p ≤ p' ∧ p' ≤ p + 8 := by
  obtain ⟨o, p1, s1, e1, b1⟩ := spec_l1Cur_one_some l hl hn p s h0 (by omega) 24
  obtain ⟨q, p2, s2, e2, c2, b2⟩ := spec_l1Cur_pick_some l hl hn p1 s1 (by omega) (by omega) 4
  have c2' := c2.2 (by omega)
  by_cases c : o = true
  · obtain ⟨x, y, z, hq, hb⟩ : ∃ x y z : Int, rd_T24 [(⟨8, 5, 3⟩ : S24), ⟨8, 3, 5⟩, ⟨4, 6, 5⟩, ⟨1, 1, 1⟩] q = ⟨x, y, z⟩ ∧ ((1 ≤ x ∧ x ≤ 8) ∧ (1 ≤ y ∧ y ≤ 6) ∧ (1 ≤ z ∧ z ≤ 5) ∧ x * y * z ≤ 120) := by
      obtain h | h | h | h : q = 0 ∨ q = 1 ∨ q = 2 ∨ q = 3 := by omega
      · subst h; exact ⟨8, 5, 3, rfl, by decide⟩
      · subst h; exact ⟨8, 3, 5, rfl, by decide⟩
      · subst h; exact ⟨4, 6, 5, rfl, by decide⟩
      · subst h; exact ⟨1, 1, 1, rfl, by decide⟩
    refine ⟨x, y, z, p2, s2, ?_, hb, by omega, by omega⟩
    simp only [spec_l1Cur_grid.f, e1, e2, Option.bind_some]
    rw [if_pos c, if_pos c2.1, if_pos (by simpa using c2'), hq]
  · obtain ⟨r, p3, s3, e3, c3, b3⟩ := spec_l1Cur_pick_some l hl hn p2 s2 (by omega) (by omega) 3
    obtain ⟨t, p4, s4, e4, c4, b4⟩ := spec_l1Cur_pick_some l hl hn p3 s3 (by omega) (by omega) 3
    have c3' := c3.2 (by omega)
    have c4' := c4.2 (by omega)
    have m0 : (1 + q) * (1 + r) ≤ 4 * 3 := Int.mul_le_mul (by omega) (by omega) (by omega) (by omega)
    have m1 : 1 ≤ (1 + q) * (1 + r) := Int.mul_pos (by omega) (by omega)
    have m2 : (1 + q) * (1 + r) * (1 + t) ≤ 12 * 3 := Int.mul_le_mul m0 (by omega) (by omega) (by omega)
    refine ⟨1 + q, 1 + r, 1 + t, p4, s4, ?_, ⟨by omega, by omega, by omega, by omega⟩, by omega, by omega⟩
    simp only [spec_l1Cur_grid.f, e1, e2, e3, e4, Option.bind_some]
    rw [if_neg c, wrap_id (x := 1 + q) (by omega) (by omega), wrap_id (x := 1 + r) (by omega) (by omega), wrap_id (x := 1 + t) (by omega) (by omega)]
theorem spec_l1Cur_anyGrid_some (l : List Int) (hl : ∀ x ∈ l, 0 ≤ x ∧ x ≤ 255) (hn : l.length ≤ 9223372036854775807) (p s : Int) (h0 : 0 ≤ p) (h1 : p ≤ 700000) : ∃ x y z p' s', spec_l1Cur_anyGrid.f l p s = some (x, y, z, p', s') ∧ p ≤ p' ∧ p' ≤ p + 12 := by
  obtain ⟨x, y, z, p1, s1, e1, _, b1⟩ := spec_l1Cur_grid_some l hl hn p s h0 (by omega)
  obtain ⟨q, p2, s2, e2, _, b2⟩ := spec_l1Cur_pick_some l hl hn p1 s1 (by omega) (by omega) 30
  by_cases c0 : q = 0
  · obtain ⟨r, p3, s3, e3, b3⟩ := spec_l1Cur_among_some l hl hn p2 s2 (by omega) (by omega) [0, 8, 9, (-1)] (by simp)
    refine ⟨r, y, z, p3, s3, ?_, by omega, by omega⟩
    simp only [spec_l1Cur_anyGrid.f, e1, e2, e3, Option.bind_some]
    rw [if_pos c0]
  by_cases c1 : q = 1
  · obtain ⟨r, p3, s3, e3, b3⟩ := spec_l1Cur_among_some l hl hn p2 s2 (by omega) (by omega) [0, 6, 7, (-1)] (by simp)
    refine ⟨x, r, z, p3, s3, ?_, by omega, by omega⟩
    simp only [spec_l1Cur_anyGrid.f, e1, e2, e3, Option.bind_some]
    rw [if_neg c0, if_pos c1]
  by_cases c2 : q = 2
  · obtain ⟨r, p3, s3, e3, b3⟩ := spec_l1Cur_among_some l hl hn p2 s2 (by omega) (by omega) [0, 5, 6, (-1)] (by simp)
    refine ⟨x, y, r, p3, s3, ?_, by omega, by omega⟩
    simp only [spec_l1Cur_anyGrid.f, e1, e2, e3, Option.bind_some]
    rw [if_neg c0, if_neg c1, if_pos c2]
  by_cases c3 : q = 3
  · obtain ⟨r, p3, s3, e3, b3⟩ := spec_l1Cur_among_some l hl hn p2 s2 (by omega) (by omega) [2, 3] (by simp)
    refine ⟨8, 6, r, p3, s3, ?_, by omega, by omega⟩
    simp only [spec_l1Cur_anyGrid.f, e1, e2, e3, Option.bind_some]
    rw [if_neg c0, if_neg c1, if_neg c2, if_pos c3]
  by_cases c4 : q = 4
  · refine ⟨1, 1, 4611686018427387904, p2, s2, ?_, by omega, by omega⟩
    simp only [spec_l1Cur_anyGrid.f, e1, e2, Option.bind_some]
    rw [if_neg c0, if_neg c1, if_neg c2, if_neg c3, if_pos c4]
  · refine ⟨x, y, z, p2, s2, ?_, by omega, by omega⟩
    simp only [spec_l1Cur_anyGrid.f, e1, e2, Option.bind_some]
    rw [if_neg c0, if_neg c1, if_neg c2, if_neg c3, if_neg c4]
theorem spec_grCount_eq (x y z : Int) (h : gridOk x y z = true) : spec_grCount.f x y z = some (x * y * z) := by
  have hb := grid_ok h
  simp only [spec_grCount.f]
  rw [grid_wrap hb.1 hb.2.1 hb.2.2.1]
theorem spec_l1Cur_model_l0 (l : List Int) (hl : ∀ x ∈ l, 0 ≤ x ∧ x ≤ 255) (hn : l.length ≤ 9223372036854775807) (x y z : Int) : ∀ (d : Nat) (t g r : List Int) (p s : Int), t.length + d ≤ 120 → g.length = t.length → r.length = t.length → 0 ≤ p → p + 10 * (d : Int) ≤ 700000 →
    ∃ t' g' r' p' s', Ev (fun k => spec_l1Cur_model.l0 k (d : Int) l p s x y z t g r) (x, y, z, t', g', r', p', s') ∧ (t'.length = t.length + d ∧ g'.length = t'.length ∧ r'.length = t'.length) ∧ p ≤ p' ∧ p' ≤ p + 10 * (d : Int)
  | 0, t, g, r, p, s, h1, h2, h3, h4, h5 => by
      refine ⟨t, g, r, p, s, Ev.next0 fun k => ?_, by omega, by omega, by omega⟩
      simp only [spec_l1Cur_model.l0]
      rw [if_neg (by omega)]
  | d + 1, t, g, r, p, s, h1, h2, h3, h4, h5 => by
      obtain ⟨q1, p1, s1, e1, _, b1⟩ := spec_l1Cur_pick_some l hl hn p s h4 (by omega) 10001
      obtain ⟨v1, p2, s2, e2, b2⟩ := spec_l1Cur_among_some l hl hn p1 s1 (by omega) (by omega) [0, 100, 100, 200, 500, 1000, q1] (by simp)
      obtain ⟨q2, p3, s3, e3, _, b3⟩ := spec_l1Cur_pick_some l hl hn p2 s2 (by omega) (by omega) 1001
      obtain ⟨v2, p4, s4, e4, b4⟩ := spec_l1Cur_among_some l hl hn p3 s3 (by omega) (by omega) [0, 0, 5, 10, 20, 50, q2] (by simp)
      obtain ⟨v3, p5, s5, e5, _, b5⟩ := spec_l1Cur_pick_some l hl hn p4 s4 (by omega) (by omega) 5
      obtain ⟨t', g', r', p', s', h, ⟨g1, g2, g3⟩, g4, g5⟩ := spec_l1Cur_model_l0 l hl hn x y z d (t ++ [v1]) (g ++ [v2]) (r ++ [v3]) p5 s5 (by simp; omega) (by simp; omega) (by simp; omega) (by omega) (by push_cast at h5; omega)
      refine ⟨t', g', r', p', s', Ev.next1 h fun k hk => ?_, ⟨by simp at g1; omega, g2, g3⟩, by omega, by push_cast; omega⟩
      simp only [spec_l1Cur_model.l0, e1, e2, e3, e4, e5, Option.bind_some]
      rw [if_pos (by omega), if_pos (by omega), if_pos (by omega), if_pos (by omega), wrap_id (x := ((d + 1 : Nat) : Int) - 1) (by omega) (by omega), show ((d + 1 : Nat) : Int) - 1 = (d : Int) by omega]
      exact hk
theorem spec_grCount_small {x y z : Int} (h : (1 ≤ x ∧ x ≤ 8) ∧ (1 ≤ y ∧ y ≤ 6) ∧ (1 ≤ z ∧ z ≤ 5) ∧ x * y * z ≤ 120) : spec_grCount.f x y z = some (x * y * z) ∧ 1 ≤ x * y * z := by
  obtain ⟨hx, hy, hz, hxyz⟩ := h
  have m0 : 1 ≤ x * y := Int.mul_pos (by omega) (by omega)
  have m1 : x * y ≤ 8 * 6 := Int.mul_le_mul hx.2 hy.2 (by omega) (by omega)
  have m2 : 1 ≤ x * y * z := Int.mul_pos (by omega) (by omega)
  refine ⟨?_, m2⟩
  simp only [spec_grCount.f]
  rw [wrap_id (x := x * y) (by omega) (by omega), wrap_id (x := x * y * z) (by omega) (by omega)]
theorem spec_l1Cur_model_some (l : List Int) (hl : ∀ x ∈ l, 0 ≤ x ∧ x ≤ 255) (hn : l.length ≤ 9223372036854775807) (p s : Int) (h0 : 0 ≤ p) (h1 : p ≤ 600000) : ∃ x y z t g r p' s', Ev (fun k => spec_l1Cur_model.f k l p s) (x, y, z, t, g, r, p', s') ∧ ((1 ≤ x ∧ x ≤ 8) ∧ (1 ≤ y ∧ y ≤ 6) ∧ (1 ≤ z ∧ z ≤ 5) ∧ x * y * z ≤ 120) ∧ ((t.length : Int) = x * y * z ∧ g.length = t.length ∧ r.length = t.length) ∧ p ≤ p' ∧ p' ≤ p + 1300 := by
  obtain ⟨x, y, z, p1, s1, e1, hb, b1⟩ := spec_l1Cur_grid_some l hl hn p s h0 (by omega)
  obtain ⟨ec, c0⟩ := spec_grCount_small hb
  obtain ⟨d, hd⟩ := Int.eq_ofNat_of_zero_le (show 0 ≤ x * y * z by omega)
  obtain ⟨t, g, r, p2, s2, e2, ⟨g1, g2, g3⟩, g4, g5⟩ := spec_l1Cur_model_l0 l hl hn x y z d [] [] [] p1 s1 (by simp; omega) rfl rfl (by omega) (by omega)
  refine ⟨x, y, z, t, g, r, p2, s2, Ev.of1 e2 fun k hk => ?_, hb, ⟨by simp at g1; omega, g2, g3⟩, by omega, by omega⟩
  simp only [spec_l1Cur_model.f, e1, ec, Option.bind_some]
  rw [hd]
  exact hk
theorem spec_l1Cur_anyModel_some (l : List Int) (hl : ∀ x ∈ l, 0 ≤ x ∧ x ≤ 255) (hn : l.length ≤ 9223372036854775807) (p s : Int) (h0 : 0 ≤ p) (h1 : p ≤ 500000) : ∃ x y z t g r p' s', Ev (fun k => spec_l1Cur_anyModel.f k l p s) (x, y, z, t, g, r, p', s') ∧ (t.length ≤ 120 ∧ g.length ≤ 120 ∧ r.length ≤ 121) ∧ p ≤ p' ∧ p' ≤ p + 1400 := by
  obtain ⟨x, y, z, t, g, r, p1, s1, e1, hb, ⟨g1, g2, g3⟩, b1⟩ := spec_l1Cur_model_some l hl hn p s h0 (by omega)
  obtain ⟨ec, c0⟩ := spec_grCount_small hb
  obtain ⟨q, p2, s2, e2, _, b2⟩ := spec_l1Cur_pick_some l hl hn p1 s1 (by omega) (by omega) 30
  obtain ⟨i, p3, s3, e3, c3, b3⟩ := spec_l1Cur_pick_some l hl hn p2 s2 (by omega) (by omega) (x * y * z)
  have c3' := c3.2 c0
  by_cases q0 : q = 0
  · obtain ⟨x', y', z', p4, s4, e4, b4⟩ := spec_l1Cur_anyGrid_some l hl hn p2 s2 (by omega) (by omega)
    refine ⟨x', y', z', t, g, r, p4, s4, Ev.of1 e1 fun k hk => ?_, by omega, by omega, by omega⟩
    simp only [spec_l1Cur_anyModel.f, hk, ec, e2, e4, Option.bind_some]
    rw [if_pos q0]
  by_cases q1 : q = 1
  · obtain ⟨v, p4, s4, e4, b4⟩ := spec_l1Cur_among_some l hl hn p3 s3 (by omega) (by omega) [(-1), 10000, 10001] (by simp)
    refine ⟨x, y, z, t.set i.toNat v, g, r, p4, s4, Ev.of1 e1 fun k hk => ?_, by simp only [List.length_set]; omega, by omega, by omega⟩
    simp only [spec_l1Cur_anyModel.f, hk, ec, e2, e3, e4, Option.bind_some]
    rw [if_neg q0, if_pos q1, if_pos c3.1, if_pos (by omega)]
  by_cases q2 : q = 2
  · obtain ⟨v, p4, s4, e4, b4⟩ := spec_l1Cur_among_some l hl hn p3 s3 (by omega) (by omega) [(-1), 1000, 1001] (by simp)
    refine ⟨x, y, z, t, g.set i.toNat v, r, p4, s4, Ev.of1 e1 fun k hk => ?_, by simp only [List.length_set]; omega, by omega, by omega⟩
    simp only [spec_l1Cur_anyModel.f, hk, ec, e2, e3, e4, Option.bind_some]
    rw [if_neg q0, if_neg q1, if_pos q2, if_pos c3.1, if_pos (by omega)]
  by_cases q3 : q = 3
  · obtain ⟨v, p4, s4, e4, b4⟩ := spec_l1Cur_among_some l hl hn p3 s3 (by omega) (by omega) [(-1), 4, 5] (by simp)
    refine ⟨x, y, z, t, g, r.set i.toNat v, p4, s4, Ev.of1 e1 fun k hk => ?_, by simp only [List.length_set]; omega, by omega, by omega⟩
    simp only [spec_l1Cur_anyModel.f, hk, ec, e2, e3, e4, Option.bind_some]
    rw [if_neg q0, if_neg q1, if_neg q2, if_pos q3, if_pos c3.1, if_pos (by omega)]
  by_cases q4 : q = 4
  · refine ⟨x, y, z, t, g, r ++ [0], p2, s2, Ev.of1 e1 fun k hk => ?_, by simp only [List.length_append, List.length_singleton]; omega, by omega, by omega⟩
    simp only [spec_l1Cur_anyModel.f, hk, ec, e2, Option.bind_some]
    rw [if_neg q0, if_neg q1, if_neg q2, if_neg q3, if_pos q4, if_pos (by omega)]
  · refine ⟨x, y, z, t, g, r, p2, s2, Ev.of1 e1 fun k hk => ?_, by omega, by omega, by omega⟩
    simp only [spec_l1Cur_anyModel.f, hk, ec, e2, Option.bind_some]
    rw [if_neg q0, if_neg q1, if_neg q2, if_neg q3, if_neg q4]
theorem spec_l1Own_eq (l : List Int) (h : l.length < 17592186044416) : spec_l1Own.f l = some l := by
  simp only [spec_l1Own.f, Option.bind_some, List.length_nil, List.nil_append]
  rw [if_pos (by omega)]
theorem spec_moOwn_eq (x y z : Int) (t g r : List Int) (ht : t.length ≤ 1048576) (hg : g.length ≤ 1048576) (hr : r.length ≤ 1048576) : spec_moOwn.f x y z t g r = some (x, y, z, t, g, r) := by
  simp only [spec_moOwn.f, spec_l1Own_eq t (by omega), spec_l1Own_eq g (by omega), spec_l1Own_eq r (by omega), Option.bind_some]
theorem spec_l1Most_eq (a b : Int) : spec_l1Most.f a b = some (max a b) := by
  unfold spec_l1Most.f
  split <;> (congr 1; omega)
theorem least_eq (a b : Int) : spec_l1Least.f a b = some (if a < b then a else b) := by
  simp only [spec_l1Least.f]
  by_cases h : a < b
  · rw [if_pos h, if_pos h]
  · rw [if_neg h, if_neg h]
theorem spec_l1Cur_beside_l0 (l : List Int) (hl : ∀ x ∈ l, 0 ≤ x ∧ x ≤ 255) (hn : l.length ≤ 9223372036854775807) (x y z : Int) (t g r : List Int) (x' y' z' : Int) (r' : List Int) : ∀ (d i : Nat) (t' g' : List Int) (p s : Int), g'.length = i + d → g'.length ≤ 120 → 0 ≤ p → p + 4 * (d : Int) ≤ 700000 →
    ∃ t2 g2 p' s', Ev (fun k => spec_l1Cur_beside.l0 k (g'.length : Int) (i : Int) l p s x y z t g r x' y' z' t' g' r') (x, y, z, t, g, r, x', y', z', t2, g2, r', p', s') ∧ (t2.length = t'.length ∧ g2.length = g'.length) ∧ p ≤ p' ∧ p' ≤ p + 4 * (d : Int)
  | 0, i, t', g', p, s, h1, h2, h3, h4 => by
      refine ⟨t', g', p, s, Ev.next0 fun k => ?_, by omega, by omega, by omega⟩
      simp only [spec_l1Cur_beside.l0]
      rw [if_neg (by omega)]
  | d + 1, i, t', g', p, s, h1, h2, h3, h4 => by
      have hi : wrap64 ((i : Int) + 1) = ((i + 1 : Nat) : Int) := wrap_succ (n := 120) (by omega) (by omega)
      obtain ⟨q, p1, s1, e1, _, b1⟩ := spec_l1Cur_pick_some l hl hn p s h3 (by omega) 4
      by_cases q0 : q = 0
      · obtain ⟨v, p2, s2, e2, _, b2⟩ := spec_l1Cur_pick_some l hl hn p1 s1 (by omega) (by omega) 30
        obtain ⟨t2, g2, p', s', h, ⟨a1, a2⟩, a3, a4⟩ := spec_l1Cur_beside_l0 l hl hn x y z t g r x' y' z' r' d (i + 1) t' (g'.set ((i : Int)).toNat (if 1000 < max 0 (wrap64 (wrap64 (rd g' (i : Int) + v) - 15)) then 1000 else max 0 (wrap64 (wrap64 (rd g' (i : Int) + v) - 15)))) p2 s2 (by simp; omega) (by simp; omega) (by omega) (by push_cast at h4; omega)
        refine ⟨t2, g2, p', s', Ev.next1 h fun k hk => ?_, ⟨a1, by simpa using a2⟩, by omega, by push_cast; omega⟩
        simp only [spec_l1Cur_beside.l0, e1, e2, spec_l1Most_eq, least_eq, Option.bind_some]
        rw [if_pos (by omega), if_pos q0, if_pos (by omega), if_pos (by omega), hi]
        simpa using hk
      by_cases q1 : q = 1
      · by_cases c : (i : Int) < (t'.length : Int)
        · obtain ⟨v, p2, s2, e2, _, b2⟩ := spec_l1Cur_pick_some l hl hn p1 s1 (by omega) (by omega) 200
          obtain ⟨t2, g2, p', s', h, ⟨a1, a2⟩, a3, a4⟩ := spec_l1Cur_beside_l0 l hl hn x y z t g r x' y' z' r' d (i + 1) (t'.set ((i : Int)).toNat (max 0 (wrap64 (rd t' (i : Int) - v)))) g' p2 s2 (by omega) (by omega) (by omega) (by push_cast at h4; omega)
          refine ⟨t2, g2, p', s', Ev.next1 h fun k hk => ?_, ⟨by simpa using a1, a2⟩, by omega, by push_cast; omega⟩
          simp only [spec_l1Cur_beside.l0, e1, e2, spec_l1Most_eq, Option.bind_some]
          rw [if_pos (by omega), if_neg q0, if_pos q1, if_pos c, if_pos (by omega), hi]
          exact hk
        · obtain ⟨t2, g2, p', s', h, ⟨a1, a2⟩, a3, a4⟩ := spec_l1Cur_beside_l0 l hl hn x y z t g r x' y' z' r' d (i + 1) t' g' p1 s1 (by omega) (by omega) (by omega) (by push_cast at h4; omega)
          refine ⟨t2, g2, p', s', Ev.next1 h fun k hk => ?_, ⟨a1, a2⟩, by omega, by push_cast; omega⟩
          simp only [spec_l1Cur_beside.l0, e1, Option.bind_some]
          rw [if_pos (by omega), if_neg q0, if_pos q1, if_neg c, hi]
          exact hk
      · obtain ⟨t2, g2, p', s', h, ⟨a1, a2⟩, a3, a4⟩ := spec_l1Cur_beside_l0 l hl hn x y z t g r x' y' z' r' d (i + 1) t' g' p1 s1 (by omega) (by omega) (by omega) (by push_cast at h4; omega)
        refine ⟨t2, g2, p', s', Ev.next1 h fun k hk => ?_, ⟨a1, a2⟩, by omega, by push_cast; omega⟩
        simp only [spec_l1Cur_beside.l0, e1, Option.bind_some]
        rw [if_pos (by omega), if_neg q0, if_neg q1, hi]
        exact hk
theorem spec_l1Cur_beside_some (l : List Int) (hl : ∀ x ∈ l, 0 ≤ x ∧ x ≤ 255) (hn : l.length ≤ 9223372036854775807) (p s : Int) (h0 : 0 ≤ p) (h1 : p ≤ 300000) : ∃ x y z t g r x' y' z' t' g' r' p' s', Ev (fun k => spec_l1Cur_beside.f k l p s) (x, y, z, t, g, r, x', y', z', t', g', r', p', s') ∧ (t.length ≤ 120 ∧ g.length ≤ 120 ∧ r.length ≤ 121) ∧ (t'.length ≤ 120 ∧ g'.length ≤ 120 ∧ r'.length ≤ 121) ∧ p ≤ p' ∧ p' ≤ p + 4000 := by
  obtain ⟨x, y, z, t, g, r, p1, s1, e1, g1, b1⟩ := spec_l1Cur_anyModel_some l hl hn p s h0 (by omega)
  obtain ⟨o, p2, s2, e2, b2⟩ := spec_l1Cur_one_some l hl hn p1 s1 (by omega) (by omega) 10
  by_cases c : o = true
  · obtain ⟨x', y', z', t', g', r', p3, s3, e3, g3, b3⟩ := spec_l1Cur_anyModel_some l hl hn p2 s2 (by omega) (by omega)
    refine ⟨x, y, z, t, g, r, x', y', z', t', g', r', p3, s3, Ev.of2 e1 e3 fun k hk hk' => ?_, g1, g3, by omega, by omega⟩
    simp only [spec_l1Cur_beside.f, hk, e2, hk', Option.bind_some]
    rw [if_pos c]
  · obtain ⟨t2, g2, p3, s3, e3, ⟨a1, a2⟩, a3, a4⟩ := spec_l1Cur_beside_l0 l hl hn x y z t g r x y z r g.length 0 t g p2 s2 (by omega) (by omega) (by omega) (by omega)
    refine ⟨x, y, z, t, g, r, x, y, z, t2, g2, r, p3, s3, Ev.of2 e1 e3 fun k hk hk' => ?_, g1, by omega, by omega, by omega⟩
    simp only [spec_l1Cur_beside.f, hk, e2, spec_moOwn_eq x y z t g r (by omega) (by omega) (by omega), Option.bind_some]
    rw [if_neg c]
    exact hk'
theorem spec_l1Cur_gradeOf_some (l : List Int) (hl : ∀ x ∈ l, 0 ≤ x ∧ x ≤ 255) (hn : l.length ≤ 9223372036854775807) (p s : Int) (h0 : 0 ≤ p) (h1 : p ≤ 800000) (x y z : Int) (t g r : List Int) : ∃ v p' s', Ev (fun k => spec_l1Cur_gradeOf.f k l p s x y z t g r) (v, p', s') := by
  have other : ∀ (p s : Int), 0 ≤ p → p ≤ 850000 → ∃ v p' s', Ev (fun k => spec_l1Cur_gradeOf.j0 k false l p s x y z t g r) (v, p', s') := fun p s h0 h1 => by
    obtain ⟨v, p3, s3, e3, b3⟩ := spec_l1Cur_among_some l hl hn p s h0 (by omega) [0, 10, 20, 40, 1000, 1001, (-1)] (by simp)
    refine ⟨v, p3, s3, Ev.next0 fun k => ?_⟩
    simp only [spec_l1Cur_gradeOf.j0, e3, Option.bind_some]
    rw [if_neg (by simp)]
  by_cases hg : (g.length : Int) > 0
  · obtain ⟨o, p2, s2, e2, b2⟩ := spec_l1Cur_one_some l hl hn p s (by omega) (by omega) 2
    by_cases c : o = true
    · obtain ⟨i, p3, s3, e3, c3, b3⟩ := spec_l1Cur_pick_some l hl hn p2 s2 (by omega) (by omega) (g.length : Int)
      have c3' := c3.2 (by omega)
      refine ⟨rd g i, p3, s3, Ev.of1 (Ev.next0 (g := fun k => spec_l1Cur_gradeOf.j0 k true l p2 s2 x y z t g r) (r := (rd g i, p3, s3)) fun k => ?_) fun k hk => ?_⟩
      · simp only [spec_l1Cur_gradeOf.j0, e3, Option.bind_some]
        rw [if_pos trivial, if_pos c3.1, if_pos c3']
      · simp only [spec_l1Cur_gradeOf.f, e2, Option.bind_some]
        rw [if_pos hg, c]
        exact hk
    · obtain ⟨v, p3, s3, e3⟩ := other p2 s2 (by omega) (by omega)
      refine ⟨v, p3, s3, Ev.of1 e3 fun k hk => ?_⟩
      simp only [spec_l1Cur_gradeOf.f, e2, Option.bind_some]
      rw [if_pos hg, Bool.of_not_eq_true c]
      exact hk
  · obtain ⟨v, p3, s3, e3⟩ := other p s (by omega) (by omega)
    refine ⟨v, p3, s3, Ev.of1 e3 fun k hk => ?_⟩
    simp only [spec_l1Cur_gradeOf.f]
    rw [if_neg hg]
    exact hk
theorem spec_DrawSortTable_some (l : List Int) (hl : ∀ x ∈ l, 0 ≤ x ∧ x ≤ 255) (hn : l.length ≤ 9223372036854775807) : ∃ x y z t g r x' y' z' t' g' r' c, Ev (fun k => spec_DrawSortTable.f k l) (x, y, z, t, g, r, x', y', z', t', g', r', c) ∧ (t.length ≤ 120 ∧ g.length ≤ 120 ∧ r.length ≤ 121) ∧ (t'.length ≤ 120 ∧ g'.length ≤ 120 ∧ r'.length ≤ 121) := by
  obtain ⟨x, y, z, t, g, r, x', y', z', t', g', r', p, s, e, g1, g2, b1, b2⟩ := spec_l1Cur_beside_some l hl hn 0 0 (by omega) (by omega)
  obtain ⟨v, p3, s3, e3⟩ := spec_l1Cur_gradeOf_some l hl hn p s (by omega) (by omega) x y z t g r
  refine ⟨x, y, z, t, g, r, x', y', z', t', g', r', v, Ev.of2 e e3 fun k hk hk' => ?_, g1, g2⟩
  simp only [spec_DrawSortTable.f, hk, hk', Option.bind_some]
theorem impl_areTwins_ev (x y z : Int) (t g r : List Int) (x' y' z' : Int) (t' g' r' : List Int) (ht : t.length ≤ 1048576) (hg : g.length ≤ 1048576) (hr : r.length ≤ 1048576) (ht' : t'.length ≤ 1048576) (hg' : g'.length ≤ 1048576) (hr' : r'.length ≤ 1048576) : Ev (fun k => impl_areTwins.f k x y z t g r x' y' z' t' g' r') (modelOk x y z t g r && (modelOk x' y' z' t' g' r' && (x == x' && (y == y' && (z == z'))))) :=
  (ev_and (impl_IsModel_ev x y z t g r ht hg hr) <| ev_one (impl_IsModel_ev x' y' z' t' g' r' ht' hg' hr')).ev fun k ⟨h1, h2⟩ => by
    simp only [impl_areTwins.f, h1, h2, Option.bind_some]
    by_cases h : modelOk x y z t g r = true
    · rw [if_pos h, h]
      by_cases h' : modelOk x' y' z' t' g' r' = true
      · rw [if_pos h', h']; rfl
      · rw [if_neg h']; simp [h']
    · rw [if_neg h]; simp [h]
def kindOf (a b c : Int) : Int := if a ≥ c then (if b ≥ c then 0 else 1) else (if b ≥ c then 2 else 3)
theorem kind_bd (a b c : Int) : 0 ≤ kindOf a b c ∧ kindOf a b c ≤ 3 := by unfold kindOf; repeat' split
                                                                          all_goals omega
theorem spec_rcKind_ev (x y z : Int) (t g r : List Int) (x' y' z' : Int) (t' g' r' : List Int) (i c : Int) (h0 : 0 ≤ i) (h1 : i < (g.length : Int)) (h2 : i < (g'.length : Int)) : Ev (fun k => spec_rcKind.f k x y z t g r x' y' z' t' g' r' i c) (kindOf (rd g i) (rd g' i) c) := by
  refine ⟨1, fun n hn => ?_⟩
  obtain ⟨k, rfl⟩ : ∃ k, n = k + 1 := ⟨n - 1, by omega⟩
  simp only [spec_rcKind.f, spec_rcKind.j0, kindOf]
  by_cases ha : rd g i ≥ c <;> by_cases hb : rd g' i ≥ c <;> simp [ha, hb, h0, h1, h2]
/-- Metal sorted by kind. -/
def sortS (c : Int) : List Int → List Int → List Int → List Int → List Int
  | a :: us, b :: bs, m :: ms, S => sortS c us bs ms (S.set (kindOf a b c).toNat (rd S (kindOf a b c) + m))
  | _, _, _, S => S
def metals : List Int → List Int → List Int
  | a :: us, b :: bs => (a * b) :: metals us bs
  | _, _ => []
theorem metals_length : ∀ us bs : List Int, us.length = bs.length → (metals us bs).length = us.length
  | [], [], _ => rfl
  | [], _ :: _, h => by simp at h
  | _ :: _, [], h => by simp at h
  | a :: us, b :: bs, h => by simp [metals, metals_length us bs (by simpa using h)]
theorem metals_mem : ∀ us bs : List Int, allIn 0 10000 us = true → allIn 0 1000 bs = true → ∀ m ∈ metals us bs, 0 ≤ m ∧ m ≤ 10000000
  | [], _, _, _, m, hm => by simp [metals] at hm
  | _ :: _, [], _, _, m, hm => by simp [metals] at hm
  | a :: us, b :: bs, h1, h2, m, hm => by
    simp only [allIn, Bool.and_eq_true, decide_eq_true_eq] at h1 h2
    simp only [metals] at hm
    rcases List.mem_cons.1 hm with rfl | hm
    · exact ⟨Int.mul_nonneg h1.1.1 h2.1.1, Int.mul_le_mul (a := a) (b := b) (c := 10000) (d := 1000) h1.1.2 h2.1.2 h2.1.1 (by omega)⟩
    · exact metals_mem us bs h1.2 h2.2 m hm
theorem rd_mem {S : List Int} {i : Int} (h0 : 0 ≤ i) (h1 : i < (S.length : Int)) : rd S i ∈ S := by
  have hg : S[i.toNat]? = some (S[i.toNat]'(by omega)) := List.getElem?_eq_getElem (by omega)
  have h5 := rd_get hg
  rw [show ((i.toNat : Nat) : Int) = i by omega] at h5
  rw [h5]; exact List.getElem_mem _
theorem set_bd {S : List Int} {B m : Int} {i : Int} (h : ∀ v ∈ S, 0 ≤ v ∧ v ≤ B) (hm : 0 ≤ m ∧ m ≤ 10000000) (h0 : 0 ≤ i) (h1 : i < (S.length : Int)) : ∀ v ∈ S.set i.toNat (rd S i + m), 0 ≤ v ∧ v ≤ B + 10000000 := by
  intro v hv
  have hr := h _ (rd_mem h0 h1)
  rcases List.mem_or_eq_of_mem_set hv with hv | rfl
  · have := h v hv; omega
  · omega
def wrongMetal (x y z : Int) (t g r : List Int) (x' y' z' : Int) (t' g' r' : List Int) (c : Int) : Int × Int × Bool :=
  if (modelOk x y z t g r = true ∧ modelOk x' y' z' t' g' r' = true ∧ x = x' ∧ y = y' ∧ z = z') ∧ (0 ≤ c ∧ c ≤ 1000) then (rd (sortS c g g' (metals t' g') (List.replicate 4 0)) 2, rd (sortS c g g' (metals t' g') (List.replicate 4 0)) 1, true) else (0, 0, false)
theorem sortS_length (c : Int) : ∀ us bs ms S : List Int, (sortS c us bs ms S).length = S.length
  | [], _, _, _ => by simp [sortS]
  | _ :: _, [], _, _ => by simp [sortS]
  | _ :: _, _ :: _, [], _ => by simp [sortS]
  | a :: us, b :: bs, m :: ms, S => by simp only [sortS]; rw [sortS_length]; simp
-- needs: spec_rcKind wrong_model
theorem impl_sortedSums_l0 (x y z : Int) (t g r : List Int) (x' y' z' : Int) (t' g' r' : List Int) (c : Int) (M : List Int) (hn : M.length ≤ 1048576) (hl : g.length = M.length) (hl' : g'.length = M.length) (hM : ∀ m ∈ M, 0 ≤ m ∧ m ≤ 10000000) : ∀ (us bs ms : List Int) (j : Nat) (S : List Int), g.drop j = us → g'.drop j = bs → M.drop j = ms → S.length = 4 → (∀ v ∈ S, 0 ≤ v ∧ v ≤ 10000000 * (j : Int)) →
    Ev (fun k => impl_sortedSums.l0 k c S M (M.length : Int) j x y z t g r x' y' z' t' g' r') (sortS c us bs ms S)
  | [], bs, ms, j, S, ha, hb, hc, hS, hB => Ev.next0 fun k => by
      have h0 := drop_nil ha
      simp only [impl_sortedSums.l0, sortS]
      rw [if_neg (by omega)]
  | a :: us, [], ms, j, S, ha, hb, hc, hS, hB => by
      have h0 := drop_nil hb; have h1 := (drop_cons ha).1; omega
  | a :: us, b :: bs, [], j, S, ha, hb, hc, hS, hB => by
      have h0 := drop_nil hc; have h1 := (drop_cons ha).1; omega
  | a :: us, b :: bs, u :: ms, j, S, ha, hb, hc, hS, hB => by
      obtain ⟨a1, a2, a3⟩ := drop_cons ha
      obtain ⟨b1, b2, b3⟩ := drop_cons hb
      obtain ⟨c1, c2, c3⟩ := drop_cons hc
      have ea := rd_drop ha
      have eb := rd_drop hb
      have ec := rd_drop hc
      have hm := hM u (List.mem_of_getElem? c2)
      have kb := kind_bd a b c
      have hr := hB _ (rd_mem kb.1 (by omega))
      have hB' := set_bd hB hm kb.1 (by omega)
      have ih := impl_sortedSums_l0 x y z t g r x' y' z' t' g' r' c M hn hl hl' hM us bs ms (j + 1) (S.set (kindOf a b c).toNat (rd S (kindOf a b c) + u)) a3 b3 c3 (by simpa using hS) (fun v hv => by have := hB' v hv; push_cast; omega)
      have q3 : ((2 : Int) + 1) = 3 := rfl
      have q2 : ((0 : Int) + 2) = 2 := rfl
      have q1 : ((0 : Int) + 1) = 1 := rfl
      refine Ev.next1 ih fun k hk => ?_
      simp only [impl_sortedSums.l0, ea, eb, ec, sortS, q3, q2, q1]
      rw [if_pos (by omega), if_pos (by omega), if_pos (by omega), if_pos (by omega)]
      by_cases h1 : a < c
      · rw [if_pos h1, if_pos (by omega)]
        by_cases h2 : b < c
        · rw [if_pos h2]
          have hkd : kindOf a b c = 3 := by unfold kindOf; rw [if_neg (by omega), if_neg (by omega)]
          rw [hkd] at hk hr ⊢
          rw [if_pos (by omega), if_pos (by omega), wrap_succ c1 (by omega), wrap_id (x := rd S 3 + u) (by omega) (by omega)]
          exact hk
        · rw [if_neg h2]
          have hkd : kindOf a b c = 2 := by unfold kindOf; rw [if_neg (by omega), if_pos (by omega)]
          rw [hkd] at hk hr ⊢
          rw [if_pos (by omega), if_pos (by omega), wrap_succ c1 (by omega), wrap_id (x := rd S 2 + u) (by omega) (by omega)]
          exact hk
      · rw [if_neg h1, if_pos (by omega)]
        by_cases h2 : b < c
        · rw [if_pos h2]
          have hkd : kindOf a b c = 1 := by unfold kindOf; rw [if_pos (by omega), if_neg (by omega)]
          rw [hkd] at hk hr ⊢
          rw [if_pos (by omega), if_pos (by omega), wrap_succ c1 (by omega), wrap_id (x := rd S 1 + u) (by omega) (by omega)]
          exact hk
        · rw [if_neg h2]
          have hkd : kindOf a b c = 0 := by unfold kindOf; rw [if_pos (by omega), if_pos (by omega)]
          rw [hkd] at hk hr ⊢
          rw [if_pos (by omega), wrap_succ c1 (by omega), wrap_id (x := rd S 0 + u) (by omega) (by omega)]
          exact hk
theorem impl_sortedSums_ev (x y z : Int) (t g r : List Int) (x' y' z' : Int) (t' g' r' : List Int) (c : Int) (M : List Int) (hn : M.length ≤ 1048576) (hl : g.length = M.length) (hl' : g'.length = M.length) (hM : ∀ m ∈ M, 0 ≤ m ∧ m ≤ 10000000) : Ev (fun k => impl_sortedSums.f k x y z t g r x' y' z' t' g' r' c M) (sortS c g g' M (List.replicate 4 0)) :=
  Ev.of1 (impl_sortedSums_l0 x y z t g r x' y' z' t' g' r' c M hn hl hl' hM g g' M 0 (List.replicate 4 0) rfl rfl rfl (by simp) (fun v hv => by have := List.eq_of_mem_replicate hv; omega)) fun k hk => by
    simp only [impl_sortedSums.f]
    rw [if_pos (by omega)]; exact hk
theorem twin_lens (x y z : Int) (t g r : List Int) (x' y' z' : Int) (t' g' r' : List Int) (h : modelOk x y z t g r = true) (h' : modelOk x' y' z' t' g' r' = true) (e : x = x' ∧ y = y' ∧ z = z') : g.length = t'.length ∧ g'.length = t'.length := by
  obtain ⟨_, l1, _⟩ := model_ok h
  obtain ⟨_, l2, _⟩ := model_ok h'
  rw [e.1, e.2.1, e.2.2] at l1
  omega
theorem spec_l1In_eq (a lo hi : Int) : spec_l1In.f a lo hi = some (decide (lo ≤ a ∧ a ≤ hi)) := by
  unfold spec_l1In.f
  split
  · congr 1; simp; omega
  · congr 1; simp; omega
theorem spec_grGood_eq (x y z : Int) : spec_grGood.f x y z = some (gridOk x y z) := by
  simp only [spec_grGood.f, spec_l1In_eq, Option.bind_some, decide_eq_true_eq, gridOk]
  by_cases hx : 1 ≤ x ∧ x ≤ 8
  · rw [if_pos hx]
    by_cases hy : 1 ≤ y ∧ y ≤ 6
    · rw [if_pos hy]
      by_cases hz : 1 ≤ z ∧ z ≤ 5
      · rw [if_pos hz, grid_wrap hx hy hz]; congr 1; simp [hx, hy, hz]
      · rw [if_neg hz]; congr 1; symm; simp; omega
    · rw [if_neg hy]; congr 1; symm; simp; omega
  · rw [if_neg hx]; congr 1; symm; simp; omega
theorem spec_l1All_l0 (lo hi : Int) (l : List Int) (hn : l.length ≤ 9223372036854775807) : ∀ (ys : List Int) (i : Nat), l.drop i = ys → Ev (fun k => spec_l1All.l0 k lo hi l (l.length : Int) i) (allIn lo hi ys)
  | [], i, h => Ev.next0 fun k => by
      have h0 := drop_nil h
      simp only [spec_l1All.l0, allIn]
      rw [if_neg (by omega)]
  | y :: ys, i, h => by
      obtain ⟨h1, h2, h3⟩ := drop_cons h
      refine Ev.next1 (spec_l1All_l0 lo hi l hn ys (i + 1) h3) fun k hk => ?_
      have e := rd_drop h
      simp only [spec_l1All.l0, e, spec_l1In_eq, Option.bind_some]
      rw [if_pos (by omega), if_pos (by omega), if_pos (by omega), wrap_succ h1 hn]
      by_cases hy : lo ≤ y ∧ y ≤ hi
      · rw [if_pos (decide_eq_true hy), hk]; simp [allIn, hy]
      · rw [if_neg (by simp; omega)]; simp [allIn, hy]
theorem spec_l1All_ev (l : List Int) (lo hi : Int) (hn : l.length ≤ 9223372036854775807) : Ev (fun k => spec_l1All.f k l lo hi) (allIn lo hi l) :=
  Ev.of1 (spec_l1All_l0 lo hi l hn l 0 rfl) fun k hk => by simp only [spec_l1All.f]; exact hk
theorem spec_moGood_ev (x y z : Int) (t g r : List Int) (ht : t.length ≤ 1048576) (hg : g.length ≤ 1048576) (hr : r.length ≤ 1048576) : Ev (fun k => spec_moGood.f k x y z t g r) (modelOk x y z t g r) :=
  (ev_and (spec_l1All_ev t 0 10000 (by omega)) <| ev_and (spec_l1All_ev g 0 1000 (by omega)) <| ev_one (spec_l1All_ev r 0 4 (by omega))).ev fun k ⟨h1, h2, h3⟩ => by
    simp only [spec_moGood.f, spec_grGood_eq, Option.bind_some, modelOk]
    by_cases h : gridOk x y z = true
    · rw [if_pos h, spec_grCount_eq x y z h, Option.bind_some, h1, h2, h3]
      simp only [Option.bind_some, h, Bool.true_and]
      by_cases e1 : (t.length : Int) = x * y * z
      · rw [if_pos e1]
        by_cases e2 : (g.length : Int) = x * y * z
        · rw [if_pos e2]
          by_cases e3 : (r.length : Int) = x * y * z
          · rw [if_pos e3, decide_eq_true ⟨e1, e2, e3⟩]
            cases allIn 0 10000 t <;> cases allIn 0 1000 g <;> simp
          · rw [if_neg e3, decide_eq_false (fun h => e3 h.2.2)]; rfl
        · rw [if_neg e2, decide_eq_false (fun h => e2 h.2.1)]; rfl
      · rw [if_neg e1, decide_eq_false (fun h => e1 h.1)]; rfl
    · rw [if_neg h]; simp [h]
theorem spec_rcBoth_ev (x y z : Int) (t g r : List Int) (x' y' z' : Int) (t' g' r' : List Int) (ht : t.length ≤ 1048576) (hg : g.length ≤ 1048576) (hr : r.length ≤ 1048576) (ht' : t'.length ≤ 1048576) (hg' : g'.length ≤ 1048576) (hr' : r'.length ≤ 1048576) : Ev (fun k => spec_rcBoth.f k x y z t g r x' y' z' t' g' r') (modelOk x y z t g r && (modelOk x' y' z' t' g' r' && (x == x' && (y == y' && (z == z'))))) :=
  (ev_and (spec_moGood_ev x y z t g r ht hg hr) <| ev_one (spec_moGood_ev x' y' z' t' g' r' ht' hg' hr')).ev fun k ⟨h1, h2⟩ => by
    simp only [spec_rcBoth.f, h1, h2, Option.bind_some]
    by_cases h : modelOk x y z t g r = true
    · rw [if_pos h, h]
      by_cases h' : modelOk x' y' z' t' g' r' = true
      · rw [if_pos h', h']; rfl
      · rw [if_neg h']; simp [h']
    · rw [if_neg h]; simp [h]
theorem spec_rcGrade_eq (a : Int) : spec_rcGrade.f a = some (decide (0 ≤ a ∧ a ≤ 1000)) := by
  simp only [spec_rcGrade.f, spec_l1In_eq, Option.bind_some]
-- needs: spec_rcKind spec_moMetal wrong_model
theorem spec_WrongMetal_l0 (x y z : Int) (t g r : List Int) (x' y' z' : Int) (t' g' r' : List Int) (c : Int) (hn : t'.length ≤ 1048576) (hl : g.length = t'.length) (hl' : g'.length = t'.length) (hv : allIn 0 10000 t' = true) (hv' : allIn 0 1000 g' = true) : ∀ (us bs ts : List Int) (j : Nat) (S : List Int), g.drop j = us → g'.drop j = bs → t'.drop j = ts → S.length = 4 → (∀ v ∈ S, 0 ≤ v ∧ v ≤ 10000000 * (j : Int)) →
    Ev (fun k => spec_WrongMetal.l0 k c S (t'.length : Int) j x y z t g r x' y' z' t' g' r') (rd (sortS c us bs (metals ts bs) S) 2, rd (sortS c us bs (metals ts bs) S) 1, true)
  | [], bs, ts, j, S, ha, hb, hc, hS, hB => Ev.next0 fun k => by
      have h0 := drop_nil ha
      simp only [spec_WrongMetal.l0, sortS]
      rw [if_neg (by omega), if_pos (by omega), if_pos (by omega)]
  | a :: us, [], ts, j, S, ha, hb, hc, hS, hB => by
      have h0 := drop_nil hb; have h1 := (drop_cons ha).1; omega
  | a :: us, b :: bs, [], j, S, ha, hb, hc, hS, hB => by
      have h0 := drop_nil hc; have h1 := (drop_cons ha).1; omega
  | a :: us, b :: bs, u :: ts, j, S, ha, hb, hc, hS, hB => by
      obtain ⟨a1, a2, a3⟩ := drop_cons ha
      obtain ⟨b1, b2, b3⟩ := drop_cons hb
      obtain ⟨c1, c2, c3⟩ := drop_cons hc
      have ea := rd_drop ha
      have eb := rd_drop hb
      have ec := rd_drop hc
      have hk := spec_rcKind_ev x y z t g r x' y' z' t' g' r' (j : Int) c (by omega) (by omega) (by omega)
      rw [ea, eb] at hk
      have hm := spec_moMetal_eq x' y' z' t' g' r' (j : Int) hv hv' (by omega) (by omega) (by omega)
      have hmb := metal_bd hv hv' (i := (j : Int)) (by omega) (by omega) (by omega)
      rw [ec, eb] at hm hmb
      have kb := kind_bd a b c
      simp only [metals, sortS]
      generalize kindOf a b c = q at hk kb ⊢
      have hr := hB _ (rd_mem kb.1 (by omega))
      have hB' := set_bd hB hmb.2 kb.1 (by omega)
      refine Ev.next2 hk (spec_WrongMetal_l0 x y z t g r x' y' z' t' g' r' c hn hl hl' hv hv' us bs ts (j + 1) (S.set q.toNat (rd S q + u * b)) a3 b3 c3 (by simpa using hS) (fun v hv => by have := hB' v hv; push_cast; omega)) fun k k1 k2 => ?_
      simp only [spec_WrongMetal.l0, k1, hm, Option.bind_some]
      rw [if_pos (by omega), if_pos kb.1, if_pos (by omega), wrap_succ c1 (by omega), wrap_id (x := rd S q + u * b) (by omega) (by omega)]
      exact k2
theorem spec_WrongMetal_no (x y z : Int) (t g r : List Int) (x' y' z' : Int) (t' g' r' : List Int) (c : Int) : Ev (fun k => spec_WrongMetal.j0 k c true x y z t g r x' y' z' t' g' r') (0, 0, false) := Ev.next0 fun k => by simp [spec_WrongMetal.j0]
theorem twin_len (x y z : Int) (t g r : List Int) (x' y' z' : Int) (t' g' r' : List Int) (h : modelOk x y z t g r = true) (h' : modelOk x' y' z' t' g' r' = true) (e : x = x' ∧ y = y' ∧ z = z') : g.length = t'.length ∧ g'.length = t'.length := by
  obtain ⟨_, l1, _⟩ := model_ok h
  obtain ⟨_, l2, _⟩ := model_ok h'
  rw [e.1, e.2.1, e.2.2] at l1
  omega
theorem spec_WrongMetal_ev (x y z : Int) (t g r : List Int) (x' y' z' : Int) (t' g' r' : List Int) (ht : t.length ≤ 1048576) (hg : g.length ≤ 1048576) (hr : r.length ≤ 1048576) (ht' : t'.length ≤ 1048576) (hg' : g'.length ≤ 1048576) (hr' : r'.length ≤ 1048576) (c : Int) : Ev (fun k => spec_WrongMetal.f k x y z t g r x' y' z' t' g' r' c) (wrongMetal x y z t g r x' y' z' t' g' r' c) := by
  have h0 := spec_rcBoth_ev x y z t g r x' y' z' t' g' r' ht hg hr ht' hg' hr'
  have hn := spec_WrongMetal_no x y z t g r x' y' z' t' g' r' c
  by_cases h : modelOk x y z t g r = true ∧ modelOk x' y' z' t' g' r' = true ∧ x = x' ∧ y = y' ∧ z = z'
  · by_cases hc : 0 ≤ c ∧ c ≤ 1000
    · have hl := twin_len x y z t g r x' y' z' t' g' r' h.1 h.2.1 h.2.2
      obtain ⟨_, _, v1, v2, _⟩ := model_ok h.2.1
      have i0 := spec_WrongMetal_l0 x y z t g r x' y' z' t' g' r' c ht' hl.1 hl.2 v1 v2 g g' t' 0 (List.replicate 4 0) rfl rfl rfl (by simp) (fun v hv => by have := List.eq_of_mem_replicate hv; omega)
      have i1 : Ev (fun k => spec_WrongMetal.j0 k c false x y z t g r x' y' z' t' g' r') (rd (sortS c g g' (metals t' g') (List.replicate 4 0)) 2, rd (sortS c g g' (metals t' g') (List.replicate 4 0)) 1, true) := Ev.next1 i0 fun k hk => by
        simp only [spec_WrongMetal.j0, Bool.false_eq_true, if_false]
        rw [if_pos (by omega)]; exact hk
      refine (ev_and h0 <| ev_one i1).ev fun k ⟨k1, k2⟩ => ?_
      simp only [spec_WrongMetal.f, spec_rcGrade_eq, k1, Option.bind_some]
      rw [if_pos (by simp only [h.1, h.2.1, Bool.true_and]; simp [h.2.2]), show (!decide (0 ≤ c ∧ c ≤ 1000)) = false by simp [hc], wrongMetal, if_pos ⟨h, hc⟩]; exact k2
    · refine (ev_and h0 <| ev_one hn).ev fun k ⟨k1, k2⟩ => ?_
      simp only [spec_WrongMetal.f, spec_rcGrade_eq, k1, Option.bind_some]
      rw [if_pos (by simp only [h.1, h.2.1, Bool.true_and]; simp [h.2.2]), show (!decide (0 ≤ c ∧ c ≤ 1000)) = true by rw [decide_eq_false hc]; rfl, wrongMetal, if_neg (fun q => hc q.2)]; exact k2
  · refine (ev_and h0 <| ev_one hn).ev fun k ⟨k1, k2⟩ => ?_
    simp only [spec_WrongMetal.f, k1, Option.bind_some]
    rw [if_neg (by simpa using h), wrongMetal, if_neg (fun q => h q.1)]; exact k2
-- needs: model_facts spec_rcKind wrong_model twin_len
def sortTable (x y z : Int) (t g r : List Int) (x' y' z' : Int) (t' g' r' : List Int) (c : Int) : List Int × Bool := if (modelOk x y z t g r = true ∧ modelOk x' y' z' t' g' r' = true ∧ x = x' ∧ y = y' ∧ z = z') ∧ (0 ≤ c ∧ c ≤ 1000) then (sortS c g g' t' (List.replicate 4 0), true) else ([], false)
theorem sortTable_len (x y z : Int) (t g r : List Int) (x' y' z' : Int) (t' g' r' : List Int) (ht : t.length ≤ 1048576) (hg : g.length ≤ 1048576) (hr : r.length ≤ 1048576) (ht' : t'.length ≤ 1048576) (hg' : g'.length ≤ 1048576) (hr' : r'.length ≤ 1048576) (c : Int) : (sortTable x y z t g r x' y' z' t' g' r' c).1.length ≤ 1048576 := by
  unfold sortTable
  split
  · rw [sortS_length]; simp
  · simp
theorem spec_SortTable_l0 (x y z : Int) (t g r : List Int) (x' y' z' : Int) (t' g' r' : List Int) (c : Int) (hn : t'.length ≤ 1048576) (hl : g.length = t'.length) (hl' : g'.length = t'.length) (hv : allIn 0 10000 t' = true) : ∀ (us bs ts : List Int) (j : Nat) (S : List Int), g.drop j = us → g'.drop j = bs → t'.drop j = ts → S.length = 4 → (∀ v ∈ S, 0 ≤ v ∧ v ≤ 10000000 * (j : Int)) →
    Ev (fun k => spec_SortTable.l0 k c S t' (t'.length : Int) j x y z t g r x' y' z' t' g' r') (sortS c us bs ts S, true)
  | [], bs, ts, j, S, ha, hb, hc, hS, hB => Ev.next0 fun k => by
      have h0 := drop_nil ha
      simp only [spec_SortTable.l0, sortS]
      rw [if_neg (by omega)]
  | a :: us, [], ts, j, S, ha, hb, hc, hS, hB => by
      have h0 := drop_nil hb; have h1 := (drop_cons ha).1; omega
  | a :: us, b :: bs, [], j, S, ha, hb, hc, hS, hB => by
      have h0 := drop_nil hc; have h1 := (drop_cons ha).1; omega
  | a :: us, b :: bs, u :: ts, j, S, ha, hb, hc, hS, hB => by
      obtain ⟨a1, a2, a3⟩ := drop_cons ha
      obtain ⟨b1, b2, b3⟩ := drop_cons hb
      obtain ⟨c1, c2, c3⟩ := drop_cons hc
      have ea := rd_drop ha
      have eb := rd_drop hb
      have ec := rd_drop hc
      have hk := spec_rcKind_ev x y z t g r x' y' z' t' g' r' (j : Int) c (by omega) (by omega) (by omega)
      rw [ea, eb] at hk
      have hm := allIn_get hv c2
      have kb := kind_bd a b c
      simp only [sortS]
      generalize kindOf a b c = q at hk kb ⊢
      have hr := hB _ (rd_mem kb.1 (by omega))
      have hB' := set_bd hB (m := u) (by omega) kb.1 (by omega)
      refine Ev.next2 hk (spec_SortTable_l0 x y z t g r x' y' z' t' g' r' c hn hl hl' hv us bs ts (j + 1) (S.set q.toNat (rd S q + u)) a3 b3 c3 (by simpa using hS) (fun v hv => by have := hB' v hv; push_cast; omega)) fun k k1 k2 => ?_
      simp only [spec_SortTable.l0, k1, ec, Option.bind_some]
      rw [if_pos (by omega), if_pos (by omega), if_pos (by omega), if_pos kb.1, if_pos (by omega), wrap_succ c1 (by omega), wrap_id (x := rd S q + u) (by omega) (by omega)]
      exact k2
theorem spec_SortTable_no (x y z : Int) (t g r : List Int) (x' y' z' : Int) (t' g' r' : List Int) (c : Int) : Ev (fun k => spec_SortTable.j0 k c true x y z t g r x' y' z' t' g' r') ([], false) := Ev.next0 fun k => by simp [spec_SortTable.j0]
theorem spec_SortTable_ev (x y z : Int) (t g r : List Int) (x' y' z' : Int) (t' g' r' : List Int) (ht : t.length ≤ 1048576) (hg : g.length ≤ 1048576) (hr : r.length ≤ 1048576) (ht' : t'.length ≤ 1048576) (hg' : g'.length ≤ 1048576) (hr' : r'.length ≤ 1048576) (c : Int) : Ev (fun k => spec_SortTable.f k x y z t g r x' y' z' t' g' r' c) (sortTable x y z t g r x' y' z' t' g' r' c) := by
  have h0 := spec_rcBoth_ev x y z t g r x' y' z' t' g' r' ht hg hr ht' hg' hr'
  have hn := spec_SortTable_no x y z t g r x' y' z' t' g' r' c
  by_cases h : modelOk x y z t g r = true ∧ modelOk x' y' z' t' g' r' = true ∧ x = x' ∧ y = y' ∧ z = z'
  · by_cases hc : 0 ≤ c ∧ c ≤ 1000
    · have hl := twin_lens x y z t g r x' y' z' t' g' r' h.1 h.2.1 h.2.2
      obtain ⟨_, _, v1, v2, _⟩ := model_ok h.2.1
      have i0 := spec_SortTable_l0 x y z t g r x' y' z' t' g' r' c ht' hl.1 hl.2 v1 g g' t' 0 (List.replicate 4 0) rfl rfl rfl (by simp) (fun v hv => by have := List.eq_of_mem_replicate hv; omega)
      have i1 : Ev (fun k => spec_SortTable.j0 k c false x y z t g r x' y' z' t' g' r') (sortS c g g' t' (List.replicate 4 0), true) := Ev.next1 i0 fun k hk => by
        simp only [spec_SortTable.j0, Bool.false_eq_true, if_false]
        rw [if_pos (by omega)]; exact hk
      refine (ev_and h0 <| ev_one i1).ev fun k ⟨k1, k2⟩ => ?_
      simp only [spec_SortTable.f, spec_rcGrade_eq, k1, Option.bind_some]
      rw [if_pos (by simp only [h.1, h.2.1, Bool.true_and]; simp [h.2.2]), show (!decide (0 ≤ c ∧ c ≤ 1000)) = false by simp [hc], sortTable, if_pos ⟨h, hc⟩]; exact k2
    · refine (ev_and h0 <| ev_one hn).ev fun k ⟨k1, k2⟩ => ?_
      simp only [spec_SortTable.f, spec_rcGrade_eq, k1, Option.bind_some]
      rw [if_pos (by simp only [h.1, h.2.1, Bool.true_and]; simp [h.2.2]), show (!decide (0 ≤ c ∧ c ≤ 1000)) = true by rw [decide_eq_false hc]; rfl, sortTable, if_neg (fun q => hc q.2)]; exact k2
  · refine (ev_and h0 <| ev_one hn).ev fun k ⟨k1, k2⟩ => ?_
    simp only [spec_SortTable.f, k1, Option.bind_some]
    rw [if_neg (by simpa using h), sortTable, if_neg (fun q => h q.1)]; exact k2
-- needs: spec_SortTable
theorem impl_SortTable_ev (x y z : Int) (t g r : List Int) (x' y' z' : Int) (t' g' r' : List Int) (ht : t.length ≤ 1048576) (hg : g.length ≤ 1048576) (hr : r.length ≤ 1048576) (ht' : t'.length ≤ 1048576) (hg' : g'.length ≤ 1048576) (hr' : r'.length ≤ 1048576) (c : Int) : Ev (fun k => impl_SortTable.f k x y z t g r x' y' z' t' g' r' c) (sortTable x y z t g r x' y' z' t' g' r' c) := by
  have h0 := impl_areTwins_ev x y z t g r x' y' z' t' g' r' ht hg hr ht' hg' hr'
  by_cases h : modelOk x y z t g r = true ∧ modelOk x' y' z' t' g' r' = true ∧ x = x' ∧ y = y' ∧ z = z'
  · by_cases hc : 0 ≤ c ∧ c ≤ 1000
    · have hl := twin_lens x y z t g r x' y' z' t' g' r' h.1 h.2.1 h.2.2
      obtain ⟨_, _, v1, v2, _⟩ := model_ok h.2.1
      have hs := impl_sortedSums_ev x y z t g r x' y' z' t' g' r' c t' ht' hl.1 hl.2 (fun m hm => by have := allIn_mem v1 m hm; omega)
      refine (ev_and h0 <| ev_one hs).ev fun k ⟨k1, k2⟩ => ?_
      simp only [impl_SortTable.f, k1, k2, Option.bind_some]
      have ef : sortTable x y z t g r x' y' z' t' g' r' c = (sortS c g g' t' (List.replicate 4 0), true) := by rw [sortTable, if_pos ⟨h, hc⟩]
      rw [if_pos (by simp only [h.1, h.2.1, Bool.true_and]; simp [h.2.2]), if_neg (by omega), if_neg (by omega), ef]
    · refine (ev_one h0).ev fun k k1 => ?_
      simp only [impl_SortTable.f, k1, Option.bind_some]
      have ef : sortTable x y z t g r x' y' z' t' g' r' c = ([], false) := by rw [sortTable, if_neg (fun q => hc q.2)]
      rw [if_pos (by simp only [h.1, h.2.1, Bool.true_and]; simp [h.2.2]), ef]
      by_cases h4 : c < 0
      · rw [if_pos h4]
      · rw [if_neg h4, if_pos (by omega)]
  · refine (ev_one h0).ev fun k k1 => ?_
    simp only [impl_SortTable.f, k1, Option.bind_some]
    rw [if_neg (by simpa using h), sortTable, if_neg (fun q => h q.1)]
-- needs: spec_WrongMetal
theorem impl_WrongMetal_l0 (x y z : Int) (t g r : List Int) (x' y' z' : Int) (t' g' r' : List Int) (c : Int) (hn : t'.length ≤ 1048576) (hl : g.length = t'.length) (hl' : g'.length = t'.length) (hv : allIn 0 10000 t' = true) (hv' : allIn 0 1000 g' = true) : ∀ (ts bs : List Int) (j : Nat) (acc : List Int), t'.drop j = ts → g'.drop j = bs → acc.length = j → acc ++ metals ts bs = metals t' g' →
    Ev (fun k => impl_WrongMetal.l0 k c acc t' (t'.length : Int) j x y z t g r x' y' z' t' g' r') (rd (sortS c g g' (metals t' g') (List.replicate 4 0)) 2, rd (sortS c g g' (metals t' g') (List.replicate 4 0)) 1, true)
  | [], bs, j, acc, hc, hb, ha, he => by
      have h0 := drop_nil hc
      have e : acc = metals t' g' := by rw [← he]; simp [metals]
      have hml := metals_length t' g' hl'.symm
      have hs := impl_sortedSums_ev x y z t g r x' y' z' t' g' r' c (metals t' g') (by omega) (by omega) (by omega) (metals_mem t' g' hv hv')
      have hsl := sortS_length c g g' (metals t' g') (List.replicate 4 0)
      simp only [List.length_replicate] at hsl
      refine (ev_one hs).next fun k k1 => ?_
      simp only [impl_WrongMetal.l0]
      rw [if_neg (by omega), e, k1, Option.bind_some, if_pos (by omega), if_pos (by omega)]
  | u :: ts, [], j, acc, hc, hb, ha, he => by
      have h0 := drop_nil hb; have h1 := (drop_cons hc).1; omega
  | u :: ts, b :: bs, j, acc, hc, hb, ha, he => by
      obtain ⟨b1, b2, b3⟩ := drop_cons hb
      obtain ⟨c1, c2, c3⟩ := drop_cons hc
      have eb := rd_drop hb
      have ec := rd_drop hc
      have hmb := metal_bd hv hv' (i := (j : Int)) (by omega) (by omega) (by omega)
      rw [ec, eb] at hmb
      refine Ev.next1 (impl_WrongMetal_l0 x y z t g r x' y' z' t' g' r' c hn hl hl' hv hv' ts bs (j + 1) (acc ++ [u * b]) c3 b3 (by simp [ha]) (by rw [List.append_assoc]; exact he)) fun k hk => ?_
      simp only [impl_WrongMetal.l0, ec, eb]
      rw [if_pos (by omega), if_pos (by omega), if_pos (by omega), if_pos (by omega), if_pos (by omega), wrap_succ c1 (by omega), wrap_id (x := u * b) (by omega) (by omega)]
      exact hk
theorem impl_WrongMetal_no (x y z : Int) (t g r : List Int) (x' y' z' : Int) (t' g' r' : List Int) (c : Int) : Ev (fun k => impl_WrongMetal.j0 k c true x y z t g r x' y' z' t' g' r') (0, 0, false) := Ev.next0 fun k => by simp [impl_WrongMetal.j0]
theorem impl_WrongMetal_ev (x y z : Int) (t g r : List Int) (x' y' z' : Int) (t' g' r' : List Int) (ht : t.length ≤ 1048576) (hg : g.length ≤ 1048576) (hr : r.length ≤ 1048576) (ht' : t'.length ≤ 1048576) (hg' : g'.length ≤ 1048576) (hr' : r'.length ≤ 1048576) (c : Int) : Ev (fun k => impl_WrongMetal.f k x y z t g r x' y' z' t' g' r' c) (wrongMetal x y z t g r x' y' z' t' g' r' c) := by
  have h0 := impl_areTwins_ev x y z t g r x' y' z' t' g' r' ht hg hr ht' hg' hr'
  have hn := impl_WrongMetal_no x y z t g r x' y' z' t' g' r' c
  by_cases h : modelOk x y z t g r = true ∧ modelOk x' y' z' t' g' r' = true ∧ x = x' ∧ y = y' ∧ z = z'
  · by_cases hc : 0 ≤ c ∧ c ≤ 1000
    · have hl := twin_len x y z t g r x' y' z' t' g' r' h.1 h.2.1 h.2.2
      obtain ⟨_, _, v1, v2, _⟩ := model_ok h.2.1
      have i0 := impl_WrongMetal_l0 x y z t g r x' y' z' t' g' r' c ht' hl.1 hl.2 v1 v2 t' g' 0 [] rfl rfl rfl rfl
      have i1 : Ev (fun k => impl_WrongMetal.j0 k c false x y z t g r x' y' z' t' g' r') (rd (sortS c g g' (metals t' g') (List.replicate 4 0)) 2, rd (sortS c g g' (metals t' g') (List.replicate 4 0)) 1, true) := Ev.next1 i0 fun k hk => by
        simp only [impl_WrongMetal.j0, Bool.false_eq_true, if_false]
        exact hk
      refine (ev_and h0 <| ev_one i1).ev fun k ⟨k1, k2⟩ => ?_
      simp only [impl_WrongMetal.f, k1, Option.bind_some]
      rw [if_pos (by simp only [h.1, h.2.1, Bool.true_and]; simp [h.2.2]), if_neg (by omega), show decide (c > 1000) = false by simp; omega, wrongMetal, if_pos ⟨h, hc⟩]; exact k2
    · refine (ev_and h0 <| ev_one hn).ev fun k ⟨k1, k2⟩ => ?_
      simp only [impl_WrongMetal.f, k1, Option.bind_some]
      have e2 : ¬ ((modelOk x y z t g r = true ∧ modelOk x' y' z' t' g' r' = true ∧ x = x' ∧ y = y' ∧ z = z') ∧ (0 ≤ c ∧ c ≤ 1000)) := fun q => hc q.2
      rw [if_pos (by simp only [h.1, h.2.1, Bool.true_and]; simp [h.2.2]), wrongMetal]
      by_cases h4 : c < 0
      · rw [if_pos h4, if_neg e2]; exact k2
      · rw [if_neg h4, show decide (c > 1000) = true by simp; omega, if_neg e2]; exact k2
  · refine (ev_and h0 <| ev_one hn).ev fun k ⟨k1, k2⟩ => ?_
    simp only [impl_WrongMetal.f, k1, Option.bind_some]
    rw [if_neg (by simpa using h), wrongMetal, if_neg (fun q => h q.1)]; exact k2
theorem spec_DrawScaleModel_some (l : List Int) (hl : ∀ x ∈ l, 0 ≤ x ∧ x ≤ 255) (hn : l.length ≤ 9223372036854775807) : ∃ x y z t g r p q, Ev (fun k => spec_DrawScaleModel.f k l) (x, y, z, t, g, r, p, q) ∧ (t.length ≤ 120 ∧ g.length ≤ 120 ∧ r.length ≤ 121) := by
  obtain ⟨x, y, z, t, g, r, p, s, e, g1, b1, b2⟩ := spec_l1Cur_anyModel_some l hl hn 0 0 (by omega) (by omega)
  obtain ⟨v, p2, s2, e2, b3⟩ := spec_l1Cur_among_some l hl hn p s (by omega) (by omega) [0, 1, 9, 10, 11, 100, 101, (-1)] (by simp)
  obtain ⟨w, p3, s3, e3, b4⟩ := spec_l1Cur_among_some l hl hn p2 s2 (by omega) (by omega) [1, 2, 10, 100, 101, 0] (by simp)
  refine ⟨x, y, z, t, g, r, v, w, Ev.of1 e fun k hk => ?_, g1⟩
  simp only [spec_DrawScaleModel.f, hk, e2, e3, Option.bind_some]
theorem impl_copyModel_eq (x y z : Int) (t g r : List Int) (ht : t.length ≤ 1048576) (hg : g.length ≤ 1048576) (hr : r.length ≤ 1048576) : impl_copyModel.f x y z t g r = some (x, y, z, t, g, r) := by
  simp only [impl_copyModel.f, Option.bind_some, List.length_nil, List.nil_append]
  rw [if_pos (by omega), if_pos (by omega), if_pos (by omega)]
-- needs: model_facts
def scaled (p q : Int) (g : List Int) : List Int := g.map fun v => min 1000 (v * p / q)
theorem scaled_get {p q : Int} {g : List Int} {i : Nat} {v : Int} (h : g[i]? = some v) : (scaled p q g)[i]? = some (min 1000 (v * p / q)) := by simp [scaled, h]
theorem scaled_length (p q : Int) (g : List Int) : (scaled p q g).length = g.length := by simp [scaled]
theorem scaled_bd {v p q : Int} (hv : 0 ≤ v ∧ v ≤ 1000) (hp : 0 ≤ p ∧ p ≤ 100) (hq : 1 ≤ q ∧ q ≤ 100) : 0 ≤ v * p ∧ v * p ≤ 100000 ∧ 0 ≤ v * p / q ∧ v * p / q ≤ 100000 := by
  have h1 : 0 ≤ v * p := Int.mul_nonneg hv.1 hp.1
  have h2 : v * p ≤ 1000 * 100 := Int.mul_le_mul hv.2 hp.2 hp.1 (by omega)
  have h3 : 0 ≤ v * p / q := Int.ediv_nonneg h1 (by omega)
  have h4 : v * p / q ≤ v * p := Int.ediv_le_self _ h1
  omega
abbrev ModelR := Int × Int × Int × List Int × List Int × List Int × Bool
def scaleRes (x y z : Int) (t g r : List Int) (p q : Int) : ModelR := if modelOk x y z t g r = true ∧ (0 ≤ p ∧ p ≤ 100) ∧ (1 ≤ q ∧ q ≤ 100) then (x, y, z, t, scaled p q g, r, true) else (0, 0, 0, [], [], [], false)
-- needs: scale_model
theorem scaleRes_len (x y z : Int) (t g r : List Int) (ht : t.length ≤ 1048576) (hg : g.length ≤ 1048576) (hr : r.length ≤ 1048576) (p q : Int) : (scaleRes x y z t g r p q).2.2.2.1.length ≤ 1048576 ∧ (scaleRes x y z t g r p q).2.2.2.2.1.length ≤ 1048576 ∧ (scaleRes x y z t g r p q).2.2.2.2.2.1.length ≤ 1048576 := by
  unfold scaleRes
  split
  · exact ⟨ht, by simp only [scaled_length]; exact hg, hr⟩
  · simp
-- needs: scale_model scale_len
theorem impl_ScaleModel_l0 (x y z : Int) (t g r : List Int) (p q : Int) (hn : g.length ≤ 1048576) (hv : allIn 0 1000 g = true) (hp : 0 ≤ p ∧ p ≤ 100) (hq : 1 ≤ q ∧ q ≤ 100) : ∀ (m i : Nat) (a : List Int), i + m = g.length → a.length = g.length → a.take i = (scaled p q g).take i →
    Ev (fun k => impl_ScaleModel.l0 k p q g (g.length : Int) i x y z t a r) (x, y, z, t, scaled p q g, r, true)
  | 0, i, a, h, ha, hi => Ev.next0 fun k => by
      have e : a = scaled p q g := copy_end (by rw [ha, scaled_length]) hi (by rw [scaled_length]; omega)
      simp only [impl_ScaleModel.l0]
      rw [if_neg (by omega), e]
  | m + 1, i, a, h, ha, hi => by
      have ew := wrap_succ (i := i) (n := g.length) (by omega) (by omega)
      have hgi : g[i]? = some (g[i]'(by omega)) := List.getElem?_eq_getElem (by omega)
      have ev := rd_get hgi
      have hb := scaled_bd (allIn_get hv hgi) hp hq
      have hs := scaled_get (p := p) (q := q) hgi
      rw [← ev] at hb hs
      obtain ⟨c1, c2⟩ := copy_step hs (by rw [ha, scaled_length]) hi
      rw [scaled_length] at c1
      have b0 : (i : Int) < (g.length : Int) := by omega
      have b1 : 0 ≤ (i : Int) := by omega
      have b3 : (i : Int) < (a.length : Int) := by omega
      refine Ev.next1 (impl_ScaleModel_l0 x y z t g r p q hn hv hp hq m (i + 1) (a.set i (min 1000 (rd g i * p / q))) (by omega) c1 c2) fun k hk => ?_
      simp only [impl_ScaleModel.l0]
      rw [if_pos b0, if_pos b1, if_pos b0, if_neg (by omega), wrap_id (x := rd g i * p) (by omega) (by omega), Int.tdiv_eq_ediv_of_nonneg hb.1, wrap_id (x := rd g i * p / q) (by omega) (by omega), if_pos b3, ew, toNat_cast, mn_eq]
      exact hk
theorem impl_ScaleModel_no (x y z : Int) (t g r : List Int) (p q : Int) : Ev (fun k => impl_ScaleModel.j0 k p q true x y z t g r) (0, 0, 0, [], [], [], false) := Ev.next0 fun k => by simp [impl_ScaleModel.j0]
theorem impl_ScaleModel_ev (x y z : Int) (t g r : List Int) (ht : t.length ≤ 1048576) (hg : g.length ≤ 1048576) (hr : r.length ≤ 1048576) (p q : Int) : Ev (fun k => impl_ScaleModel.f k x y z t g r p q) (scaleRes x y z t g r p q) := by
  have h0 := impl_IsModel_ev x y z t g r ht hg hr
  have hn := impl_ScaleModel_no x y z t g r p q
  by_cases h : modelOk x y z t g r = true
  · by_cases hp : 0 ≤ p ∧ p ≤ 100
    · by_cases hq : 1 ≤ q ∧ q ≤ 100
      · have ef : scaleRes x y z t g r p q = (x, y, z, t, scaled p q g, r, true) := by rw [scaleRes, if_pos ⟨h, hp, hq⟩]
        obtain ⟨_, _, _, v2, _⟩ := model_ok h
        have i1 : Ev (fun k => impl_ScaleModel.j0 k p q false x y z t g r) (x, y, z, t, scaled p q g, r, true) := Ev.next1 (impl_ScaleModel_l0 x y z t g r p q hg v2 hp hq g.length 0 g (by omega) rfl (by simp)) fun k hk => by
          simp only [impl_ScaleModel.j0, impl_copyModel_eq x y z t g r ht hg hr, Option.bind_some]
          rw [if_neg (by simp)]; exact hk
        refine (ev_and h0 <| ev_one i1).ev fun k ⟨k1, k2⟩ => ?_
        simp only [impl_ScaleModel.f, k1, Option.bind_some]
        rw [if_pos h, ef]
        rw [if_neg (by omega), if_neg (by omega), if_neg (by omega), show decide (q > 100) = false by simp; omega]; exact k2
      · have ef : scaleRes x y z t g r p q = (0, 0, 0, [], [], [], false) := by rw [scaleRes, if_neg (fun w => hq w.2.2)]
        refine (ev_and h0 <| ev_one hn).ev fun k ⟨k1, k2⟩ => ?_
        simp only [impl_ScaleModel.f, k1, Option.bind_some]
        rw [if_pos h, ef]
        rw [if_neg (by omega), if_neg (by omega)]
        by_cases h5 : q < 1
        · rw [if_pos h5]; exact k2
        · rw [if_neg h5, show decide (q > 100) = true by simp; omega]; exact k2
    · have ef : scaleRes x y z t g r p q = (0, 0, 0, [], [], [], false) := by rw [scaleRes, if_neg (fun w => hp w.2.1)]
      refine (ev_and h0 <| ev_one hn).ev fun k ⟨k1, k2⟩ => ?_
      simp only [impl_ScaleModel.f, k1, Option.bind_some]
      rw [if_pos h, ef]
      by_cases h5 : p < 0
      · rw [if_pos h5]; exact k2
      · rw [if_neg h5, if_pos (by omega)]; exact k2
  · have ef : scaleRes x y z t g r p q = (0, 0, 0, [], [], [], false) := by rw [scaleRes, if_neg (fun w => h w.1)]
    refine (ev_and h0 <| ev_one hn).ev fun k ⟨k1, k2⟩ => ?_
    simp only [impl_ScaleModel.f, k1, Option.bind_some]
    rw [if_neg h, ef]; exact k2
-- needs: scale_model
theorem spec_l1Least_eq (a b : Int) : spec_l1Least.f a b = some (min a b) := by
  unfold spec_l1Least.f; split <;> (congr 1; omega)
theorem spec_ScaleModel_l0 (x y z : Int) (t g r : List Int) (p q : Int) (hn : g.length ≤ 1048576) (hv : allIn 0 1000 g = true) (hp : 0 ≤ p ∧ p ≤ 100) (hq : 1 ≤ q ∧ q ≤ 100) : ∀ (m i : Nat) (a : List Int), i + m = g.length → a.length = g.length → a.take i = (scaled p q g).take i →
    Ev (fun k => spec_ScaleModel.l0 k p q g (g.length : Int) i x y z t a r) (x, y, z, t, scaled p q g, r, true)
  | 0, i, a, h, ha, hi => Ev.next0 fun k => by
      have e : a = scaled p q g := copy_end (by rw [ha, scaled_length]) hi (by rw [scaled_length]; omega)
      simp only [spec_ScaleModel.l0]
      rw [if_neg (by omega), e]
  | m + 1, i, a, h, ha, hi => by
      have ew := wrap_succ (i := i) (n := g.length) (by omega) (by omega)
      have hgi : g[i]? = some (g[i]'(by omega)) := List.getElem?_eq_getElem (by omega)
      have ev := rd_get hgi
      have hb := scaled_bd (allIn_get hv hgi) hp hq
      have hs := scaled_get (p := p) (q := q) hgi
      rw [← ev] at hb hs
      obtain ⟨c1, c2⟩ := copy_step hs (by rw [ha, scaled_length]) hi
      rw [scaled_length] at c1
      have b0 : (i : Int) < (g.length : Int) := by omega
      have b1 : 0 ≤ (i : Int) := by omega
      have b3 : (i : Int) < (a.length : Int) := by omega
      refine Ev.next1 (spec_ScaleModel_l0 x y z t g r p q hn hv hp hq m (i + 1) (a.set i (min 1000 (rd g i * p / q))) (by omega) c1 c2) fun k hk => ?_
      simp only [spec_ScaleModel.l0]
      rw [if_pos b0, if_pos b1, if_pos b0, if_neg (by omega), wrap_id (x := rd g i * p) (by omega) (by omega), Int.tdiv_eq_ediv_of_nonneg hb.1, wrap_id (x := rd g i * p / q) (by omega) (by omega), spec_l1Least_eq 1000 (rd g i * p / q), Option.bind_some, if_pos b3, ew, toNat_cast]
      exact hk
theorem spec_ScaleModel_no (x y z : Int) (t g r : List Int) (p q : Int) : Ev (fun k => spec_ScaleModel.j0 k p q true x y z t g r) (0, 0, 0, [], [], [], false) := Ev.next0 fun k => by simp [spec_ScaleModel.j0]
theorem spec_ScaleModel_ev (x y z : Int) (t g r : List Int) (ht : t.length ≤ 1048576) (hg : g.length ≤ 1048576) (hr : r.length ≤ 1048576) (p q : Int) : Ev (fun k => spec_ScaleModel.f k x y z t g r p q) (scaleRes x y z t g r p q) := by
  have h0 := spec_moGood_ev x y z t g r ht hg hr
  have hn := spec_ScaleModel_no x y z t g r p q
  by_cases h : modelOk x y z t g r = true
  · by_cases hp : 0 ≤ p ∧ p ≤ 100
    · by_cases hq : 1 ≤ q ∧ q ≤ 100
      · have ef : scaleRes x y z t g r p q = (x, y, z, t, scaled p q g, r, true) := by rw [scaleRes, if_pos ⟨h, hp, hq⟩]
        obtain ⟨_, _, _, v2, _⟩ := model_ok h
        have i1 : Ev (fun k => spec_ScaleModel.j0 k p q false x y z t g r) (x, y, z, t, scaled p q g, r, true) := Ev.next1 (spec_ScaleModel_l0 x y z t g r p q hg v2 hp hq g.length 0 g (by omega) rfl (by simp)) fun k hk => by
          simp only [spec_ScaleModel.j0, spec_moOwn_eq x y z t g r ht hg hr, Option.bind_some]
          rw [if_neg (by simp)]; exact hk
        refine (ev_and h0 <| ev_one i1).ev fun k ⟨k1, k2⟩ => ?_
        simp only [spec_ScaleModel.f, spec_l1In_eq, k1, Option.bind_some]
        rw [if_pos h, ef]
        rw [if_pos (by simp [hp]), show (!decide (1 ≤ q ∧ q ≤ 100)) = false by simp [hq]]; exact k2
      · have ef : scaleRes x y z t g r p q = (0, 0, 0, [], [], [], false) := by rw [scaleRes, if_neg (fun w => hq w.2.2)]
        refine (ev_and h0 <| ev_one hn).ev fun k ⟨k1, k2⟩ => ?_
        simp only [spec_ScaleModel.f, spec_l1In_eq, k1, Option.bind_some]
        rw [if_pos h, ef]
        rw [if_pos (by simp [hp]), show (!decide (1 ≤ q ∧ q ≤ 100)) = true by rw [decide_eq_false hq]; rfl]; exact k2
    · have ef : scaleRes x y z t g r p q = (0, 0, 0, [], [], [], false) := by rw [scaleRes, if_neg (fun w => hp w.2.1)]
      refine (ev_and h0 <| ev_one hn).ev fun k ⟨k1, k2⟩ => ?_
      simp only [spec_ScaleModel.f, spec_l1In_eq, k1, Option.bind_some]
      rw [if_pos h, ef]
      rw [if_neg (by simp; omega)]; exact k2
  · have ef : scaleRes x y z t g r p q = (0, 0, 0, [], [], [], false) := by rw [scaleRes, if_neg (fun w => h w.1)]
    refine (ev_and h0 <| ev_one hn).ev fun k ⟨k1, k2⟩ => ?_
    simp only [spec_ScaleModel.f, k1, Option.bind_some]
    rw [if_neg h, ef]; exact k2
theorem spec_DrawMixModels_some (l : List Int) (hl : ∀ x ∈ l, 0 ≤ x ∧ x ≤ 255) (hn : l.length ≤ 9223372036854775807) : ∃ x y z t g r x' y' z' t' g' r' c, Ev (fun k => spec_DrawMixModels.f k l) (x, y, z, t, g, r, x', y', z', t', g', r', c) ∧ (t.length ≤ 120 ∧ g.length ≤ 120 ∧ r.length ≤ 121) ∧ (t'.length ≤ 120 ∧ g'.length ≤ 120 ∧ r'.length ≤ 121) := by
  obtain ⟨x, y, z, t, g, r, x', y', z', t', g', r', p, s, e, g1, g2, b1, b2⟩ := spec_l1Cur_beside_some l hl hn 0 0 (by omega) (by omega)
  obtain ⟨v, p2, s2, e2, _, b3⟩ := spec_l1Cur_pick_some l hl hn p s (by omega) (by omega) 12
  obtain ⟨w, p3, s3, e3, _, b4⟩ := spec_l1Cur_pick_some l hl hn p2 s2 (by omega) (by omega) 20
  refine ⟨x, y, z, t, g, r, x', y', z', t', g', r', wrap64 (v - (wrap64 (Int.tdiv w 19))), Ev.of1 e fun k hk => ?_, g1, g2⟩
  simp only [spec_DrawMixModels.f, hk, e2, e3, Option.bind_some]
-- needs: model_facts scale_model
def mixAt (c : Int) (g g' : List Int) (i : Nat) : Int := (c * rd g (i : Int) + (10 - c) * rd g' (i : Int)) / 10
def mixed (c : Int) (g g' : List Int) : List Int := (List.range g.length).map fun i => mixAt c g g' i
theorem mixed_length (c : Int) (g g' : List Int) : (mixed c g g').length = g.length := by simp [mixed]
theorem mixed_get {c : Int} {g g' : List Int} {i : Nat} (h : i < g.length) : (mixed c g g')[i]? = some (mixAt c g g' i) := by simp [mixed, h]
theorem mix_bd {c v u : Int} (hc : 0 ≤ c ∧ c ≤ 10) (hv : 0 ≤ v ∧ v ≤ 1000) (hu : 0 ≤ u ∧ u ≤ 1000) : (0 ≤ c * v ∧ c * v ≤ 10000) ∧ (0 ≤ (10 - c) * u ∧ (10 - c) * u ≤ 10000) ∧ (0 ≤ (c * v + (10 - c) * u) / 10 ∧ (c * v + (10 - c) * u) / 10 ≤ 20000) := by
  have h1 : 0 ≤ c * v := Int.mul_nonneg hc.1 hv.1
  have h2 : c * v ≤ 10 * 1000 := Int.mul_le_mul hc.2 hv.2 hv.1 (by omega)
  have h3 : 0 ≤ (10 - c) * u := Int.mul_nonneg (by omega) hu.1
  have h4 : (10 - c) * u ≤ 10 * 1000 := Int.mul_le_mul (by omega) hu.2 hu.1 (by omega)
  generalize c * v = a at *
  generalize (10 - c) * u = b at *
  omega
def mixRes (x y z : Int) (t g r : List Int) (x' y' z' : Int) (t' g' r' : List Int) (c : Int) : ModelR := if (modelOk x y z t g r = true ∧ modelOk x' y' z' t' g' r' = true ∧ x = x' ∧ y = y' ∧ z = z') ∧ (0 ≤ c ∧ c ≤ 10) then (x, y, z, t, mixed c g g', r, true) else (0, 0, 0, [], [], [], false)
theorem mixRes_len (x y z : Int) (t g r : List Int) (x' y' z' : Int) (t' g' r' : List Int) (ht : t.length ≤ 1048576) (hg : g.length ≤ 1048576) (hr : r.length ≤ 1048576) (ht' : t'.length ≤ 1048576) (hg' : g'.length ≤ 1048576) (hr' : r'.length ≤ 1048576) (c : Int) : (mixRes x y z t g r x' y' z' t' g' r' c).2.2.2.1.length ≤ 1048576 ∧ (mixRes x y z t g r x' y' z' t' g' r' c).2.2.2.2.1.length ≤ 1048576 ∧ (mixRes x y z t g r x' y' z' t' g' r' c).2.2.2.2.2.1.length ≤ 1048576 := by
  unfold mixRes
  split
  · exact ⟨ht, by simp only [mixed_length]; exact hg, hr⟩
  · simp
theorem mix_len {x y z : Int} {t g r : List Int} {x' y' z' : Int} {t' g' r' : List Int} (h : modelOk x y z t g r = true ∧ modelOk x' y' z' t' g' r' = true ∧ x = x' ∧ y = y' ∧ z = z') : g'.length = g.length := by
  obtain ⟨_, l1, _⟩ := model_ok h.1
  obtain ⟨_, l2, _⟩ := model_ok h.2.1
  rw [← h.2.2.1, ← h.2.2.2.1, ← h.2.2.2.2] at l2
  generalize x * y * z = p at l1 l2
  omega
-- needs: mix_model
theorem impl_MixModels_l0 (x y z : Int) (t g r : List Int) (x' y' z' : Int) (t' g' r' : List Int) (c : Int) (hc : 0 ≤ c ∧ c ≤ 10) (hn : g.length ≤ 1048576) (hg' : g'.length = g.length) (hv : allIn 0 1000 g = true) (hu : allIn 0 1000 g' = true) : ∀ (m i : Nat) (a : List Int), i + m = g.length → a.length = g.length → a.take i = (mixed c g g').take i →
    Ev (fun k => impl_MixModels.l0 k c (g.length : Int) (i : Int) x y z t g r x' y' z' t' g' r' x y z t a r) (x, y, z, t, mixed c g g', r, true)
  | 0, i, a, h, ha, hi => Ev.next0 fun k => by
      have e : a = mixed c g g' := copy_end (by rw [ha, mixed_length]) hi (by rw [mixed_length]; omega)
      simp only [impl_MixModels.l0]
      rw [if_neg (by omega), e]
  | m + 1, i, a, h, ha, hi => by
      have ew := wrap_succ (i := i) (n := g.length) (by omega) (by omega)
      have hgi : g[i]? = some (g[i]'(by omega)) := List.getElem?_eq_getElem (by omega)
      have hui : g'[i]? = some (g'[i]'(by omega)) := List.getElem?_eq_getElem (by omega)
      have bv := allIn_get hv hgi
      have bu := allIn_get hu hui
      rw [← rd_get hgi] at bv
      rw [← rd_get hui] at bu
      have hb := mix_bd hc bv bu
      obtain ⟨c1, c2⟩ := copy_step (mixed_get (c := c) (g := g) (g' := g') (i := i) (by omega)) (by rw [ha, mixed_length]) hi
      rw [mixed_length] at c1
      have b0 : (i : Int) < (g.length : Int) := by omega
      have b1 : 0 ≤ (i : Int) := by omega
      have b2 : (i : Int) < (g'.length : Int) := by omega
      have b3 : (i : Int) < (a.length : Int) := by omega
      have e10 : wrap64 (10 - c) = 10 - c := wrap_id (by omega) (by omega)
      have em : wrap64 (Int.tdiv (wrap64 ((wrap64 (c * rd g (i : Int))) + (wrap64 ((10 - c) * rd g' (i : Int))))) 10) = mixAt c g g' i := by
        rw [wrap_id (x := c * rd g (i : Int)) (by omega) (by omega), wrap_id (x := (10 - c) * rd g' (i : Int)) (by omega) (by omega), wrap_id (x := c * rd g (i : Int) + (10 - c) * rd g' (i : Int)) (by omega) (by omega), Int.tdiv_eq_ediv_of_nonneg (by omega), wrap_id (by omega) (by omega), mixAt]
      refine Ev.next1 (impl_MixModels_l0 x y z t g r x' y' z' t' g' r' c hc hn hg' hv hu m (i + 1) (a.set i (mixAt c g g' i)) (by omega) c1 c2) fun k hk => ?_
      simp only [impl_MixModels.l0]
      rw [if_pos b0, if_pos b1, if_pos b0, if_pos b2, if_pos b3, e10, em, ew, toNat_cast]
      exact hk
theorem impl_MixModels_no (x y z : Int) (t g r : List Int) (x' y' z' : Int) (t' g' r' : List Int) (c : Int) : Ev (fun k => impl_MixModels.j0 k c true x y z t g r x' y' z' t' g' r') (0, 0, 0, [], [], [], false) := Ev.next0 fun k => by simp [impl_MixModels.j0]
theorem impl_MixModels_ev (x y z : Int) (t g r : List Int) (x' y' z' : Int) (t' g' r' : List Int) (ht : t.length ≤ 1048576) (hg : g.length ≤ 1048576) (hr : r.length ≤ 1048576) (ht' : t'.length ≤ 1048576) (hg' : g'.length ≤ 1048576) (hr' : r'.length ≤ 1048576) (c : Int) : Ev (fun k => impl_MixModels.f k x y z t g r x' y' z' t' g' r' c) (mixRes x y z t g r x' y' z' t' g' r' c) := by
  have h0 := impl_areTwins_ev x y z t g r x' y' z' t' g' r' ht hg hr ht' hg' hr'
  have hno := impl_MixModels_no x y z t g r x' y' z' t' g' r' c
  by_cases h : modelOk x y z t g r = true ∧ modelOk x' y' z' t' g' r' = true ∧ x = x' ∧ y = y' ∧ z = z'
  · have et : (modelOk x y z t g r && (modelOk x' y' z' t' g' r' && (x == x' && (y == y' && (z == z'))))) = true := by simp only [h.1, h.2.1, Bool.true_and]; simp [h.2.2]
    by_cases hc : 0 ≤ c ∧ c ≤ 10
    · have ef : mixRes x y z t g r x' y' z' t' g' r' c = (x, y, z, t, mixed c g g', r, true) := by rw [mixRes, if_pos ⟨h, hc⟩]
      obtain ⟨_, _, _, v2, _⟩ := model_ok h.1
      obtain ⟨_, _, _, u2, _⟩ := model_ok h.2.1
      have i1 : Ev (fun k => impl_MixModels.j0 k c false x y z t g r x' y' z' t' g' r') (x, y, z, t, mixed c g g', r, true) := Ev.next1 (impl_MixModels_l0 x y z t g r x' y' z' t' g' r' c hc hg (mix_len h) v2 u2 g.length 0 g (by omega) rfl (by simp)) fun k hk => by
        simp only [impl_MixModels.j0, impl_copyModel_eq x y z t g r ht hg hr, Option.bind_some]
        rw [if_neg (by simp)]; exact hk
      refine (ev_and h0 <| ev_one i1).ev fun k ⟨k1, k2⟩ => ?_
      simp only [impl_MixModels.f, k1, Option.bind_some]
      rw [if_pos et, ef]
      rw [if_neg (by omega), show decide (c > 10) = false by simp; omega]; exact k2
    · have ef : mixRes x y z t g r x' y' z' t' g' r' c = (0, 0, 0, [], [], [], false) := by rw [mixRes, if_neg (fun q => hc q.2)]
      refine (ev_and h0 <| ev_one hno).ev fun k ⟨k1, k2⟩ => ?_
      simp only [impl_MixModels.f, k1, Option.bind_some]
      rw [if_pos et, ef]
      by_cases h5 : c < 0
      · rw [if_pos h5]; exact k2
      · rw [if_neg h5, show decide (c > 10) = true by simp; omega]; exact k2
  · have ef : mixRes x y z t g r x' y' z' t' g' r' c = (0, 0, 0, [], [], [], false) := by rw [mixRes, if_neg (fun q => h q.1)]
    refine (ev_and h0 <| ev_one hno).ev fun k ⟨k1, k2⟩ => ?_
    simp only [impl_MixModels.f, k1, Option.bind_some]
    rw [if_neg (by simpa using h), ef]; exact k2
-- needs: mix_model
theorem spec_MixModels_l0 (x y z : Int) (t g r : List Int) (x' y' z' : Int) (t' g' r' : List Int) (c : Int) (hc : 0 ≤ c ∧ c ≤ 10) (hn : g.length ≤ 1048576) (hg' : g'.length = g.length) (hv : allIn 0 1000 g = true) (hu : allIn 0 1000 g' = true) : ∀ (m i : Nat) (a : List Int), i + m = g.length → a.length = g.length → a.take i = (mixed c g g').take i →
    Ev (fun k => spec_MixModels.l0 k c g (g.length : Int) (i : Int) x' y' z' t' g' r' x y z t a r) (x, y, z, t, mixed c g g', r, true)
  | 0, i, a, h, ha, hi => Ev.next0 fun k => by
      have e : a = mixed c g g' := copy_end (by rw [ha, mixed_length]) hi (by rw [mixed_length]; omega)
      simp only [spec_MixModels.l0]
      rw [if_neg (by omega), e]
  | m + 1, i, a, h, ha, hi => by
      have ew := wrap_succ (i := i) (n := g.length) (by omega) (by omega)
      have hgi : g[i]? = some (g[i]'(by omega)) := List.getElem?_eq_getElem (by omega)
      have hui : g'[i]? = some (g'[i]'(by omega)) := List.getElem?_eq_getElem (by omega)
      have bv := allIn_get hv hgi
      have bu := allIn_get hu hui
      rw [← rd_get hgi] at bv
      rw [← rd_get hui] at bu
      have hb := mix_bd hc bv bu
      obtain ⟨c1, c2⟩ := copy_step (mixed_get (c := c) (g := g) (g' := g') (i := i) (by omega)) (by rw [ha, mixed_length]) hi
      rw [mixed_length] at c1
      have b0 : (i : Int) < (g.length : Int) := by omega
      have b1 : 0 ≤ (i : Int) := by omega
      have b2 : (i : Int) < (g'.length : Int) := by omega
      have b3 : (i : Int) < (a.length : Int) := by omega
      have e10 : wrap64 (10 - c) = 10 - c := wrap_id (by omega) (by omega)
      have em : wrap64 (Int.tdiv (wrap64 ((wrap64 (c * rd g (i : Int))) + (wrap64 ((10 - c) * rd g' (i : Int))))) 10) = mixAt c g g' i := by
        rw [wrap_id (x := c * rd g (i : Int)) (by omega) (by omega), wrap_id (x := (10 - c) * rd g' (i : Int)) (by omega) (by omega), wrap_id (x := c * rd g (i : Int) + (10 - c) * rd g' (i : Int)) (by omega) (by omega), Int.tdiv_eq_ediv_of_nonneg (by omega), wrap_id (by omega) (by omega), mixAt]
      refine Ev.next1 (spec_MixModels_l0 x y z t g r x' y' z' t' g' r' c hc hn hg' hv hu m (i + 1) (a.set i (mixAt c g g' i)) (by omega) c1 c2) fun k hk => ?_
      simp only [spec_MixModels.l0]
      rw [if_pos b0, if_pos b1, if_pos b0, if_pos b2, if_pos b3, e10, em, ew, toNat_cast]
      exact hk
theorem spec_MixModels_no (x y z : Int) (t g r : List Int) (x' y' z' : Int) (t' g' r' : List Int) (c : Int) : Ev (fun k => spec_MixModels.j0 k c true x y z t g r x' y' z' t' g' r') (0, 0, 0, [], [], [], false) := Ev.next0 fun k => by simp [spec_MixModels.j0]
theorem spec_MixModels_ev (x y z : Int) (t g r : List Int) (x' y' z' : Int) (t' g' r' : List Int) (ht : t.length ≤ 1048576) (hg : g.length ≤ 1048576) (hr : r.length ≤ 1048576) (ht' : t'.length ≤ 1048576) (hg' : g'.length ≤ 1048576) (hr' : r'.length ≤ 1048576) (c : Int) : Ev (fun k => spec_MixModels.f k x y z t g r x' y' z' t' g' r' c) (mixRes x y z t g r x' y' z' t' g' r' c) := by
  have h0 := spec_rcBoth_ev x y z t g r x' y' z' t' g' r' ht hg hr ht' hg' hr'
  have hno := spec_MixModels_no x y z t g r x' y' z' t' g' r' c
  by_cases h : modelOk x y z t g r = true ∧ modelOk x' y' z' t' g' r' = true ∧ x = x' ∧ y = y' ∧ z = z'
  · have et : (modelOk x y z t g r && (modelOk x' y' z' t' g' r' && (x == x' && (y == y' && (z == z'))))) = true := by simp only [h.1, h.2.1, Bool.true_and]; simp [h.2.2]
    by_cases hc : 0 ≤ c ∧ c ≤ 10
    · have ef : mixRes x y z t g r x' y' z' t' g' r' c = (x, y, z, t, mixed c g g', r, true) := by rw [mixRes, if_pos ⟨h, hc⟩]
      obtain ⟨_, _, _, v2, _⟩ := model_ok h.1
      obtain ⟨_, _, _, u2, _⟩ := model_ok h.2.1
      have i1 : Ev (fun k => spec_MixModels.j0 k c false x y z t g r x' y' z' t' g' r') (x, y, z, t, mixed c g g', r, true) := Ev.next1 (spec_MixModels_l0 x y z t g r x' y' z' t' g' r' c hc hg (mix_len h) v2 u2 g.length 0 g (by omega) rfl (by simp)) fun k hk => by
        simp only [spec_MixModels.j0, spec_moOwn_eq x y z t g r ht hg hr, Option.bind_some]
        rw [if_neg (by simp)]; exact hk
      refine (ev_and h0 <| ev_one i1).ev fun k ⟨k1, k2⟩ => ?_
      simp only [spec_MixModels.f, spec_l1In_eq, k1, Option.bind_some]
      rw [if_pos et, ef]
      rw [show (!decide (0 ≤ c ∧ c ≤ 10)) = false by simp [hc]]; exact k2
    · have ef : mixRes x y z t g r x' y' z' t' g' r' c = (0, 0, 0, [], [], [], false) := by rw [mixRes, if_neg (fun q => hc q.2)]
      refine (ev_and h0 <| ev_one hno).ev fun k ⟨k1, k2⟩ => ?_
      simp only [spec_MixModels.f, spec_l1In_eq, k1, Option.bind_some]
      rw [if_pos et, ef]
      rw [show (!decide (0 ≤ c ∧ c ≤ 10)) = true by rw [decide_eq_false hc]; rfl]; exact k2
  · have ef : mixRes x y z t g r x' y' z' t' g' r' c = (0, 0, 0, [], [], [], false) := by rw [mixRes, if_neg (fun q => h q.1)]
    refine (ev_and h0 <| ev_one hno).ev fun k ⟨k1, k2⟩ => ?_
    simp only [spec_MixModels.f, k1, Option.bind_some]
    rw [if_neg (by simpa using h), ef]; exact k2
theorem laws_qInts_l0 (l : List Int) (hn : l.length ≤ 4611686018427387904) : ∀ (ys : List Int) (i : Nat), l.drop i = ys → Ev (fun k => laws_qInts.l0 k l l (l.length : Int) i) true
  | [], i, h => Ev.next0 fun k => by
      have h0 := drop_nil h
      simp only [laws_qInts.l0]
      rw [if_neg (by omega)]
  | y :: ys, i, h => by
      obtain ⟨h1, h2, h3⟩ := drop_cons h
      refine Ev.next1 (laws_qInts_l0 l hn ys (i + 1) h3) fun k hk => ?_
      simp only [laws_qInts.l0]
      rw [if_pos (by omega), if_pos (by omega), if_pos (by omega), if_pos (by omega), if_pos trivial, wrap_succ h1 (by omega)]
      exact hk
theorem laws_qInts_ev (l : List Int) (hn : l.length ≤ 4611686018427387904) : Ev (fun k => laws_qInts.f k l l) true :=
  Ev.of1 (laws_qInts_l0 l hn l 0 rfl) fun k hk => by
    simp only [laws_qInts.f]
    rw [if_pos trivial]
    exact hk
theorem laws_qModel_ev (x y z : Int) (t g r : List Int) (ht : t.length ≤ 1048576) (hg : g.length ≤ 1048576) (hr : r.length ≤ 1048576) : Ev (fun k => laws_qModel.f k x y z t g r x y z t g r) true :=
  (ev_and (laws_qInts_ev t (by omega)) <| ev_and (laws_qInts_ev g (by omega)) <| ev_one (laws_qInts_ev r (by omega))).ev fun k ⟨h1, h2, h3⟩ => by
    simp only [laws_qModel.f, h1, h2, h3, Option.bind_some]
    simp
theorem laws_qSum_l0 (l : List Int) (hn : l.length ≤ 1048576) : ∀ (ys : List Int) (i : Nat) (a : Int), l.drop i = ys → 0 ≤ a → a ≤ 1000000000000 * (i : Int) → (∀ v ∈ ys, 0 ≤ v ∧ v ≤ 1000000000000) → Ev (fun k => laws_qSum.l0 k a l (l.length : Int) i) (a + ys.sum)
  | [], i, a, h, h0, h1, hv => Ev.next0 fun k => by
      have h0 := drop_nil h
      simp only [laws_qSum.l0]
      rw [if_neg (by omega)]
      simp
  | y :: ys, i, a, h, h0, h1, hv => by
      obtain ⟨g1, g2, g3⟩ := drop_cons h
      have v := hv y (by simp)
      refine Ev.next1 (laws_qSum_l0 l hn ys (i + 1) (a + y) g3 (by omega) (by push_cast; omega) (fun z hz => hv z (by simp [hz]))) fun k hk => ?_
      simp only [laws_qSum.l0]
      rw [if_pos (by omega), if_pos (by omega), if_pos (by omega), rd_drop h, wrap_succ g1 (by omega), wrap_id (by omega) (by omega), hk]
      simp only [List.sum_cons]
      rw [Int.add_assoc]
theorem laws_qSum_ev (l : List Int) (hn : l.length ≤ 1048576) (hv : ∀ v ∈ l, 0 ≤ v ∧ v ≤ 1000000000000) : Ev (fun k => laws_qSum.f k l) l.sum :=
  Ev.of1 (laws_qSum_l0 l hn l 0 0 rfl (by omega) (by omega) hv) fun k hk => by
    simp only [laws_qSum.f]
    refine hk.trans ?_
    rw [Int.zero_add]
-- needs: model_facts wrong_model scale_model mix_model spec_rcKind sel_model
/-! What the law on sorted models says of tables, scaled and mixed grades. -/
theorem scaled_one {p : Int} (hp : 1 ≤ p) : ∀ {g : List Int}, allIn 0 1000 g = true → scaled p p g = g
  | [], _ => rfl
  | v :: g, h => by
    simp only [allIn, Bool.and_eq_true, decide_eq_true_eq] at h
    have e : v * p / p = v := Int.mul_ediv_cancel v (by omega)
    have ih := scaled_one hp h.2
    simp only [scaled] at ih
    simp only [scaled, List.map_cons, e, ih]
    rw [show min 1000 v = v by omega]
theorem scaled_le {p q v : Int} (h : p ≤ q) (hq : 1 ≤ q) (hv : 0 ≤ v) : min 1000 (v * p / q) ≤ v := by
  have h1 : v * p ≤ v * q := Int.mul_le_mul_of_nonneg_left h hv
  have h2 : v * p / q ≤ v * q / q := Int.ediv_le_ediv (by omega) h1
  rw [Int.mul_ediv_cancel v (by omega)] at h2
  omega
theorem scaled_ge {p q v : Int} (h : q ≤ p) (hq : 1 ≤ q) (hv : 0 ≤ v ∧ v ≤ 1000) : v ≤ min 1000 (v * p / q) := by
  have h1 : v * q ≤ v * p := Int.mul_le_mul_of_nonneg_left h hv.1
  have h2 : v * q / q ≤ v * p / q := Int.ediv_le_ediv (by omega) h1
  rw [Int.mul_ediv_cancel v (by omega)] at h2
  omega
theorem scaled_ok {p q : Int} (hp : 0 ≤ p) (hq : 1 ≤ q) : ∀ {g : List Int}, allIn 0 1000 g = true → allIn 0 1000 (scaled p q g) = true
  | [], _ => rfl
  | v :: g, h => by
    simp only [allIn, Bool.and_eq_true, decide_eq_true_eq] at h
    have h1 : 0 ≤ v * p := Int.mul_nonneg h.1.1 hp
    have h2 : 0 ≤ v * p / q := Int.ediv_nonneg h1 (by omega)
    have ih := scaled_ok hp hq h.2
    simp only [scaled] at ih
    simp only [scaled, List.map_cons, allIn, Bool.and_eq_true, decide_eq_true_eq]
    exact ⟨by omega, ih⟩
theorem model_put {x y z : Int} {t g r g' : List Int} (h : modelOk x y z t g r = true) (hl : g'.length = g.length) (ho : allIn 0 1000 g' = true) : modelOk x y z t g' r = true := by
  simp only [modelOk, Bool.and_eq_true, decide_eq_true_eq] at h ⊢
  exact ⟨⟨h.1.1, by omega⟩, h.2.1, ho, h.2.2.2⟩
theorem mix_between {c v u : Int} (hc : 0 ≤ c ∧ c ≤ 10) : min v u ≤ (c * v + (10 - c) * u) / 10 ∧ (c * v + (10 - c) * u) / 10 ≤ max v u := by
  have a1 : c * min v u ≤ c * v := Int.mul_le_mul_of_nonneg_left (by omega) hc.1
  have a2 : (10 - c) * min v u ≤ (10 - c) * u := Int.mul_le_mul_of_nonneg_left (by omega) (by omega)
  have b1 : c * v ≤ c * max v u := Int.mul_le_mul_of_nonneg_left (by omega) hc.1
  have b2 : (10 - c) * u ≤ (10 - c) * max v u := Int.mul_le_mul_of_nonneg_left (by omega) (by omega)
  have e1 : c * min v u + (10 - c) * min v u = 10 * min v u := by rw [← Int.add_mul]; congr 1; omega
  have e2 : c * max v u + (10 - c) * max v u = 10 * max v u := by rw [← Int.add_mul]; congr 1; omega
  omega
theorem mixed_ten {g g' : List Int} : mixed 10 g g' = g := by
  apply List.ext_getElem?
  intro i
  by_cases h : i < g.length
  · have hg : g[i]? = some g[i] := List.getElem?_eq_getElem h
    rw [mixed_get h, mixAt, rd_get hg, hg]
    congr 1
    omega
  · rw [List.getElem?_eq_none (by rw [mixed_length]; omega), List.getElem?_eq_none (by omega)]
theorem mixed_mem {c : Int} {g g' : List Int} (hc : 0 ≤ c ∧ c ≤ 10) (hl : g'.length = g.length) {i : Nat} {a b m : Int} (ha : g[i]? = some a) (hb : g'[i]? = some b) (hm : (mixed c g g')[i]? = some m) : min a b ≤ m ∧ m ≤ max a b := by
  obtain ⟨hi, _⟩ := List.getElem?_eq_some_iff.1 ha
  rw [mixed_get hi, mixAt, rd_get ha, rd_get hb] at hm
  have hm := Option.some.inj hm
  subst hm
  exact mix_between hc
theorem mixed_ok {c : Int} {g g' : List Int} (hc : 0 ≤ c ∧ c ≤ 10) (hl : g'.length = g.length) (h : allIn 0 1000 g = true) (h' : allIn 0 1000 g' = true) : allIn 0 1000 (mixed c g g') = true := by
  refine allIn_of fun m hm => ?_
  obtain ⟨i, hi⟩ := List.mem_iff_getElem?.1 hm
  have hlen : i < g.length := by have := (List.getElem?_eq_some_iff.1 hi).1; rw [mixed_length] at this; exact this
  have ha : g[i]? = some g[i] := List.getElem?_eq_getElem hlen
  have hb : g'[i]? = some (g'[i]'(by omega)) := List.getElem?_eq_getElem (by omega)
  have q := mixed_mem hc hl ha hb hi
  have qa := allIn_get h ha
  have qb := allIn_get h' hb
  omega
theorem sum_set : ∀ (S : List Int) (i : Nat) (v : Int), i < S.length → (S.set i (S.getD i 0 + v)).sum = S.sum + v
  | [], i, v, h => by simp at h
  | s :: S, 0, v, h => by simp; omega
  | s :: S, i + 1, v, h => by
    have ih := sum_set S i v (by simpa using h)
    simp only [List.set_cons_succ, List.sum_cons, List.getD_cons_succ]
    omega
theorem sortS_sum (c : Int) : ∀ us bs ms S : List Int, us.length = ms.length → bs.length = ms.length → S.length = 4 → (sortS c us bs ms S).sum = S.sum + ms.sum
  | [], bs, [], S, _, _, _ => by simp [sortS]
  | [], bs, _ :: _, S, h, _, _ => by simp at h
  | a :: us, bs, [], S, h, _, _ => by simp at h
  | a :: us, [], m :: ms, S, _, h, _ => by simp at h
  | a :: us, b :: bs, m :: ms, S, h, h', hS => by
    have k := kind_bd a b c
    have i : (kindOf a b c).toNat < S.length := by omega
    simp only [sortS]
    rw [sortS_sum c us bs ms _ (by simpa using h) (by simpa using h') (by simpa using hS)]
    have e : rd S (kindOf a b c) = S.getD (kindOf a b c).toNat 0 := rfl
    rw [e, sum_set S _ m i, List.sum_cons]
    omega
theorem sortS_nn (c : Int) : ∀ us bs ms S : List Int, (∀ m ∈ ms, 0 ≤ m) → S.length = 4 → (∀ v ∈ S, 0 ≤ v) → ∀ v ∈ sortS c us bs ms S, 0 ≤ v
  | [], _, _, S, _, _, h, v, hv => by simp only [sortS] at hv; exact h v hv
  | _ :: _, [], _, S, _, _, h, v, hv => by simp only [sortS] at hv; exact h v hv
  | _ :: _, _ :: _, [], S, _, _, h, v, hv => by simp only [sortS] at hv; exact h v hv
  | a :: us, b :: bs, m :: ms, S, hm, hS, h, v, hv => by
    have k := kind_bd a b c
    simp only [sortS] at hv
    refine sortS_nn c us bs ms _ (fun q hq => hm q (by simp [hq])) (by simpa using hS) (fun w hw => ?_) v hv
    rcases List.mem_or_eq_of_mem_set hw with hw | rfl
    · exact h w hw
    · have := h _ (rd_mem (S := S) k.1 (by omega)); have := hm m (by simp); omega
theorem kindOf_same (a c : Int) : kindOf a a c = 0 ∨ kindOf a a c = 3 := by
  unfold kindOf
  by_cases h : a ≥ c
  · rw [if_pos h, if_pos h]; exact .inl rfl
  · rw [if_neg h, if_neg h]; exact .inr rfl
/-- Where both grades are the same, no block is sorted wrongly. -/
theorem sortS_same (c : Int) : ∀ us ms S : List Int, S.length = 4 → rd (sortS c us us ms S) 1 = rd S 1 ∧ rd (sortS c us us ms S) 2 = rd S 2
  | [], _, S, _ => by simp [sortS]
  | _ :: _, [], S, _ => by simp [sortS]
  | a :: us, m :: ms, S, hS => by
    have ih := sortS_same c us ms (S.set (kindOf a a c).toNat (rd S (kindOf a a c) + m)) (by simpa using hS)
    have k := kindOf_same a c
    simp only [sortS]
    rw [ih.1, ih.2]
    rcases S with _ | ⟨s0, _ | ⟨s1, _ | ⟨s2, _ | ⟨s3, _ | ⟨s4, S⟩⟩⟩⟩⟩ <;> simp at hS
    rcases k with k | k <;> rw [k] <;> exact ⟨rfl, rfl⟩
/-- All indices of a list. -/
def allIx (n : Nat) : List Int := (List.range n).map fun (i : Nat) => (i : Int)
theorem sum_range (f : Nat → Int) (l : List Int) (h : ∀ i : Nat, ∀ v, l[i]? = some v → f i = v) : ((List.range l.length).map f).sum = l.sum := by
  congr 1
  apply List.ext_getElem?
  intro i
  by_cases hi : i < l.length
  · rw [List.getElem?_map, List.getElem?_range hi, Option.map_some, List.getElem?_eq_getElem hi, h i _ (List.getElem?_eq_getElem hi)]
  · rw [List.getElem?_eq_none (by simp; omega), List.getElem?_eq_none (by omega)]
theorem selT_map (t : List Int) : ∀ I : List Int, selT t I = (I.map fun q => rd t q).sum
  | [] => rfl
  | q :: qs => by simp only [selT, List.map_cons, List.sum_cons, selT_map t qs]
theorem selM_map (t g : List Int) : ∀ I : List Int, selM t g I = (I.map fun q => rd t q * rd g q).sum
  | [] => rfl
  | q :: qs => by simp only [selM, List.map_cons, List.sum_cons, selM_map t g qs]
theorem selT_all (t : List Int) : selT t (allIx t.length) = t.sum := by
  rw [selT_map, allIx, List.map_map]
  exact sum_range _ t fun i v h => rd_get h
theorem metals_get : ∀ (t g : List Int) (i : Nat) (v : Int), (metals t g)[i]? = some v → rd t (i : Int) * rd g (i : Int) = v
  | [], _, i, v, h => by simp [metals] at h
  | _ :: _, [], i, v, h => by simp [metals] at h
  | a :: t, b :: g, 0, v, h => by simpa [metals, rd] using h
  | a :: t, b :: g, i + 1, v, h => by
    have ih := metals_get t g i v (by simpa [metals] using h)
    have e : ∀ (x : Int) (l : List Int), rd (x :: l) ((i + 1 : Nat) : Int) = rd l (i : Int) := fun x l => by simp only [rd, Int.toNat_natCast, List.getD_cons_succ]
    rw [e, e]; exact ih
theorem selM_all (t g : List Int) (h : g.length = t.length) : selM t g (allIx t.length) = (metals t g).sum := by
  have l := metals_length t g (by omega)
  rw [selM_map, allIx, List.map_map, ← l]
  exact sum_range _ (metals t g) fun i v hv => metals_get t g i v hv
theorem allIx_length (n : Nat) : (allIx n).length = n := by simp [allIx]
theorem sum_four {S : List Int} (h : S.length = 4) (hn : ∀ v ∈ S, 0 ≤ v) : 0 ≤ rd S 1 ∧ 0 ≤ rd S 2 ∧ rd S 2 + rd S 1 ≤ S.sum := by
  rcases S with _ | ⟨s0, _ | ⟨s1, _ | ⟨s2, _ | ⟨s3, _ | ⟨s4, S⟩⟩⟩⟩⟩ <;> simp at h
  have h0 := hn s0 (by simp)
  have h1 := hn s1 (by simp)
  have h2 := hn s2 (by simp)
  have h3 := hn s3 (by simp)
  have e1 : rd [s0, s1, s2, s3] 1 = s1 := rfl
  have e2 : rd [s0, s1, s2, s3] 2 = s2 := rfl
  rw [e1, e2]
  simp only [List.sum_cons, List.sum_nil]
  omega
theorem wf_u8 {n : Int} (h : (Lit.int .u8 n).wf = true) : 0 ≤ n ∧ n ≤ 255 := by
  simp [Lit.wf, IntKind.min, IntKind.max, IntKind.signed, IntKind.bits] at h
  omega
-- needs: sorted_props laws_big
theorem rise_from (m : Int) : ∀ (n : Nat) (i : Nat) (p : Int), p < (i : Int) → ((i + n : Nat) : Int) ≤ m → rise m p ((List.range' i n).map fun (j : Nat) => (j : Int)) = true
  | 0, i, p, _, _ => by simp [rise]
  | n + 1, i, p, h, h2 => by
    simp only [List.range'_succ, List.map_cons, rise, Bool.and_eq_true, decide_eq_true_eq]
    exact ⟨by push_cast at h2; omega, rise_from m n (i + 1) (i : Int) (by omega) (by push_cast at h2 ⊢; omega)⟩
theorem rise_all (n : Nat) : rise (n : Int) (-1) (allIx n) = true := by
  unfold allIx
  rw [List.range_eq_range']
  exact rise_from (n : Int) n 0 (-1) (by omega) (by omega)
theorem allIx_succ (n : Nat) : allIx (n + 1) = allIx n ++ [(n : Int)] := by simp [allIx, List.range_succ]
theorem sums_all {x y z : Int} {t g r : List Int} (h : modelOk x y z t g r = true) : sumsRes x y z t g r (allIx t.length) = (t.sum, (metals t g).sum, true) := by
  obtain ⟨_, l, _⟩ := model_ok h
  rw [sumsRes, if_pos ⟨h, rise_all _⟩, selT_all, selM_all t g (by omega)]
theorem le_sum : ∀ {l : List Int}, (∀ v ∈ l, 0 ≤ v) → 0 ≤ l.sum ∧ ∀ v ∈ l, v ≤ l.sum
  | [], _ => by simp
  | a :: l, h => by
    have ih := le_sum (l := l) (fun v hv => h v (by simp [hv]))
    have ha := h a (by simp)
    simp only [List.sum_cons]
    refine ⟨by omega, fun v hv => ?_⟩
    rcases List.mem_cons.1 hv with rfl | hv
    · omega
    · have := ih.2 v hv; omega
theorem sum_le {m : Int} : ∀ {l : List Int}, (∀ v ∈ l, v ≤ m) → l.sum ≤ m * (l.length : Int)
  | [], _ => by simp
  | a :: l, h => by
    have ih := sum_le (m := m) (l := l) (fun v hv => h v (by simp [hv]))
    have ha := h a (by simp)
    simp only [List.sum_cons, List.length_cons]
    push_cast
    rw [Int.mul_add]
    omega
theorem metals_bd {t g : List Int} (ht : allIn 0 10000 t = true) (hg : allIn 0 1000 g = true) : ∀ v ∈ metals t g, 0 ≤ v ∧ v ≤ 10000000 := fun v hv => by
  obtain ⟨i, hi⟩ := List.mem_iff_getElem?.1 hv
  have e := metals_get t g i v hi
  have hl : i < t.length ∧ i < g.length := by
    have := (List.getElem?_eq_some_iff.1 hi).1
    clear e hi hv
    revert g i
    induction t with
    | nil => intro g _ i h; simp [metals] at h
    | cons a t ih =>
      intro g hg i h
      cases g with
      | nil => simp [metals] at h
      | cons b g =>
        simp only [allIn, Bool.and_eq_true] at ht hg
        cases i with
        | zero => simp
        | succ i => have := ih ht.2 hg.2 i (by simpa [metals] using h); simp; omega
  have a := allIn_get ht (List.getElem?_eq_getElem hl.1)
  have b := allIn_get hg (List.getElem?_eq_getElem hl.2)
  rw [← e, rd_get (List.getElem?_eq_getElem hl.1), rd_get (List.getElem?_eq_getElem hl.2)]
  exact ⟨Int.mul_nonneg a.1 b.1, Int.le_trans (Int.mul_le_mul a.2 b.2 b.1 (by omega)) (by omega)⟩
theorem laws_l2 (x y z : Int) (t g r : List Int) (c lost gained : Int) (S : List Int) (hn : t.length ≤ 1048576) (Q : Ev (fun k => laws_FnSorted.l2 k c S lost gained (allIx t.length) (t.length : Int) (t.length : Int) x y z t g r) true) :
    ∀ (d i : Nat), i + d = t.length → Ev (fun k => laws_FnSorted.l2 k c S lost gained (allIx i) (t.length : Int) (i : Int) x y z t g r) true
  | 0, i, h => by obtain rfl : i = t.length := by omega
                  exact Q
  | d + 1, i, h => by
    refine Ev.next1 (laws_l2 x y z t g r c lost gained S hn Q d (i + 1) (by omega)) fun k hk => ?_
    simp only [laws_FnSorted.l2]
    rw [if_pos (by omega), if_pos (by rw [allIx_length]; omega), wrap_succ (n := t.length) (by omega) (by omega), ← allIx_succ]
    exact hk
theorem laws_j5 (x y z : Int) (t g r : List Int) (x' y' z' : Int) (t' g' r' : List Int) (ht : t.length ≤ 1048576) (hg : g.length ≤ 1048576) (hr : r.length ≤ 1048576) (ht' : t'.length ≤ 1048576) (hg' : g'.length ≤ 1048576) (hr' : r'.length ≤ 1048576) (c : Int) :
    Ev (fun k => laws_FnSorted.j5 k c (sortTable x y z t g r x' y' z' t' g' r' c).2 (sortTable x y z t g r x' y' z' t' g' r' c).1 (wrongMetal x y z t g r x' y' z' t' g' r' c).1 (wrongMetal x y z t g r x' y' z' t' g' r' c).2.1 x' y' z' t' g' r') true := by
  by_cases h : (modelOk x y z t g r = true ∧ modelOk x' y' z' t' g' r' = true ∧ x = x' ∧ y = y' ∧ z = z') ∧ (0 ≤ c ∧ c ≤ 1000)
  · obtain ⟨h1, h2, h3⟩ := h.1
    obtain ⟨_, l1, a1, a2, a3⟩ := model_ok h1
    obtain ⟨gb, l2, b1, b2, b3⟩ := model_ok h2
    have gb := (grid_ok gb).2.2.2.2.2
    have tl : t'.length ≤ 120 := by generalize x' * y' * z' = p at l2 gb; omega
    obtain ⟨g1, g2⟩ := twin_lens x y z t g r x' y' z' t' g' r' h1 h2 h3
    have ml := metals_length t' g' (by omega)
    have nn : ∀ v ∈ sortS c g g' t' (List.replicate 4 0), 0 ≤ v := sortS_nn c g g' t' _ (fun m hm => (allIn_mem b1 m hm).1) (by simp) (fun v hv => by simp at hv; omega)
    have sm : (sortS c g g' t' (List.replicate 4 0)).sum = t'.sum := by rw [sortS_sum c g g' t' _ (by omega) (by omega) (by simp)]; simp
    have tb : t'.sum ≤ 10000 * (t'.length : Int) := sum_le fun v hv => (allIn_mem b1 v hv).2
    have ls := le_sum nn
    have mb := metals_bd b1 b2
    have mn : ∀ v ∈ sortS c g g' (metals t' g') (List.replicate 4 0), 0 ≤ v := sortS_nn c g g' _ _ (fun m hm => (mb m hm).1) (by simp) (fun v hv => by simp at hv; omega)
    have msm : (sortS c g g' (metals t' g') (List.replicate 4 0)).sum = (metals t' g').sum := by rw [sortS_sum c g g' _ _ (by omega) (by omega) (by simp)]; simp
    have mtb : (metals t' g').sum ≤ 10000000 * ((metals t' g').length : Int) := sum_le fun v hv => (mb v hv).2
    have f4 := sum_four (by rw [sortS_length]; simp) mn
    rw [msm] at f4
    have s0 := sortS_same c g' t' (List.replicate 4 0) (by simp)
    have hc : (modelOk x' y' z' t' g' r' = true ∧ modelOk x' y' z' t' g' r' = true ∧ x' = x' ∧ y' = y' ∧ z' = z') ∧ (0 ≤ c ∧ c ≤ 1000) := ⟨⟨h2, h2, rfl, rfl, rfl⟩, h.2⟩
    have e1 := impl_SortTable_ev x' y' z' t' g' r' x' y' z' t' g' r' ht' hg' hr' ht' hg' hr' c
    have e2 := spec_SortTable_ev x' y' z' t' g' r' x' y' z' t' g' r' ht' hg' hr' ht' hg' hr' c
    have e3 := impl_SumsOf_ev x' y' z' t' g' r' ht' hg' hr' (allIx t'.length) (by rw [allIx_length]; exact ht')
    have e4 := laws_qSum_ev (sortS c g g' t' (List.replicate 4 0)) (by rw [sortS_length]; simp) (fun v hv => by have := nn v hv; have := ls.2 v hv; omega)
    have e5 := laws_qInts_ev (sortS c g' g' t' (List.replicate 4 0)) (by rw [sortS_length]; simp)
    rw [sums_all h2] at e3
    rw [sortTable, if_pos hc] at e1 e2
    rw [sm] at e4
    rw [sortTable, if_pos h, wrongMetal, if_pos h]
    generalize hT : sortS c g g' t' (List.replicate 4 0) = T at *
    generalize hU : sortS c g' g' t' (List.replicate 4 0) = U at *
    have Ul : U.length = 4 := by rw [← hU, sortS_length]; simp
    generalize hG : rd (sortS c g g' (metals t' g') (List.replicate 4 0)) 1 = G at *
    generalize hL : rd (sortS c g g' (metals t' g') (List.replicate 4 0)) 2 = L at *
    have Q : Ev (fun k => laws_FnSorted.l2 k c T L G (allIx t'.length) (t'.length : Int) (t'.length : Int) x' y' z' t' g' r') true := by
      refine (ev_and e1 <| ev_and e2 <| ev_and e3 <| ev_and e4 <| ev_one e5).next fun k ⟨h1, h2, h3, h4, h5⟩ => ?_
      simp only [laws_FnSorted.l2, h1, h2, h3, h4, h5, Option.bind_some]
      rw [if_neg (by omega), if_pos trivial, if_pos trivial, if_pos (by rw [wrap_id (by omega) (by omega)]; omega), if_pos trivial, if_pos trivial, if_pos trivial, if_pos (by omega), s0.1, if_pos (by decide), if_pos (by omega), s0.2]
      rfl
    refine Ev.next1 (laws_l2 x' y' z' t' g' r' c L G T ht' Q t'.length 0 (by omega)) fun k hk => ?_
    simp only [laws_FnSorted.j5]
    rw [if_pos trivial]
    exact hk
  · rw [sortTable, if_neg h]
    exact Ev.next0 fun k => by
      simp only [laws_FnSorted.j5]
      rw [if_neg (by simp)]
section
variable (c : Int) (ok : Bool) (S : List Int) (lost gained : Int) (bx b1 bz : Int) (bt bg br : List Int) (Q : Ev (fun k => laws_FnSorted.j5 k c ok S lost gained bx b1 bz bt bg br) true) (w : Int) (x y z : Int) (t g r : List Int) (x' y' z' : Int) (t' g' r' : List Int)
theorem laws_l1 (Q : Ev (fun k => laws_FnSorted.j5 k c ok S lost gained bx b1 bz bt bg br) true) (h : (modelOk x y z t g r = true ∧ modelOk x' y' z' t' g' r' = true ∧ x = x' ∧ y = y' ∧ z = z') ∧ (0 ≤ w ∧ w ≤ 10)) (ht : t.length ≤ 1048576) (hg : g.length ≤ 1048576) (hr : r.length ≤ 1048576) : ∀ (ys : List Int) (i : Nat), (mixed w g g').drop i = ys →
    Ev (fun k => laws_FnSorted.l1 k c ok S lost gained w (mixed w g g') ((mixed w g g').length : Int) (i : Int) bx b1 bz bt bg br x y z t g r x' y' z' t' g' r' x y z t (mixed w g g') r x y z t (mixed w g g') r) true
  | [], i, hd => by
    have h0 := drop_nil hd
    obtain ⟨_, l1, a1, a2, a3⟩ := model_ok h.1.1
    obtain ⟨_, l2, c1, c2, c3⟩ := model_ok h.1.2.1
    have gl := mix_len h.1
    have ml := mixed_length (c := w) (g := g) (g' := g')
    have mo := model_put h.1.1 (g' := mixed w g g') (by omega) (mixed_ok h.2 gl a2 c2)
    have e1 := impl_IsModel_ev x y z t (mixed w g g') r ht (by omega) hr
    rw [mo] at e1
    by_cases w10 : w = 10
    · have e2 := laws_qModel_ev x y z t g r ht hg hr
      refine (ev_and e1 <| ev_and e2 <| ev_one Q).next fun k ⟨h1, h2, h3⟩ => ?_
      simp only [laws_FnSorted.l1]
      rw [if_neg (by omega), if_pos w10, h1]
      rw [w10, mixed_ten, h2, Option.bind_some, if_pos rfl, Option.bind_some, if_pos rfl]
      exact h3
    · refine (ev_and e1 <| ev_one Q).next fun k ⟨h1, h3⟩ => ?_
      simp only [laws_FnSorted.l1, h1, Option.bind_some]
      rw [if_neg (by omega), if_neg w10, if_pos trivial]
      exact h3
  | m :: ys, i, hd => by
    obtain ⟨d1, d2, d3⟩ := drop_cons hd
    have gl := mix_len h.1
    have ml := mixed_length (c := w) (g := g) (g' := g')
    have ga : g[i]? = some (g[i]'(by omega)) := List.getElem?_eq_getElem (by omega)
    have gb : g'[i]? = some (g'[i]'(by omega)) := List.getElem?_eq_getElem (by omega)
    have q := mixed_mem h.2 gl ga gb d2
    rw [← rd_get ga, ← rd_get gb, ← rd_get d2] at q
    refine Ev.next1 (laws_l1 Q h ht hg hr ys (i + 1) d3) fun k hk => ?_
    simp only [laws_FnSorted.l1]
    rw [if_pos (by omega), if_pos (by omega), if_pos (by omega), if_pos (by omega), if_pos (by omega), wrap_succ (n := (mixed w g g').length) (by omega) (by omega)]
    by_cases e : rd g (i : Int) > rd g' (i : Int)
    · rw [if_pos e, if_neg (by omega), if_neg (by omega)]; exact hk
    · rw [if_neg e, if_neg (by omega), if_neg (by omega)]; exact hk
theorem laws_j3 (Q : Ev (fun k => laws_FnSorted.j5 k c ok S lost gained bx b1 bz bt bg br) true) (ht : t.length ≤ 1048576) (hg : g.length ≤ 1048576) (hr : r.length ≤ 1048576) :
    Ev (fun k => laws_FnSorted.j3 k c ok S lost gained w (mixRes x y z t g r x' y' z' t' g' r' w).2.2.2.2.2.2 bx b1 bz bt bg br x y z t g r x' y' z' t' g' r'
      (mixRes x y z t g r x' y' z' t' g' r' w).1 (mixRes x y z t g r x' y' z' t' g' r' w).2.1 (mixRes x y z t g r x' y' z' t' g' r' w).2.2.1 (mixRes x y z t g r x' y' z' t' g' r' w).2.2.2.1 (mixRes x y z t g r x' y' z' t' g' r' w).2.2.2.2.1 (mixRes x y z t g r x' y' z' t' g' r' w).2.2.2.2.2.1
      (mixRes x y z t g r x' y' z' t' g' r' w).1 (mixRes x y z t g r x' y' z' t' g' r' w).2.1 (mixRes x y z t g r x' y' z' t' g' r' w).2.2.1 (mixRes x y z t g r x' y' z' t' g' r' w).2.2.2.1 (mixRes x y z t g r x' y' z' t' g' r' w).2.2.2.2.1 (mixRes x y z t g r x' y' z' t' g' r' w).2.2.2.2.2.1) true := by
  unfold mixRes
  split
  · next h =>
    refine Ev.next1 (laws_l1 c ok S lost gained bx b1 bz bt bg br w x y z t g r x' y' z' t' g' r' Q h ht hg hr (mixed w g g') 0 rfl) fun k hk => ?_
    simp only [laws_FnSorted.j3]
    rw [if_pos trivial]
    exact hk
  · next h =>
    refine Ev.next1 Q fun k hk => ?_
    simp only [laws_FnSorted.j3]
    rw [if_neg (by simp)]
    exact hk
variable (p q : Int) (mx_ my_ mz : Int) (mt mg mr : List Int) (five : Bool) (yx yy yz : Int) (yt yg yr : List Int)
theorem laws_l0 (R : Ev (fun k => laws_FnSorted.j3 k c ok S lost gained w five bx b1 bz bt bg br x y z t g r x' y' z' t' g' r' yx yy yz yt yg yr yx yy yz yt yg yr) true) (hp : 0 ≤ p) (hq : 1 ≤ q) (hb : allIn 0 1000 mg = true) (hl : mg.length ≤ 1048576) : ∀ (ys : List Int) (i : Nat), (scaled p q mg).drop i = ys →
    Ev (fun k => laws_FnSorted.l0 k c ok S lost gained p q w five (scaled p q mg) ((scaled p q mg).length : Int) (i : Int) bx b1 bz bt bg br mx_ my_ mz mt mg mr x y z t g r x' y' z' t' g' r' yx yy yz yt yg yr yx yy yz yt yg yr) true
  | [], i, hd => by
    have h0 := drop_nil hd
    refine Ev.next1 R fun k hk => ?_
    simp only [laws_FnSorted.l0]
    rw [if_neg (by omega)]
    exact hk
  | m :: ys, i, hd => by
    obtain ⟨d1, d2, d3⟩ := drop_cons hd
    have sl := scaled_length p q mg
    have ga : mg[i]? = some (mg[i]'(by omega)) := List.getElem?_eq_getElem (by omega)
    have ab := allIn_get hb ga
    have e : m = min 1000 (mg[i]'(by omega) * p / q) := by have := scaled_get (p := p) (q := q) ga; rw [d2] at this; exact Option.some.inj this
    have k1 : p ≤ q → m ≤ mg[i]'(by omega) := fun h => by rw [e]; exact scaled_le h hq ab.1
    have k2 : q ≤ p → mg[i]'(by omega) ≤ m := fun h => by rw [e]; exact scaled_ge h hq ab
    rw [← rd_get ga, ← rd_get d2] at k1 k2
    refine Ev.next1 (laws_l0 R hp hq hb hl ys (i + 1) d3) fun k hk => ?_
    simp only [laws_FnSorted.l0]
    rw [if_pos (by omega), if_pos (by omega), if_pos (by omega), wrap_succ (n := (scaled p q mg).length) (by omega) (by omega)]
    by_cases c1 : p ≤ q
    · rw [if_pos c1, if_pos (by omega), if_neg (by have := k1 c1; omega)]
      by_cases c2 : p ≥ q
      · rw [if_pos c2, if_neg (by have := k2 c2; omega)]; exact hk
      · rw [if_neg c2]; exact hk
    · rw [if_neg c1, if_pos (by omega), if_pos (by omega), if_neg (by have := k2 (by omega); omega)]; exact hk
theorem laws_j0 (R : Ev (fun k => laws_FnSorted.j3 k c ok S lost gained w five bx b1 bz bt bg br x y z t g r x' y' z' t' g' r' yx yy yz yt yg yr yx yy yz yt yg yr) true) (ht : mt.length ≤ 1048576) (hg : mg.length ≤ 1048576) (hr : mr.length ≤ 1048576) :
    Ev (fun k => laws_FnSorted.j0 k c ok S lost gained p q (scaleRes mx_ my_ mz mt mg mr p q).2.2.2.2.2.2 w five false bx b1 bz bt bg br mx_ my_ mz mt mg mr
      (scaleRes mx_ my_ mz mt mg mr p q).1 (scaleRes mx_ my_ mz mt mg mr p q).2.1 (scaleRes mx_ my_ mz mt mg mr p q).2.2.1 (scaleRes mx_ my_ mz mt mg mr p q).2.2.2.1 (scaleRes mx_ my_ mz mt mg mr p q).2.2.2.2.1 (scaleRes mx_ my_ mz mt mg mr p q).2.2.2.2.2.1
      (scaleRes mx_ my_ mz mt mg mr p q).1 (scaleRes mx_ my_ mz mt mg mr p q).2.1 (scaleRes mx_ my_ mz mt mg mr p q).2.2.1 (scaleRes mx_ my_ mz mt mg mr p q).2.2.2.1 (scaleRes mx_ my_ mz mt mg mr p q).2.2.2.2.1 (scaleRes mx_ my_ mz mt mg mr p q).2.2.2.2.2.1
      x y z t g r x' y' z' t' g' r' yx yy yz yt yg yr yx yy yz yt yg yr) true := by
  unfold scaleRes
  split
  · next h =>
    obtain ⟨_, l1, a1, a2, a3⟩ := model_ok h.1
    have sl := scaled_length p q mg
    have e0 := laws_l0 c ok S lost gained bx b1 bz bt bg br w x y z t g r x' y' z' t' g' r' p q mx_ my_ mz mt mg mr five yx yy yz yt yg yr R (by omega) (by omega) a2 hg (scaled p q mg) 0 rfl
    have ej : Ev (fun k => laws_FnSorted.j1 k c ok S lost gained p q w five false bx b1 bz bt bg br mx_ my_ mz mt mg mr mx_ my_ mz mt (scaled p q mg) mr x y z t g r x' y' z' t' g' r' yx yy yz yt yg yr yx yy yz yt yg yr) true := Ev.next1 e0 fun k hk => by
      simp only [laws_FnSorted.j1]
      rw [if_neg (by simp)]
      exact hk
    have mo := model_put h.1 (g' := scaled p q mg) (by omega) (scaled_ok h.2.1.1 (by omega) a2)
    have e1 := impl_IsModel_ev mx_ my_ mz mt (scaled p q mg) mr ht (by omega) hr
    rw [mo] at e1
    by_cases pq : p = q
    · have e2 := laws_qModel_ev mx_ my_ mz mt mg mr ht hg hr
      have es : scaled p q mg = mg := by rw [pq]; exact scaled_one (by omega) a2
      refine (ev_and e1 <| ev_and e2 <| ev_one ej).next fun k ⟨h1, h2, h3⟩ => ?_
      simp only [laws_FnSorted.j0]
      rw [if_neg (by simp), if_pos trivial, h1, Option.bind_some, if_pos rfl, if_pos pq]
      rw [es] at h3 ⊢
      rw [h2, Option.bind_some]
      exact h3
    · refine (ev_and e1 <| ev_one ej).next fun k ⟨h1, h3⟩ => ?_
      simp only [laws_FnSorted.j0]
      rw [if_neg (by simp), if_pos trivial, h1, Option.bind_some, if_pos rfl, if_neg pq]
      exact h3
  · next h =>
    refine Ev.next1 R fun k hk => ?_
    simp only [laws_FnSorted.j0]
    rw [if_neg (by simp), if_neg (by simp)]
    exact hk
end
theorem wrong_sort (x y z : Int) (t g r : List Int) (x' y' z' : Int) (t' g' r' : List Int) (c : Int) : (wrongMetal x y z t g r x' y' z' t' g' r' c).2.2 = (sortTable x y z t g r x' y' z' t' g' r' c).2 := by
  unfold wrongMetal sortTable
  split <;> rfl
theorem FnSorted : Stat.FnSorted := by
  intro l0 l1 h0 h1
  refine Ev.rounds ?_
  by_cases hb : wrap64 ((l0.length : Int) + (l1.length : Int)) > 1048576
  · refine Ev.all fun k => ?_
    simp only [laws_FnSorted.f]
    rw [if_pos hb]
  have H0 : ∀ x ∈ l0, 0 ≤ x ∧ x ≤ 255 := fun x hx => wf_u8 (h0.2 x hx)
  have H1 : ∀ x ∈ l1, 0 ≤ x ∧ x ≤ 255 := fun x hx => wf_u8 (h1.2 x hx)
  obtain ⟨x, y, z, t, g, r, x', y', z', t', g', r', c, d1, m1, m2⟩ := spec_DrawSortTable_some l0 H0 h0.1
  obtain ⟨sx, sy, sz, st, sg, sr, p, q, d2, m3⟩ := spec_DrawScaleModel_some l1 H1 h1.1
  obtain ⟨ux, uy, uz, ut, ug, ur, vx, vy, vz, vt, vg, vr, w, d3, m4, m5⟩ := spec_DrawMixModels_some l1 H1 h1.1
  have T1 := impl_SortTable_ev x y z t g r x' y' z' t' g' r' (by omega) (by omega) (by omega) (by omega) (by omega) (by omega) c
  have T2 := spec_SortTable_ev x y z t g r x' y' z' t' g' r' (by omega) (by omega) (by omega) (by omega) (by omega) (by omega) c
  have W1 := impl_WrongMetal_ev x y z t g r x' y' z' t' g' r' (by omega) (by omega) (by omega) (by omega) (by omega) (by omega) c
  have W2 := spec_WrongMetal_ev x y z t g r x' y' z' t' g' r' (by omega) (by omega) (by omega) (by omega) (by omega) (by omega) c
  have X1 := impl_ScaleModel_ev sx sy sz st sg sr (by omega) (by omega) (by omega) p q
  have X2 := spec_ScaleModel_ev sx sy sz st sg sr (by omega) (by omega) (by omega) p q
  have Y1 := impl_MixModels_ev ux uy uz ut ug ur vx vy vz vt vg vr (by omega) (by omega) (by omega) (by omega) (by omega) (by omega) w
  have Y2 := spec_MixModels_ev ux uy uz ut ug ur vx vy vz vt vg vr (by omega) (by omega) (by omega) (by omega) (by omega) (by omega) w
  have J5 := laws_j5 x y z t g r x' y' z' t' g' r' (by omega) (by omega) (by omega) (by omega) (by omega) (by omega) c
  have tl := sortTable_len x y z t g r x' y' z' t' g' r' (by omega) (by omega) (by omega) (by omega) (by omega) (by omega) c
  have yl := mixRes_len ux uy uz ut ug ur vx vy vz vt vg vr (by omega) (by omega) (by omega) (by omega) (by omega) (by omega) w
  have xl := scaleRes_len sx sy sz st sg sr (by omega) (by omega) (by omega) p q
  have ws := wrong_sort x y z t g r x' y' z' t' g' r' c
  have J3 := laws_j3 c _ _ _ _ x' y' z' t' g' r' w ux uy uz ut ug ur vx vy vz vt vg vr J5 (by omega) (by omega) (by omega)
  have J0 := laws_j0 c _ _ _ _ x' y' z' t' g' r' w ux uy uz ut ug ur vx vy vz vt vg vr p q sx sy sz st sg sr _ _ _ _ _ _ _ J3 (by omega) (by omega) (by omega)
  generalize hT : sortTable x y z t g r x' y' z' t' g' r' c = T at *
  generalize hW : wrongMetal x y z t g r x' y' z' t' g' r' c = W at *
  generalize hX : scaleRes sx sy sz st sg sr p q = X at *
  generalize hY : mixRes ux uy uz ut ug ur vx vy vz vt vg vr w = Y at *
  refine (ev_and d1 <| ev_and d2 <| ev_and d3 <| ev_and T1 <| ev_and T2 <| ev_and W1 <| ev_and W2 <| ev_and X1 <| ev_and X2 <| ev_and Y1 <| ev_and Y2 <| ev_and (laws_qInts_ev T.1 (by omega)) <| ev_and (laws_qModel_ev X.1 X.2.1 X.2.2.1 X.2.2.2.1 X.2.2.2.2.1 X.2.2.2.2.2.1 (by omega) (by omega) (by omega)) <| ev_and (laws_qModel_ev Y.1 Y.2.1 Y.2.2.1 Y.2.2.2.1 Y.2.2.2.2.1 Y.2.2.2.2.2.1 (by omega) (by omega) (by omega)) <| ev_one J0).ev fun k ⟨e1, e2, e3, e4, e5, e6, e7, e8, e9, e10, e11, e12, e13, e14, e15⟩ => ?_
  simp only [laws_FnSorted.f, e1, e2, e3, e4, e5, e6, e7, e8, e9, e10, e11, e12, e13, e14, Option.bind_some]
  rw [if_neg hb, if_neg (by simp), if_pos trivial, if_neg (by simp), if_pos trivial, if_pos trivial, if_neg (by simp), if_pos trivial, if_neg (by simp), if_pos trivial, ws, bne_self_eq_false]
  exact e15
end Go.Proofs.Ytfakhgopbhnocaa.PureFnSorted
namespace Go.Proofs.Ytfakhgopbhnocaa.Pure
theorem FnSorted : Stat.FnSorted := PureFnSorted.FnSorted
end Go.Proofs.Ytfakhgopbhnocaa.Pure
