/- The law FnShifts over numbers and lists: it is true of every input. -/
import Derived.Test.YtccpgcgaaiafnaaStatFnShifts
import Derived.Test.YtccpgcgaaiafnaaWMore
set_option linter.unusedVariables false
set_option linter.unusedSimpArgs false
namespace Go.Proofs.Ytccpgcgaaiafnaa.Kit
open Go.RowKit Go.Proofs.YtccpgcgaaiafnaaW.PrintWords Go.Proofs.YtccpgcgaaiafnaaW.PrintMore

/-! ### Rounds -/
theorem Ev.all {α : Type} {g : Nat → Option α} {r : α} (h : ∀ k, g k = some r) : Ev g r := ⟨0, fun k _ => h k⟩
theorem Ev.of1 {α β : Type} {g : Nat → Option α} {f : Nat → Option β} {r : α} {b : β} (h : Ev f b) (k : ∀ k, f k = some b → g k = some r) : Ev g r := by
  obtain ⟨K, h⟩ := h; exact ⟨K, fun n hn => k n (h n hn)⟩
theorem Ev.of2 {α β γ : Type} {g : Nat → Option α} {f : Nat → Option β} {f' : Nat → Option γ} {r : α} {b : β} {c : γ} (h : Ev f b) (h' : Ev f' c) (k : ∀ k, f k = some b → f' k = some c → g k = some r) : Ev g r := by
  obtain ⟨K, h⟩ := h; obtain ⟨K', h'⟩ := h'; exact ⟨K + K', fun n hn => k n (h n (by omega)) (h' n (by omega))⟩
theorem Ev.next0 {α : Type} {g : Nat → Option α} {r : α} (h : ∀ k, g (k + 1) = some r) : Ev g r :=
  ⟨1, fun n hn => by obtain ⟨m, rfl⟩ : ∃ m, n = m + 1 := ⟨n - 1, by omega⟩; exact h m⟩
theorem Ev.next1 {α β : Type} {g : Nat → Option α} {f : Nat → Option β} {r : α} {b : β} (h : Ev f b) (k : ∀ k, f k = some b → g (k + 1) = some r) : Ev g r := by
  obtain ⟨K, h⟩ := h
  exact ⟨K + 1, fun n hn => by obtain ⟨m, rfl⟩ : ∃ m, n = m + 1 := ⟨n - 1, by omega⟩; exact k m (h m (by omega))⟩
theorem Ev.next2 {α β γ : Type} {g : Nat → Option α} {f : Nat → Option β} {f' : Nat → Option γ} {r : α} {b : β} {c : γ} (h : Ev f b) (h' : Ev f' c) (k : ∀ k, f k = some b → f' k = some c → g (k + 1) = some r) : Ev g r := by
  obtain ⟨K, h⟩ := h; obtain ⟨K', h'⟩ := h'
  exact ⟨K + K' + 1, fun n hn => by obtain ⟨m, rfl⟩ : ∃ m, n = m + 1 := ⟨n - 1, by omega⟩; exact k m (h m (by omega)) (h' m (by omega))⟩
/-- From some number of rounds on. -/
def Evt (p : Nat → Prop) : Prop := ∃ K, ∀ k, K ≤ k → p k
theorem ev_one {α : Type} {f : Nat → Option α} {a : α} (h : Ev f a) : Evt (fun k => f k = some a) := h
theorem ev_and {α : Type} {f : Nat → Option α} {a : α} {p : Nat → Prop} (h : Ev f a) (h' : Evt p) : Evt (fun k => f k = some a ∧ p k) := by
  obtain ⟨K, h⟩ := h; obtain ⟨K', h'⟩ := h'; exact ⟨K + K', fun n hn => ⟨h n (by omega), h' n (by omega)⟩⟩
theorem Evt.ev {α : Type} {g : Nat → Option α} {r : α} {p : Nat → Prop} (h : Evt p) (k : ∀ k, p k → g k = some r) : Ev g r := by
  obtain ⟨K, h⟩ := h; exact ⟨K, fun n hn => k n (h n hn)⟩
theorem Evt.next {α : Type} {g : Nat → Option α} {r : α} {p : Nat → Prop} (h : Evt p) (k : ∀ k, p k → g (k + 1) = some r) : Ev g r := by
  obtain ⟨K, h⟩ := h
  exact ⟨K + 1, fun n hn => by obtain ⟨m, rfl⟩ : ∃ m, n = m + 1 := ⟨n - 1, by omega⟩; exact k m (h m (by omega))⟩

/-! ### Whole numbers -/
theorem wrap_id {x : Int} (h0 : -9223372036854775808 ≤ x) (h1 : x ≤ 9223372036854775807) : wrap64 x = x := by unfold wrap64; omega
theorem wrap_succ {i n : Nat} (h : i < n) (hn : n ≤ 9223372036854775807) : wrap64 ((i : Int) + 1) = ((i + 1 : Nat) : Int) := by unfold wrap64; omega
theorem toNat_cast (i : Nat) : ((i : Int)).toNat = i := by omega

theorem mx_eq (a b : Int) : mx a b = max a b := by unfold mx; split <;> omega
/-! ### Lists from an index on -/
theorem drop_cons {α : Type} {xs ys : List α} {y : α} {i : Nat} (h : xs.drop i = y :: ys) : i < xs.length ∧ xs[i]? = some y ∧ xs.drop (i + 1) = ys := by
  have hlt : i < xs.length := by
    by_cases hlt : i < xs.length
    · exact hlt
    · rw [List.drop_of_length_le (by omega)] at h; cases h
  rw [List.drop_eq_getElem_cons hlt] at h
  injection h with h1 h2
  exact ⟨hlt, by rw [List.getElem?_eq_getElem hlt, h1], h2⟩
theorem drop_nil {α : Type} {xs : List α} {i : Nat} (h : xs.drop i = []) : xs.length ≤ i := by simpa using h
theorem getD_drop {α : Type} {xs ys : List α} {y d : α} {i : Nat} (h : xs.drop i = y :: ys) : xs.getD ((i : Int)).toNat d = y := by
  rw [toNat_cast, List.getD_eq_getElem?_getD, (drop_cons h).2.1]; rfl
theorem rd_drop {xs ys : List Int} {y : Int} {i : Nat} (h : xs.drop i = y :: ys) : rd xs (i : Int) = y := getD_drop h
theorem rdOf_drop {α : Type} {xs ys : List α} {y d : α} {i : Nat} (h : xs.drop i = y :: ys) : rdOf d xs (i : Int) = y := getD_drop h
theorem getD_get {α : Type} {xs : List α} {y d : α} {i : Nat} (h : xs[i]? = some y) : xs.getD ((i : Int)).toNat d = y := by
  rw [toNat_cast, List.getD_eq_getElem?_getD, h]; rfl
theorem rd_get {xs : List Int} {y : Int} {i : Nat} (h : xs[i]? = some y) : rd xs (i : Int) = y := getD_get h
theorem rdOf_get {α : Type} {xs : List α} {y d : α} {i : Nat} (h : xs[i]? = some y) : rdOf d xs (i : Int) = y := getD_get h
/-! ### A list that is copied, element for element -/
/-! ### Strictly increasing lists of 0..n-1 -/
def rise (n : Int) : Int → List Int → Bool
  | _, [] => true
  | p, y :: ys => decide (0 ≤ y ∧ y < n ∧ p < y) && rise n y ys
theorem rise_mem {n : Int} : ∀ {p : Int} {ys : List Int}, rise n p ys = true → ∀ y ∈ ys, 0 ≤ y ∧ y < n ∧ p < y
  | p, [], _, y, hy => by cases hy
  | p, z :: zs, h, y, hy => by
    simp only [rise, Bool.and_eq_true, decide_eq_true_eq] at h
    rcases List.mem_cons.1 hy with rfl | hy
    · exact h.1
    · have := rise_mem h.2 y hy; omega

/-! ### Numbers marked and held -/
end Go.Proofs.Ytccpgcgaaiafnaa.Kit
namespace Go.Proofs.Ytccpgcgaaiafnaa.Model
open Go.RowKit Go.Proofs.YtccpgcgaaiafnaaW.PrintWords Go.Proofs.Ytccpgcgaaiafnaa.Kit

/-- The greatest number of 'false' behind each other; m: so far; n: those just before. -/
def down : List Bool → Int → Int → Int
  | [], m, _ => m
  | b :: bs, m, n => if b = true then down bs (max m 0) 0 else down bs (max m (n + 1)) (n + 1)

def mixStep (a x : Int) : Int := Int.tmod (wrap64 ((Int.tmod (wrap64 ((wrap64 ((wrap64 (33 * a)) + x)) + 11)) 1000003) * (wrap64 ((wrap64 (Int.tdiv (Int.tmod (wrap64 ((wrap64 ((wrap64 (33 * a)) + x)) + 11)) 1000003) 16)) + 7)))) 1000003
def mix (l : List Int) : Int := (l ++ [5, 2]).foldl mixStep (wrap64 (6007 + (l.length : Int)))
def machOk (a b : Int) : Bool := decide (0 ≤ a ∧ a ≤ 100 ∧ 0 ≤ b ∧ b ≤ 100)
/-- The states of a machine: d shifts, from shift s on; 'now': is it ready? -/
def states (f r key : Int) : Nat → Int → Bool → List Bool
  | 0, _, _ => []
  | d + 1, s, now => now :: states f r key d (s + 1) (if Int.tmod (mix [key, s, 3, 100]) 100 < (if now = true then f else r) then !now else now)
theorem states_length (f r key : Int) : ∀ (d : Nat) (s : Int) (now : Bool), (states f r key d s now).length = d
  | 0, _, _ => rfl
  | d + 1, s, now => by simp [states, states_length]
end Go.Proofs.Ytccpgcgaaiafnaa.Model
namespace Go.Proofs.Ytccpgcgaaiafnaa.PureFnShifts
open Go.RowKit Go.Proofs.Ytccpgcgaaiafnaa.PFnShifts Go.Proofs.YtccpgcgaaiafnaaW.PrintWords Go.Proofs.YtccpgcgaaiafnaaW.PrintLast Go.Proofs.YtccpgcgaaiafnaaW.PrintMore Go.Proofs.Ytccpgcgaaiafnaa.Kit Go.Proofs.Ytccpgcgaaiafnaa.Model
theorem impl_IsMachine_eq (a b : Int) (c : Bool) : impl_IsMachine.f a b c = some (machOk a b) := by
  simp only [impl_IsMachine.f, machOk]
  repeat' split
  all_goals first | (congr 1; rw [decide_eq_decide]; omega) | (congr 1; symm; simp; omega)
theorem impl_areShifts_eq (a : Int) : impl_areShifts.f a = some (decide (0 ≤ a ∧ a ≤ 60)) := by
  simp only [impl_areShifts.f]
  split
  · congr 1; rw [decide_eq_decide]; omega
  · congr 1; symm; simp; omega
theorem impl_mixOf_l0 (l : List Int) (hn : l.length ≤ 9223372036854775807) : ∀ (ys : List Int) (i : Nat) (a : Int), l.drop i = ys → Ev (fun k => impl_mixOf.l0 k a l (l.length : Int) i) (ys.foldl mixStep a)
  | [], i, a, h => Ev.next0 fun k => by
      have h0 := drop_nil h
      simp only [impl_mixOf.l0, List.foldl]
      rw [if_neg (by omega)]
  | y :: ys, i, a, h => by
      obtain ⟨h1, h2, h3⟩ := drop_cons h
      refine Ev.next1 (impl_mixOf_l0 l hn ys (i + 1) (mixStep a y) h3) fun k hk => ?_
      have e := rd_drop h
      simp only [impl_mixOf.l0, e, List.foldl]
      rw [if_pos (by omega), if_pos (by omega), if_pos (by omega), wrap_succ h1 hn]
      exact hk
theorem impl_mixOf_ev (l : List Int) (hn : l.length ≤ 1048576) : Ev (fun k => impl_mixOf.f k l) (mix l) :=
  Ev.of1 (impl_mixOf_l0 (l ++ [5, 2]) (by simp; omega) (l ++ [5, 2]) 0 (wrap64 (6007 + (l.length : Int))) rfl) fun k hk => by
    simp only [impl_mixOf.f, Option.bind_some, List.nil_append, List.length_nil]
    rw [if_pos (by omega), if_pos (by simp; omega)]
    exact hk
theorem impl_numberFor_ev (l : List Int) (n : Int) (hn : l.length ≤ 1048575) (h0 : n ≠ 0) : Ev (fun k => impl_numberFor.f k n l) (Int.tmod (mix (l ++ [n])) n) :=
  Ev.of1 (impl_mixOf_ev (l ++ [n]) (by simp; omega)) fun k hk => by
    simp only [impl_numberFor.f, Option.bind_some, List.nil_append, List.length_nil]
    rw [if_pos (by omega), if_pos (by omega), hk, Option.bind_some, if_neg h0]
theorem impl_statesOf_l0 (f r key n : Int) (c : Bool) (hn : n ≤ 60) : ∀ (d : Nat) (s : Int) (a : List Bool) (now : Bool), 0 ≤ s → s + d = n → (a.length : Int) = s → Ev (fun k => impl_statesOf.l0 k key n a now s f r c) (a ++ states f r key d s now)
  | 0, s, a, now, h0, hd, ha => Ev.next0 fun k => by
      simp only [impl_statesOf.l0, states, List.append_nil]
      rw [if_neg (by omega)]
  | d + 1, s, a, now, h0, hd, ha => by
      have hb := impl_numberFor_ev [key, s, 3] 100 (by simp) (by omega)
      have e : ([key, s, 3] : List Int) ++ [100] = [key, s, 3, 100] := rfl
      rw [e] at hb
      refine Ev.next2 hb (impl_statesOf_l0 f r key n c hn d (s + 1) (a ++ [now]) (if Int.tmod (mix [key, s, 3, 100]) 100 < (if now = true then f else r) then !now else now) (by omega) (by omega) (by simp; omega)) fun k h1 h2 => ?_
      simp only [impl_statesOf.l0, Option.bind_some, h1, states]
      rw [if_pos (by omega), if_pos (by omega), wrap_id (by omega) (by omega)]
      rw [List.append_assoc] at h2
      cases now with
      | true =>
        simp only [if_true] at h2 ⊢
        by_cases hq : Int.tmod (mix [key, s, 3, 100]) 100 < f
        · simp only [if_pos hq] at h2 ⊢; exact h2
        · simp only [if_neg hq] at h2 ⊢; exact h2
      | false =>
        simp only [Bool.false_eq_true, if_false] at h2 ⊢
        by_cases hq : Int.tmod (mix [key, s, 3, 100]) 100 < r
        · simp only [if_pos hq] at h2 ⊢; exact h2
        · simp only [if_neg hq] at h2 ⊢; exact h2
theorem impl_statesOf_ev (f r key n : Int) (c : Bool) (h0 : 0 ≤ n) (hn : n ≤ 60) : Ev (fun k => impl_statesOf.f k f r c key n) (states f r key n.toNat 0 c) :=
  Ev.of1 (impl_statesOf_l0 f r key n c hn n.toNat 0 [] c (by omega) (by omega) rfl) fun k hk => by simp only [impl_statesOf.f]; exact hk
theorem spec_l1In_eq (a lo hi : Int) : spec_l1In.f a lo hi = some (decide (lo ≤ a ∧ a ≤ hi)) := by
  unfold spec_l1In.f
  split
  · congr 1; simp; omega
  · congr 1; simp; omega
theorem spec_brGood_eq (a b : Int) (c : Bool) : spec_brGood.f a b c = some (machOk a b) := by
  simp only [spec_brGood.f, spec_l1In_eq, Option.bind_some, decide_eq_true_eq, machOk]
  by_cases h : 0 ≤ a ∧ a ≤ 100
  · rw [if_pos h]; congr 1; rw [decide_eq_decide]; omega
  · rw [if_neg h]; congr 1; symm; simp; omega
theorem spec_brKey_eq (a : Int) : spec_brKey.f a = some (decide (0 ≤ a ∧ a ≤ 1000000000)) := by simp only [spec_brKey.f, spec_l1In_eq, Option.bind_some]
theorem spec_l1Own_eq (l : List Int) (h : l.length < 17592186044416) : spec_l1Own.f l = some l := by
  simp only [spec_l1Own.f, Option.bind_some, List.length_nil, List.nil_append]
  rw [if_pos (by omega)]
theorem spec_brMix_l0 (l : List Int) (hn : l.length ≤ 9223372036854775807) : ∀ (ys : List Int) (i : Nat) (a : Int), l.drop i = ys → Ev (fun k => spec_brMix.l0 k a l (l.length : Int) i) (ys.foldl mixStep a)
  | [], i, a, h => Ev.next0 fun k => by
      have h0 := drop_nil h
      simp only [spec_brMix.l0, List.foldl]
      rw [if_neg (by omega)]
  | y :: ys, i, a, h => by
      obtain ⟨h1, h2, h3⟩ := drop_cons h
      refine Ev.next1 (spec_brMix_l0 l hn ys (i + 1) (mixStep a y) h3) fun k hk => ?_
      have e := rd_drop h
      simp only [spec_brMix.l0, e, List.foldl]
      rw [if_pos (by omega), if_pos (by omega), if_pos (by omega), wrap_succ h1 hn]
      exact hk
theorem spec_brMix_ev (l : List Int) (hn : l.length ≤ 1048576) : Ev (fun k => spec_brMix.f k l) (mix l) :=
  Ev.of1 (spec_brMix_l0 (l ++ [5, 2]) (by simp; omega) (l ++ [5, 2]) 0 (wrap64 (6007 + (l.length : Int))) rfl) fun k hk => by
    simp only [spec_brMix.f, spec_l1Own_eq l (by omega), Option.bind_some]
    rw [if_pos (by simp; omega)]
    exact hk
theorem spec_brBelow_ev (l : List Int) (n : Int) (hn : l.length ≤ 1048575) (h0 : n ≠ 0) : Ev (fun k => spec_brBelow.f k l n) (Int.tmod (mix (l ++ [n])) n) :=
  Ev.of1 (spec_brMix_ev (l ++ [n]) (by simp; omega)) fun k hk => by
    simp only [spec_brBelow.f, spec_l1Own_eq l (by omega), Option.bind_some]
    rw [if_pos (by omega), hk, Option.bind_some, if_neg h0]
theorem spec_brStates_l0 (f r key n : Int) (c : Bool) (hn : n ≤ 60) : ∀ (d : Nat) (s : Int) (a : List Bool) (now : Bool), 0 ≤ s → s + d = n → (a.length : Int) = s → Ev (fun k => spec_brStates.l0 k key n a now s f r c) (a ++ states f r key d s now)
  | 0, s, a, now, h0, hd, ha => Ev.next0 fun k => by
      simp only [spec_brStates.l0, states, List.append_nil]
      rw [if_neg (by omega)]
  | d + 1, s, a, now, h0, hd, ha => by
      have hb := spec_brBelow_ev [key, s, 3] 100 (by simp) (by omega)
      have e : ([key, s, 3] : List Int) ++ [100] = [key, s, 3, 100] := rfl
      rw [e] at hb
      refine Ev.next2 hb (spec_brStates_l0 f r key n c hn d (s + 1) (a ++ [now]) (if Int.tmod (mix [key, s, 3, 100]) 100 < (if now = true then f else r) then !now else now) (by omega) (by omega) (by simp; omega)) fun k h1 h2 => ?_
      simp only [spec_brStates.l0, Option.bind_some, h1, states]
      rw [if_pos (by omega), if_pos (by omega), wrap_id (by omega) (by omega)]
      rw [List.append_assoc] at h2
      cases now with
      | true =>
        simp only [if_true] at h2 ⊢
        by_cases hq : Int.tmod (mix [key, s, 3, 100]) 100 < f
        · simp only [if_pos hq] at h2 ⊢; exact h2
        · simp only [if_neg hq] at h2 ⊢; exact h2
      | false =>
        simp only [Bool.false_eq_true, if_false] at h2 ⊢
        by_cases hq : Int.tmod (mix [key, s, 3, 100]) 100 < r
        · simp only [if_pos hq] at h2 ⊢; exact h2
        · simp only [if_neg hq] at h2 ⊢; exact h2
theorem spec_brStates_ev (f r key n : Int) (c : Bool) (h0 : 0 ≤ n) (hn : n ≤ 60) : Ev (fun k => spec_brStates.f k f r c key n) (states f r key n.toNat 0 c) :=
  Ev.of1 (spec_brStates_l0 f r key n c hn n.toNat 0 [] c (by omega) (by omega) rfl) fun k hk => by simp only [spec_brStates.f]; exact hk
def statesM (f r : Int) (c : Bool) (key n : Int) : List Bool × Bool := if machOk f r = true ∧ (0 ≤ key ∧ key ≤ 1000000000) ∧ (0 ≤ n ∧ n ≤ 60) then (states f r key n.toNat 0 c, true) else ([], false)
theorem spec_StatesOf_ev (f r : Int) (c : Bool) (key n : Int) : Ev (fun k => spec_StatesOf.f k f r c key n) (statesM f r c key n) := by
  by_cases h : machOk f r = true ∧ (0 ≤ key ∧ key ≤ 1000000000) ∧ (0 ≤ n ∧ n ≤ 60)
  · obtain ⟨h1, h2, h3⟩ := h
    refine Ev.of1 (spec_brStates_ev f r key n c h3.1 h3.2) fun k hk => ?_
    simp only [spec_StatesOf.f, spec_brGood_eq, spec_brKey_eq, spec_l1In_eq, Option.bind_some]
    rw [if_pos h1, if_pos (by simpa using h2), if_pos (by simpa using h3), hk, Option.bind_some, statesM, if_pos ⟨h1, h2, h3⟩]
  · refine Ev.all fun k => ?_
    simp only [spec_StatesOf.f, spec_brGood_eq, spec_brKey_eq, spec_l1In_eq, Option.bind_some]
    rw [statesM, if_neg h]
    by_cases h1 : machOk f r = true
    · rw [if_pos h1]
      by_cases h2 : 0 ≤ key ∧ key ≤ 1000000000
      · rw [if_pos (by simpa using h2), if_neg]
        intro h3; exact h ⟨h1, h2, by simpa using h3⟩
      · rw [if_neg (by simpa using h2)]
    · rw [if_neg h1]
-- needs: spec_StatesOf
theorem impl_StatesOf_ev (f r : Int) (c : Bool) (key n : Int) : Ev (fun k => impl_StatesOf.f k f r c key n) (statesM f r c key n) := by
  by_cases h : machOk f r = true ∧ (0 ≤ key ∧ key ≤ 1000000000) ∧ (0 ≤ n ∧ n ≤ 60)
  · obtain ⟨h1, h2, h3⟩ := h
    refine Ev.of1 (impl_statesOf_ev f r key n c h3.1 h3.2) fun k hk => ?_
    simp only [impl_StatesOf.f, impl_IsMachine_eq, impl_areShifts_eq, Option.bind_some]
    rw [if_pos h1, if_neg (by omega), if_neg (by omega), if_pos (by simpa using h3), hk, Option.bind_some, statesM, if_pos ⟨h1, h2, h3⟩]
  · refine Ev.all fun k => ?_
    simp only [impl_StatesOf.f, impl_IsMachine_eq, impl_areShifts_eq, Option.bind_some]
    rw [statesM, if_neg h]
    by_cases h1 : machOk f r = true
    · rw [if_pos h1]
      by_cases h2 : 0 ≤ key ∧ key ≤ 1000000000
      · rw [if_neg (by omega), if_neg (by omega), if_neg]
        intro h3; exact h ⟨h1, h2, by simpa using h3⟩
      · split
        · rfl
        · rw [if_pos (by omega)]
    · rw [if_neg h1]
theorem laws_qBools_l0 (l : List Bool) (hn : l.length ≤ 1048576) : ∀ (ys : List Bool) (i : Nat), l.drop i = ys → Ev (fun k => laws_qBools.l0 k l l (l.length : Int) i) true
  | [], i, h => Ev.next0 fun k => by
      have h0 := drop_nil h
      simp only [laws_qBools.l0]
      rw [if_neg (by omega)]
  | y :: ys, i, h => by
      obtain ⟨h1, h2, h3⟩ := drop_cons h
      refine Ev.next1 (laws_qBools_l0 l hn ys (i + 1) h3) fun k hk => ?_
      simp only [laws_qBools.l0]
      rw [if_pos (by omega), if_pos (by omega), if_pos (by omega), if_pos (by omega), if_neg (by simp), wrap_succ h1 (by omega)]
      exact hk
theorem laws_qBools_ev (l : List Bool) (hn : l.length ≤ 1048576) : Ev (fun k => laws_qBools.f k l l) true :=
  Ev.of1 (laws_qBools_l0 l hn l 0 rfl) fun k hk => by
    simp only [laws_qBools.f]
    rw [if_pos trivial]
    exact hk
theorem impl_ReadyIn_l0 (l : List Bool) (hn : l.length ≤ 4611686018427387904) : ∀ (ys : List Bool) (i : Nat) (a : Int), l.drop i = ys → 0 ≤ a → a ≤ i → Ev (fun k => impl_ReadyIn.l0 k a l (l.length : Int) i) (a + (ys.count true : Int), true)
  | [], i, a, h, h0, ha => Ev.next0 fun k => by
      have := drop_nil h
      simp only [impl_ReadyIn.l0]
      rw [if_neg (by omega)]; simp
  | y :: ys, i, a, h, h0, ha => by
      obtain ⟨h1, h2, h3⟩ := drop_cons h
      have e := rdOf_drop (d := false) h
      cases y with
      | true =>
        refine Ev.next1 (impl_ReadyIn_l0 l hn ys (i + 1) (a + 1) h3 (by omega) (by push_cast; omega)) fun k hk => ?_
        simp only [impl_ReadyIn.l0, e]
        rw [if_pos (by omega), if_pos (by omega), if_pos (by omega), if_pos (by simp), wrap_succ h1 (by omega), wrap_id (by omega) (by omega), hk]
        congr 2; simp; omega
      | false =>
        refine Ev.next1 (impl_ReadyIn_l0 l hn ys (i + 1) a h3 h0 (by push_cast; omega)) fun k hk => ?_
        simp only [impl_ReadyIn.l0, e]
        rw [if_pos (by omega), if_pos (by omega), if_pos (by omega), if_neg (by simp), wrap_succ h1 (by omega), hk]
        simp
theorem impl_ReadyIn_ev (l : List Bool) (hn : l.length ≤ 4611686018427387904) : Ev (fun k => impl_ReadyIn.f k l) (if l.length > 60 then (0, false) else ((l.count true : Int), true)) :=
  Ev.of1 (impl_ReadyIn_l0 l hn l 0 0 rfl (by omega) (by omega)) fun k hk => by
    simp only [impl_ReadyIn.f]
    split
    · rw [if_pos (by omega)]
    · rw [if_neg (by omega)]; simpa using hk
theorem impl_LongestDown_l0 (l : List Bool) (hn : l.length ≤ 4611686018427387904) : ∀ (ys : List Bool) (i : Nat) (m n : Int), l.drop i = ys → 0 ≤ n → n ≤ i → Ev (fun k => impl_LongestDown.l0 k m n l (l.length : Int) i) (down ys m n, true)
  | [], i, m, n, h, h0, ha => Ev.next0 fun k => by
      have := drop_nil h
      simp only [impl_LongestDown.l0, down]
      rw [if_neg (by omega)]
  | y :: ys, i, m, n, h, h0, ha => by
      obtain ⟨h1, h2, h3⟩ := drop_cons h
      have e := rdOf_drop (d := false) h
      cases y with
      | true =>
        refine Ev.next1 (impl_LongestDown_l0 l hn ys (i + 1) (max m 0) 0 h3 (by omega) (by push_cast; omega)) fun k hk => ?_
        simp only [impl_LongestDown.l0, e, mx_eq, down, if_true]
        rw [if_pos (by omega), if_pos (by omega), if_pos (by omega), wrap_succ h1 (by omega)]
        exact hk
      | false =>
        refine Ev.next1 (impl_LongestDown_l0 l hn ys (i + 1) (max m (n + 1)) (n + 1) h3 (by omega) (by push_cast; omega)) fun k hk => ?_
        simp only [impl_LongestDown.l0, e, mx_eq, down]
        rw [if_pos (by omega), if_pos (by omega), if_pos (by omega), if_neg (by simp), wrap_succ h1 (by omega), wrap_id (by omega) (by omega), if_neg (by simp)]
        exact hk
theorem impl_LongestDown_ev (l : List Bool) (hn : l.length ≤ 4611686018427387904) : Ev (fun k => impl_LongestDown.f k l) (if l.length > 60 then (0, false) else (down l 0 0, true)) :=
  Ev.of1 (impl_LongestDown_l0 l hn l 0 0 0 rfl (by omega) (by omega)) fun k hk => by
    simp only [impl_LongestDown.f]
    split
    · rw [if_pos (by omega)]
    · rw [if_neg (by omega)]; exact hk
theorem wrap_u64' (n : Int) : IntKind.u64.wrap n = n % 18446744073709551616 := by simp [IntKind.wrap, IntKind.bits, IntKind.signed]
theorem and255 (x : Int) (h0 : 0 ≤ x) (h1 : x < 16777216) : Go.bits .and .u64 x 255 = x % 256 := bits_mask .u64 24 (by decide) (fun n a b => by rw [wrap_u64']; omega) 8 (by decide) x h0 h1
theorem tail_bd (y : Int) : 0 ≤ wrap64 (Go.bits .and .u64 (IntKind.u64.wrap y / 1099511627776) 255) ∧ wrap64 (Go.bits .and .u64 (IntKind.u64.wrap y / 1099511627776) 255) ≤ 255 := by
  rw [wrap_u64', and255 _ (by omega) (by omega), wrap_id (by omega) (by omega)]
  omega
theorem byte_bd {l : List Int} (hl : ∀ x ∈ l, 0 ≤ x ∧ x ≤ 255) {p : Int} (h0 : 0 ≤ p) (h1 : p < (l.length : Int)) : 0 ≤ rd l p ∧ rd l p ≤ 255 := by
  obtain ⟨i, rfl⟩ := Int.eq_ofNat_of_zero_le h0
  have hi : i < l.length := by omega
  have e : l[i]? = some l[i] := List.getElem?_eq_getElem hi
  have r : rd l ((i : Nat) : Int) = l[i] := rd_get e
  show 0 ≤ rd l ((i : Nat) : Int) ∧ rd l ((i : Nat) : Int) ≤ 255
  rw [r]
  exact hl _ (List.getElem_mem hi)
theorem spec_l1Cur_next_some (l : List Int) (hl : ∀ x ∈ l, 0 ≤ x ∧ x ≤ 255) (hn : l.length ≤ 9223372036854775807) (p s : Int) (h0 : 0 ≤ p) (h1 : p ≤ 1000000) : ∃ r s', spec_l1Cur_next.f l p s = some (r, p + 1, s') ∧ 0 ≤ r ∧ r ≤ 255 := by
  have ew : wrap64 (p + 1) = p + 1 := wrap_id (by omega) (by omega)
  simp only [spec_l1Cur_next.f, ew]
  by_cases c : p < (l.length : Int)
  · rw [if_pos c, if_pos h0, if_pos (by omega)]
    have b := byte_bd hl h0 c
    exact ⟨_, _, rfl, by rw [wrap_id (by omega) (by omega)]; exact b⟩
  · rw [if_neg c, if_neg (by omega)]
    exact ⟨_, _, rfl, tail_bd _⟩
theorem spec_l1Cur_pick_some (l : List Int) (hl : ∀ x ∈ l, 0 ≤ x ∧ x ≤ 255) (hn : l.length ≤ 9223372036854775807) (p s : Int) (h0 : 0 ≤ p) (h1 : p ≤ 900000) (n : Int) : ∃ r p' s', spec_l1Cur_pick.f l p s n = some (r, p', s') ∧ (0 ≤ r ∧ (1 ≤ n → r < n)) ∧ p ≤ p' ∧ p' ≤ p + 2 := by
  by_cases c : n ≤ 1
  · refine ⟨0, p, s, ?_, by omega, by omega, by omega⟩
    simp only [spec_l1Cur_pick.f]
    rw [if_pos c]
  · obtain ⟨x, s1, e1, b1⟩ := spec_l1Cur_next_some l hl hn p s h0 (by omega)
    have tm : ∀ v : Int, 0 ≤ v → 0 ≤ Int.tmod v n ∧ Int.tmod v n < n := fun v hv => by
      rw [Int.tmod_eq_emod_of_nonneg hv]
      exact ⟨Int.emod_nonneg v (by omega), Int.emod_lt_of_pos v (by omega)⟩
    by_cases d : n > 200
    · obtain ⟨y, s2, e2, b2⟩ := spec_l1Cur_next_some l hl hn (p + 1) s1 (by omega) (by omega)
      have t := tm (x * 256 + y) (by omega)
      refine ⟨Int.tmod (x * 256 + y) n, p + 1 + 1, s2, ?_, ⟨t.1, fun _ => t.2⟩, by omega, by omega⟩
      simp only [spec_l1Cur_pick.f, e1, e2, Option.bind_some]
      rw [if_neg c, if_pos d, if_neg (by omega), wrap_id (x := x * 256) (by omega) (by omega), wrap_id (x := x * 256 + y) (by omega) (by omega)]
    · have t := tm x b1.1
      refine ⟨Int.tmod x n, p + 1, s1, ?_, ⟨t.1, fun _ => t.2⟩, by omega, by omega⟩
      simp only [spec_l1Cur_pick.f, e1, Option.bind_some]
      rw [if_neg c, if_neg d, if_neg (by omega)]
theorem spec_l1Cur_among_some (l : List Int) (hl : ∀ x ∈ l, 0 ≤ x ∧ x ≤ 255) (hn : l.length ≤ 9223372036854775807) (p s : Int) (h0 : 0 ≤ p) (h1 : p ≤ 900000) (xs : List Int) (hx : 1 ≤ xs.length) : ∃ r p' s', spec_l1Cur_among.f l p s xs = some (r, p', s') ∧ p ≤ p' ∧ p' ≤ p + 2 := by
  obtain ⟨r, p', s', e, b, c⟩ := spec_l1Cur_pick_some l hl hn p s h0 h1 (xs.length : Int)
  have d := b.2 (by omega)
  refine ⟨rd xs r, p', s', ?_, c⟩
  simp only [spec_l1Cur_among.f, e, Option.bind_some]
  rw [if_pos b.1, if_pos d]
theorem spec_l1Cur_one_some (l : List Int) (hl : ∀ x ∈ l, 0 ≤ x ∧ x ≤ 255) (hn : l.length ≤ 9223372036854775807) (p s : Int) (h0 : 0 ≤ p) (h1 : p ≤ 900000) (n : Int) : ∃ r p' s', spec_l1Cur_one.f l p s n = some (r, p', s') ∧ p ≤ p' ∧ p' ≤ p + 2 := by
  obtain ⟨r, p', s', e, _, c⟩ := spec_l1Cur_pick_some l hl hn p s h0 h1 n
  exact ⟨(r == 0), p', s', by simp only [spec_l1Cur_one.f, e, Option.bind_some], c⟩
theorem spec_l1Cur_machine_some (l : List Int) (hl : ∀ x ∈ l, 0 ≤ x ∧ x ≤ 255) (hn : l.length ≤ 9223372036854775807) (p s : Int) (h0 : 0 ≤ p) (h1 : p ≤ 800000) : ∃ f r c p' s', spec_l1Cur_machine.f l p s = some (f, r, c, p', s') ∧ p ≤ p' ∧ p' ≤ p + 10 := by
  obtain ⟨f, p1, s1, e1, b1⟩ := spec_l1Cur_among_some l hl hn p s h0 (by omega) [0, 10, 30, 50, 100] (by simp)
  obtain ⟨r, p2, s2, e2, b2⟩ := spec_l1Cur_among_some l hl hn p1 s1 (by omega) (by omega) [0, 20, 50, 75, 100] (by simp)
  obtain ⟨c, p3, s3, e3, b3⟩ := spec_l1Cur_one_some l hl hn p2 s2 (by omega) (by omega) 4
  obtain ⟨q, p4, s4, e4, _, b4⟩ := spec_l1Cur_pick_some l hl hn p3 s3 (by omega) (by omega) 24
  obtain ⟨x, p5, s5, e5, b5⟩ := spec_l1Cur_among_some l hl hn p4 s4 (by omega) (by omega) [(-1), 101] (by simp)
  by_cases c0 : q = 0
  · refine ⟨x, r, !c, p5, s5, ?_, by omega, by omega⟩
    simp only [spec_l1Cur_machine.f, e1, e2, e3, e4, e5, Option.bind_some]
    rw [if_pos c0]
  by_cases c1 : q = 1
  · refine ⟨f, x, !c, p5, s5, ?_, by omega, by omega⟩
    simp only [spec_l1Cur_machine.f, e1, e2, e3, e4, e5, Option.bind_some]
    rw [if_neg c0, if_pos c1]
  · refine ⟨f, r, !c, p4, s4, ?_, by omega, by omega⟩
    simp only [spec_l1Cur_machine.f, e1, e2, e3, e4, Option.bind_some]
    rw [if_neg c0, if_neg c1]
theorem spec_l1Cur_shifts_some (l : List Int) (hl : ∀ x ∈ l, 0 ≤ x ∧ x ≤ 255) (hn : l.length ≤ 9223372036854775807) (p s : Int) (h0 : 0 ≤ p) (h1 : p ≤ 800000) : ∃ r p' s', spec_l1Cur_shifts.f l p s = some (r, p', s') ∧ p ≤ p' ∧ p' ≤ p + 2 := by
  obtain ⟨r, p3, s3, e3, b3⟩ := spec_l1Cur_among_some l hl hn p s h0 (by omega) [0, 1, 5, 12, 30, 60, 61, (-1)] (by simp)
  exact ⟨r, p3, s3, by simp only [spec_l1Cur_shifts.f, e3, Option.bind_some], by omega, by omega⟩
theorem spec_DrawFleetReady_l0 (l : List Int) (hl : ∀ x ∈ l, 0 ≤ x ∧ x ≤ 255) (hn : l.length ≤ 9223372036854775807) (n : Int) (h2 : n ≤ 9) : ∀ (d : Nat) (x : List S24) (p s : Int), (n - (x.length : Int)).toNat = d → x.length ≤ 9 → 0 ≤ p → p + 10 * (d : Int) ≤ 700000 → ∃ r key m, Ev (fun k => spec_DrawFleetReady.l0 k x n l p s) (r, key, m) ∧ r.length ≤ 9
  | 0, x, p, s, hd, hx, h0, h1 => by
      obtain ⟨a, p1, s1, e1, _, b1⟩ := spec_l1Cur_pick_some l hl hn p s h0 (by omega) 60000
      obtain ⟨b, p2, s2, e2, _, b2⟩ := spec_l1Cur_pick_some l hl hn p1 s1 (by omega) (by omega) 60000
      obtain ⟨c, p3, s3, e3, b3⟩ := spec_l1Cur_among_some l hl hn p2 s2 (by omega) (by omega) [0, a, b, 999999000, 999999001, (-1)] (by simp)
      obtain ⟨m, p4, s4, e4, b4⟩ := spec_l1Cur_shifts_some l hl hn p3 s3 (by omega) (by omega)
      refine ⟨x, c, m, Ev.next0 fun k => ?_, hx⟩
      simp only [spec_DrawFleetReady.l0]
      rw [if_neg (by omega)]
      simp only [e1, e2, e3, e4, Option.bind_some]
  | d + 1, x, p, s, hd, hx, h0, h1 => by
      obtain ⟨f, r, c, p1, s1, e1, b1⟩ := spec_l1Cur_machine_some l hl hn p s h0 (by omega)
      obtain ⟨r', key, m, h, hr⟩ := spec_DrawFleetReady_l0 l hl hn n h2 d (x ++ [⟨f, r, c⟩]) p1 s1 (by simp; omega) (by simp; omega) (by omega) (by push_cast at h1; omega)
      refine ⟨r', key, m, Ev.next1 h fun k hk => ?_, hr⟩
      simp only [spec_DrawFleetReady.l0, e1, Option.bind_some]
      rw [if_pos (by omega), if_pos (by omega)]
      exact hk
theorem spec_DrawFleetReady_some (l : List Int) (hl : ∀ x ∈ l, 0 ≤ x ∧ x ≤ 255) (hn : l.length ≤ 9223372036854775807) : ∃ r key m, Ev (fun k => spec_DrawFleetReady.f k l) (r, key, m) ∧ r.length ≤ 9 := by
  obtain ⟨q, p1, s1, e1, c1, b1⟩ := spec_l1Cur_pick_some l hl hn 0 0 (by omega) (by omega) 5
  have c1 := c1.2 (by omega)
  obtain ⟨o, p2, s2, e2, b2⟩ := spec_l1Cur_one_some l hl hn p1 s1 (by omega) (by omega) 16
  by_cases c : o = true
  · obtain ⟨y, p3, s3, e3, c3, b3⟩ := spec_l1Cur_pick_some l hl hn p2 s2 (by omega) (by omega) 2
    have c4 := c3.2 (by omega)
    obtain ⟨r, key, m, h, hr⟩ := spec_DrawFleetReady_l0 l hl hn (8 + y) (by omega) _ [] p3 s3 rfl (by simp) (by omega) (by simp; omega)
    have h' : Ev (fun k => spec_DrawFleetReady.j0 k [] (8 + y) l p3 s3) (r, key, m) := Ev.next1 h fun k hk => by
      simp only [spec_DrawFleetReady.j0]
      exact hk
    refine ⟨r, key, m, Ev.of1 h' fun k hk => ?_, hr⟩
    simp only [spec_DrawFleetReady.f, e1, e2, e3, Option.bind_some]
    rw [if_pos c, wrap_id (by omega) (by omega)]
    exact hk
  · obtain ⟨r, key, m, h, hr⟩ := spec_DrawFleetReady_l0 l hl hn q (by omega) _ [] p2 s2 rfl (by simp) (by omega) (by simp; omega)
    have h' : Ev (fun k => spec_DrawFleetReady.j0 k [] q l p2 s2) (r, key, m) := Ev.next1 h fun k hk => by
      simp only [spec_DrawFleetReady.j0]
      exact hk
    refine ⟨r, key, m, Ev.of1 h' fun k hk => ?_, hr⟩
    simp only [spec_DrawFleetReady.f, e1, e2, Option.bind_some]
    rw [if_neg c]
    exact hk
def addB : List Int → List Bool → List Int
  | x :: xs, c :: cs => (if c = true then x + 1 else x) :: addB xs cs
  | _, _ => []
theorem addB_length : ∀ (xs : List Int) (cs : List Bool), xs.length = cs.length → (addB xs cs).length = xs.length
  | [], [], _ => rfl
  | [], _ :: _, h => by simp at h
  | _ :: _, [], h => by simp at h
  | x :: xs, c :: cs, h => by simp [addB, addB_length xs cs (by simpa using h)]
theorem addB_mem (n : Int) : ∀ (xs : List Int) (cs : List Bool), (∀ v ∈ xs, 0 ≤ v ∧ v ≤ n) → ∀ v ∈ addB xs cs, 0 ≤ v ∧ v ≤ n + 1
  | [], _, _, v, hv => by simp [addB] at hv
  | _ :: _, [], _, v, hv => by simp [addB] at hv
  | x :: xs, c :: cs, h, v, hv => by
    have h0 := h x (by simp)
    simp only [addB] at hv
    rcases List.mem_cons.1 hv with rfl | hv
    · split <;> omega
    · exact addB_mem n xs cs (fun v h' => h v (by simp [h'])) v hv
def machsOk : List S24 → Bool
  | [] => true
  | m :: ms => machOk m.f0 m.f1 && machsOk ms
/-- How many of the machines are ready, shift for shift. -/
def fleet (n : Nat) : List S24 → Int → List Int → List Int
  | [], _, acc => acc
  | m :: ms, key, acc => fleet n ms (key + 1) (addB acc (states m.f0 m.f1 key n 0 m.f2))
theorem fleet_length (n : Nat) : ∀ (ms : List S24) (key : Int) (acc : List Int), acc.length = n → (fleet n ms key acc).length = n
  | [], _, _, h => h
  | m :: ms, key, acc, h => fleet_length n ms (key + 1) _ (by rw [addB_length _ _ (by rw [states_length]; exact h)]; exact h)
def fleetOf (l : List S24) (a1 a2 : Int) : List Int × Bool := if l.length ≤ 8 ∧ (0 ≤ a1 ∧ a1 ≤ 999999000) ∧ (0 ≤ a2 ∧ a2 ≤ 60) ∧ machsOk l = true then (fleet a2.toNat l a1 (List.replicate a2.toNat 0), true) else ([], false)
theorem fleetOf_len (l : List S24) (a1 a2 : Int) : (fleetOf l a1 a2).1.length ≤ 60 := by
  unfold fleetOf
  split
  · rw [fleet_length _ _ _ _ (by simp)]; omega
  · simp
theorem spec_FleetReady_l1 (a1 a2 : Int) (l : List S24) (i : Int) (bs : List Bool) (hn : bs.length ≤ 1048576) (r : List Int × Bool) : ∀ (cs : List Bool) (pre xs : List Int) (j : Nat), pre.length = j → xs.length = cs.length → bs.drop j = cs → (∀ v ∈ xs, 0 ≤ v ∧ v ≤ 1000) →
    Ev (fun k => spec_FleetReady.l0 k a1 a2 (pre ++ addB xs cs) l (l.length : Int) (wrap64 (i + 1))) r → Ev (fun k => spec_FleetReady.l1 k a1 a2 (pre ++ xs) l (l.length : Int) i bs (bs.length : Int) j) r
  | [], pre, xs, j, hp, hx, hj, hv, hr => by
      have h0 := drop_nil hj
      obtain rfl : xs = [] := List.eq_nil_of_length_eq_zero (by simpa using hx)
      refine Ev.next1 hr fun k hk => ?_
      simp only [spec_FleetReady.l1]
      rw [if_neg (by omega)]; exact hk
  | c :: cs, pre, xs, j, hp, hx, hj, hv, hr => by
      obtain ⟨h1, h2, h3⟩ := drop_cons hj
      have e := rdOf_drop (d := false) hj
      cases xs with
      | nil => simp at hx
      | cons x xs =>
        have hx0 := hv x (by simp)
        have hv' : ∀ v ∈ xs, 0 ≤ v ∧ v ≤ 1000 := fun v h => hv v (by simp [h])
        have hx' : xs.length = cs.length := by simpa using hx
        cases c with
        | true =>
          have hr' : Ev (fun k => spec_FleetReady.l0 k a1 a2 ((pre ++ [x + 1]) ++ addB xs cs) l (l.length : Int) (wrap64 (i + 1))) r := by
            rw [List.append_assoc]; exact hr
          refine Ev.next1 (spec_FleetReady_l1 a1 a2 l i bs hn r cs (pre ++ [x + 1]) xs (j + 1) (by simp [hp]) hx' h3 hv' hr') fun k hk => ?_
          have e1 : rd (pre ++ x :: xs) (j : Int) = x := rd_get (by rw [← hp, List.getElem?_append_right (Nat.le_refl _), Nat.sub_self]; rfl)
          have e2 : (pre ++ x :: xs).set j (x + 1) = (pre ++ [x + 1]) ++ xs := by
            rw [List.set_append_right _ _ (by omega), hp, Nat.sub_self, List.append_assoc]; rfl
          simp only [spec_FleetReady.l1, e, e1, if_true]
          rw [if_pos (by omega), if_pos (by omega), if_pos (by omega), if_pos (by simp; omega), wrap_succ h1 (by omega), wrap_id (x := x + 1) (by omega) (by omega), toNat_cast, e2]
          exact hk
        | false =>
          have hr' : Ev (fun k => spec_FleetReady.l0 k a1 a2 ((pre ++ [x]) ++ addB xs cs) l (l.length : Int) (wrap64 (i + 1))) r := by
            rw [List.append_assoc]; exact hr
          refine Ev.next1 (spec_FleetReady_l1 a1 a2 l i bs hn r cs (pre ++ [x]) xs (j + 1) (by simp [hp]) hx' h3 hv' hr') fun k hk => ?_
          simp only [spec_FleetReady.l1, e, Bool.false_eq_true, if_false]
          rw [if_pos (by omega), if_pos (by omega), if_pos (by omega), wrap_succ h1 (by omega)]
          rw [List.append_assoc] at hk; exact hk
theorem spec_FleetReady_l0 (a1 a2 : Int) (l : List S24) (hl : l.length ≤ 8) (h1 : 0 ≤ a1 ∧ a1 ≤ 999999000) (h2 : 0 ≤ a2 ∧ a2 ≤ 60) : ∀ (ys : List S24) (i : Nat) (acc : List Int), l.drop i = ys → acc.length = a2.toNat → (∀ v ∈ acc, 0 ≤ v ∧ v ≤ (i : Int)) →
    Ev (fun k => spec_FleetReady.l0 k a1 a2 acc l (l.length : Int) i) (if machsOk ys = true then (fleet a2.toNat ys (a1 + i) acc, true) else ([], false))
  | [], i, acc, h, ha, hv => Ev.next0 fun k => by
      have h0 := drop_nil h
      simp only [spec_FleetReady.l0, machsOk, fleet, if_true]
      rw [if_neg (by omega)]
  | y :: ys, i, acc, h, ha, hv => by
      obtain ⟨d1, d2, d3⟩ := drop_cons h
      have e : rd_T24 l i = y := getD_drop h
      by_cases hy : machOk y.f0 y.f1 = true
      · have hs := spec_brStates_ev y.f0 y.f1 (a1 + i) a2 y.f2 h2.1 h2.2
        have hsl := states_length y.f0 y.f1 (a1 + i) a2.toNat 0 y.f2
        have hq := addB_length acc (states y.f0 y.f1 (a1 + i) a2.toNat 0 y.f2) (by omega)
        have i0 := spec_FleetReady_l0 a1 a2 l hl h1 h2 ys (i + 1) (addB acc (states y.f0 y.f1 (a1 + i) a2.toNat 0 y.f2)) d3 (by omega) (fun v hm => by have := addB_mem (i : Int) _ _ hv v hm; omega)
        rw [show a1 + (((i + 1 : Nat)) : Int) = a1 + (i : Int) + 1 by omega, ← wrap_succ d1 (by omega)] at i0
        have i1 := spec_FleetReady_l1 a1 a2 l i (states y.f0 y.f1 (a1 + i) a2.toNat 0 y.f2) (by omega) _ (states y.f0 y.f1 (a1 + i) a2.toNat 0 y.f2) [] acc 0 rfl (by omega) rfl (fun v hm => by have := hv v hm; omega) i0
        refine Ev.next2 hs i1 fun k h3 h4 => ?_
        simp only [spec_FleetReady.l0, e, spec_brGood_eq, Option.bind_some]
        rw [if_pos (by omega), if_pos (by omega), if_pos (by omega), if_pos hy, wrap_id (x := a1 + (i : Int)) (by omega) (by omega), h3, Option.bind_some]
        simp only [machsOk, hy, Bool.true_and, fleet]
        exact h4
      · refine Ev.next0 fun k => ?_
        simp only [spec_FleetReady.l0, e, spec_brGood_eq, Option.bind_some]
        rw [if_pos (by omega), if_pos (by omega), if_pos (by omega), if_neg hy]
        simp [machsOk, hy]
theorem spec_FleetReady_no (l : List S24) (a1 a2 : Int) : Ev (fun k => spec_FleetReady.j0 k l a1 a2 true) ([], false) := Ev.next0 fun k => by simp [spec_FleetReady.j0]
theorem spec_FleetReady_ev (l : List S24) (a1 a2 : Int) : Ev (fun k => spec_FleetReady.f k l a1 a2) (fleetOf l a1 a2) := by
  by_cases h : l.length ≤ 8 ∧ (0 ≤ a1 ∧ a1 ≤ 999999000) ∧ (0 ≤ a2 ∧ a2 ≤ 60)
  · have i0 := spec_FleetReady_l0 a1 a2 l h.1 h.2.1 h.2.2 l 0 (List.replicate a2.toNat 0) rfl (by simp) (fun v hv => by have := List.eq_of_mem_replicate hv; omega)
    have i1 : Ev (fun k => spec_FleetReady.j0 k l a1 a2 false) (fleetOf l a1 a2) := Ev.next1 i0 fun k hk => by
      simp only [spec_FleetReady.j0, Bool.false_eq_true, if_false]
      rw [if_pos h.2.2.1, if_pos (by omega)]
      rw [show a1 + ((0 : Nat) : Int) = a1 by omega] at hk
      refine hk.trans ?_
      unfold fleetOf
      by_cases hm : machsOk l = true
      · rw [if_pos hm, if_pos ⟨h.1, h.2.1, h.2.2, hm⟩]
      · rw [if_neg hm, if_neg (fun q => hm q.2.2.2)]
    refine Ev.of1 i1 fun k hk => ?_
    simp only [spec_FleetReady.f, spec_l1In_eq, Option.bind_some]
    rw [if_neg (by omega), if_pos (by simpa using h.2.1), show decide (0 ≤ a2 ∧ a2 ≤ 60) = true by simpa using h.2.2]
    exact hk
  · have hf : fleetOf l a1 a2 = ([], false) := by unfold fleetOf; rw [if_neg (fun q => h ⟨q.1, q.2.1, q.2.2.1⟩)]
    refine Ev.of1 (spec_FleetReady_no l a1 a2) fun k hk => ?_
    simp only [spec_FleetReady.f, spec_l1In_eq, Option.bind_some]
    rw [hf]
    by_cases g1 : l.length ≤ 8
    · rw [if_neg (by omega)]
      by_cases g2 : 0 ≤ a1 ∧ a1 ≤ 999999000
      · rw [if_pos (by simpa using g2), show decide (0 ≤ a2 ∧ a2 ≤ 60) = false by simp; intro g3; exact Int.lt_of_not_ge fun g4 => h ⟨g1, g2, g3, g4⟩]
        exact hk
      · rw [if_neg (by simpa using g2)]; exact hk
    · rw [if_pos (by omega)]; exact hk
-- needs: spec_FleetReady
theorem impl_FleetReady_l2 (a1 a2 : Int) (l : List S24) (i : Int) (bs : List Bool) (hn : bs.length ≤ 1048576) (r : List Int × Bool) : ∀ (cs : List Bool) (pre xs : List Int) (j : Nat), pre.length = j → xs.length = cs.length → bs.drop j = cs → (∀ v ∈ xs, 0 ≤ v ∧ v ≤ 1000) →
    Ev (fun k => impl_FleetReady.l1 k a1 a2 (pre ++ addB xs cs) l (l.length : Int) (wrap64 (i + 1))) r → Ev (fun k => impl_FleetReady.l2 k a1 a2 (pre ++ xs) l (l.length : Int) i bs (bs.length : Int) j) r
  | [], pre, xs, j, hp, hx, hj, hv, hr => by
      have h0 := drop_nil hj
      obtain rfl : xs = [] := List.eq_nil_of_length_eq_zero (by simpa using hx)
      refine Ev.next1 hr fun k hk => ?_
      simp only [impl_FleetReady.l2]
      rw [if_neg (by omega)]; exact hk
  | c :: cs, pre, xs, j, hp, hx, hj, hv, hr => by
      obtain ⟨h1, h2, h3⟩ := drop_cons hj
      have e := rdOf_drop (d := false) hj
      cases xs with
      | nil => simp at hx
      | cons x xs =>
        have hx0 := hv x (by simp)
        have hv' : ∀ v ∈ xs, 0 ≤ v ∧ v ≤ 1000 := fun v h => hv v (by simp [h])
        have hx' : xs.length = cs.length := by simpa using hx
        cases c with
        | true =>
          have hr' : Ev (fun k => impl_FleetReady.l1 k a1 a2 ((pre ++ [x + 1]) ++ addB xs cs) l (l.length : Int) (wrap64 (i + 1))) r := by
            rw [List.append_assoc]; exact hr
          refine Ev.next1 (impl_FleetReady_l2 a1 a2 l i bs hn r cs (pre ++ [x + 1]) xs (j + 1) (by simp [hp]) hx' h3 hv' hr') fun k hk => ?_
          have e1 : rd (pre ++ x :: xs) (j : Int) = x := rd_get (by rw [← hp, List.getElem?_append_right (Nat.le_refl _), Nat.sub_self]; rfl)
          have e2 : (pre ++ x :: xs).set j (x + 1) = (pre ++ [x + 1]) ++ xs := by
            rw [List.set_append_right _ _ (by omega), hp, Nat.sub_self, List.append_assoc]; rfl
          simp only [impl_FleetReady.l2, e, e1, if_true]
          rw [if_pos (by omega), if_pos (by omega), if_pos (by omega), if_pos (by simp; omega), wrap_succ h1 (by omega), wrap_id (x := x + 1) (by omega) (by omega), toNat_cast, e2]
          exact hk
        | false =>
          have hr' : Ev (fun k => impl_FleetReady.l1 k a1 a2 ((pre ++ [x]) ++ addB xs cs) l (l.length : Int) (wrap64 (i + 1))) r := by
            rw [List.append_assoc]; exact hr
          refine Ev.next1 (impl_FleetReady_l2 a1 a2 l i bs hn r cs (pre ++ [x]) xs (j + 1) (by simp [hp]) hx' h3 hv' hr') fun k hk => ?_
          simp only [impl_FleetReady.l2, e, Bool.false_eq_true, if_false]
          rw [if_pos (by omega), if_pos (by omega), if_pos (by omega), wrap_succ h1 (by omega)]
          rw [List.append_assoc] at hk; exact hk
theorem impl_FleetReady_l1 (a1 a2 : Int) (l : List S24) (hl : l.length ≤ 8) (h1 : 0 ≤ a1 ∧ a1 ≤ 999999000) (h2 : 0 ≤ a2 ∧ a2 ≤ 60) : ∀ (ys : List S24) (i : Nat) (acc : List Int), l.drop i = ys → acc.length = a2.toNat → (∀ v ∈ acc, 0 ≤ v ∧ v ≤ (i : Int)) →
    Ev (fun k => impl_FleetReady.l1 k a1 a2 acc l (l.length : Int) i) (fleet a2.toNat ys (a1 + i) acc, true)
  | [], i, acc, h, ha, hv => Ev.next0 fun k => by
      have h0 := drop_nil h
      simp only [impl_FleetReady.l1, fleet]
      rw [if_neg (by omega)]
  | y :: ys, i, acc, h, ha, hv => by
      obtain ⟨d1, d2, d3⟩ := drop_cons h
      have e : rd_T24 l i = y := getD_drop h
      have hs := impl_statesOf_ev y.f0 y.f1 (a1 + i) a2 y.f2 h2.1 h2.2
      have hsl := states_length y.f0 y.f1 (a1 + i) a2.toNat 0 y.f2
      have hq := addB_length acc (states y.f0 y.f1 (a1 + i) a2.toNat 0 y.f2) (by omega)
      have i0 := impl_FleetReady_l1 a1 a2 l hl h1 h2 ys (i + 1) (addB acc (states y.f0 y.f1 (a1 + i) a2.toNat 0 y.f2)) d3 (by omega) (fun v hm => by have := addB_mem (i : Int) _ _ hv v hm; omega)
      rw [show a1 + (((i + 1 : Nat)) : Int) = a1 + (i : Int) + 1 by omega, ← wrap_succ d1 (by omega)] at i0
      have i1 := impl_FleetReady_l2 a1 a2 l i (states y.f0 y.f1 (a1 + i) a2.toNat 0 y.f2) (by omega) _ (states y.f0 y.f1 (a1 + i) a2.toNat 0 y.f2) [] acc 0 rfl (by omega) rfl (fun v hm => by have := hv v hm; omega) i0
      refine Ev.next2 hs i1 fun k h3 h4 => ?_
      simp only [impl_FleetReady.l1, e]
      rw [if_pos (by omega), if_pos (by omega), if_pos (by omega), wrap_id (x := a1 + (i : Int)) (by omega) (by omega), h3, Option.bind_some]
      simp only [fleet]
      exact h4
theorem impl_FleetReady_l0 (a1 a2 : Int) (l : List S24) (hl : l.length ≤ 8) (h1 : 0 ≤ a1 ∧ a1 ≤ 999999000) (h2 : 0 ≤ a2 ∧ a2 ≤ 60) : ∀ (ys : List S24) (i : Nat), l.drop i = ys →
    Ev (fun k => impl_FleetReady.l0 k l a1 a2 l (l.length : Int) i) (if machsOk ys = true then (fleet a2.toNat l a1 (List.replicate a2.toNat 0), true) else ([], false))
  | [], i, h => by
      have h0 := drop_nil h
      have i0 := impl_FleetReady_l1 a1 a2 l hl h1 h2 l 0 (List.replicate a2.toNat 0) rfl (by simp) (fun v hv => by have := List.eq_of_mem_replicate hv; omega)
      rw [show a1 + ((0 : Nat) : Int) = a1 by omega] at i0
      refine Ev.next1 i0 fun k hk => ?_
      simp only [impl_FleetReady.l0, machsOk, if_true]
      rw [if_neg (by omega), if_pos h2.1, if_pos (by omega)]
      exact hk
  | y :: ys, i, h => by
      obtain ⟨d1, d2, d3⟩ := drop_cons h
      have e : rd_T24 l i = y := getD_drop h
      refine Ev.next1 (impl_FleetReady_l0 a1 a2 l hl h1 h2 ys (i + 1) d3) fun k hk => ?_
      simp only [impl_FleetReady.l0, e, impl_IsMachine_eq, Option.bind_some]
      rw [if_pos (by omega), if_pos (by omega), if_pos (by omega), wrap_succ d1 (by omega)]
      by_cases hy : machOk y.f0 y.f1 = true
      · rw [if_pos hy]; simpa [machsOk, hy] using hk
      · rw [if_neg hy]; simp [machsOk, hy]
theorem impl_FleetReady_no (l : List S24) (a1 a2 : Int) : Ev (fun k => impl_FleetReady.j0 k l a1 a2 true) ([], false) := Ev.next0 fun k => by simp [impl_FleetReady.j0]
theorem impl_FleetReady_ev (l : List S24) (a1 a2 : Int) : Ev (fun k => impl_FleetReady.f k l a1 a2) (fleetOf l a1 a2) := by
  by_cases h : l.length ≤ 8 ∧ (0 ≤ a1 ∧ a1 ≤ 999999000) ∧ (0 ≤ a2 ∧ a2 ≤ 60)
  · have i0 := impl_FleetReady_l0 a1 a2 l h.1 h.2.1 h.2.2 l 0 rfl
    have i1 : Ev (fun k => impl_FleetReady.j0 k l a1 a2 false) (fleetOf l a1 a2) := Ev.next1 i0 fun k hk => by
      simp only [impl_FleetReady.j0, Bool.false_eq_true, if_false]
      refine hk.trans ?_
      unfold fleetOf
      by_cases hm : machsOk l = true
      · rw [if_pos hm, if_pos ⟨h.1, h.2.1, h.2.2, hm⟩]
      · rw [if_neg hm, if_neg (fun q => hm q.2.2.2)]
    refine Ev.of1 i1 fun k hk => ?_
    simp only [impl_FleetReady.f, impl_areShifts_eq, Option.bind_some]
    rw [if_neg (by omega), if_neg (by omega), if_neg (by omega), show decide (0 ≤ a2 ∧ a2 ≤ 60) = true by simpa using h.2.2]
    exact hk
  · have hf : fleetOf l a1 a2 = ([], false) := by unfold fleetOf; rw [if_neg (fun q => h ⟨q.1, q.2.1, q.2.2.1⟩)]
    refine Ev.of1 (impl_FleetReady_no l a1 a2) fun k hk => ?_
    simp only [impl_FleetReady.f, impl_areShifts_eq, Option.bind_some]
    rw [hf]
    by_cases g1 : l.length ≤ 8
    · rw [if_neg (by omega)]
      by_cases g2 : 0 ≤ a1 ∧ a1 ≤ 999999000
      · rw [if_neg (by omega), if_neg (by omega), show decide (0 ≤ a2 ∧ a2 ≤ 60) = false by simp; intro g3; exact Int.lt_of_not_ge fun g4 => h ⟨g1, g2, g3, g4⟩]
        exact hk
      · by_cases g3 : a1 < 0
        · rw [if_pos g3]; exact hk
        · rw [if_neg g3, if_pos (by omega)]; exact hk
    · rw [if_pos (by omega)]; exact hk
theorem spec_l1Cur_states_l0 (l : List Int) (hl : ∀ x ∈ l, 0 ≤ x ∧ x ≤ 255) (hn : l.length ≤ 9223372036854775807) (n : Int) (h2 : n ≤ 61) : ∀ (d : Nat) (x : List Bool) (p s : Int), (n - (x.length : Int)).toNat = d → x.length ≤ 61 → 0 ≤ p → p + 2 * (d : Int) ≤ 700000 → ∃ r p' s', Ev (fun k => spec_l1Cur_states.l0 k x n l p s) (r, p', s') ∧ r.length ≤ 61 ∧ p ≤ p' ∧ p' ≤ p + 2 * (d : Int)
  | 0, x, p, s, hd, hx, h0, h1 => ⟨x, p, s, Ev.next0 fun k => by
      simp only [spec_l1Cur_states.l0]
      rw [if_neg (by omega)], by omega, by omega, by omega⟩
  | d + 1, x, p, s, hd, hx, h0, h1 => by
      obtain ⟨q, p1, s1, e1, b1⟩ := spec_l1Cur_one_some l hl hn p s h0 (by omega) 2
      obtain ⟨r, p', s', h, hr, b2, b3⟩ := spec_l1Cur_states_l0 l hl hn n h2 d (x ++ [q]) p1 s1 (by simp; omega) (by simp; omega) (by omega) (by push_cast at h1; omega)
      refine ⟨r, p', s', Ev.next1 h fun k hk => ?_, hr, by omega, by push_cast; omega⟩
      simp only [spec_l1Cur_states.l0, e1, Option.bind_some]
      rw [if_pos (by omega), if_pos (by omega)]
      exact hk
theorem spec_l1Cur_states_some (l : List Int) (hl : ∀ x ∈ l, 0 ≤ x ∧ x ≤ 255) (hn : l.length ≤ 9223372036854775807) (p s : Int) (h0 : 0 ≤ p) (h1 : p ≤ 500000) : ∃ r p' s', Ev (fun k => spec_l1Cur_states.f k l p s) (r, p', s') ∧ r.length ≤ 61 ∧ p ≤ p' ∧ p' ≤ p + 200 := by
  obtain ⟨q, p1, s1, e1, c1, b1⟩ := spec_l1Cur_pick_some l hl hn p s h0 (by omega) 16
  have c1 := c1.2 (by omega)
  obtain ⟨o, p2, s2, e2, b2⟩ := spec_l1Cur_one_some l hl hn p1 s1 (by omega) (by omega) 20
  by_cases c : o = true
  · obtain ⟨y, p3, s3, e3, c3, b3⟩ := spec_l1Cur_pick_some l hl hn p2 s2 (by omega) (by omega) 2
    have c4 := c3.2 (by omega)
    obtain ⟨r, p', s', h, hr, b4, b5⟩ := spec_l1Cur_states_l0 l hl hn (60 + y) (by omega) _ [] p3 s3 rfl (by simp) (by omega) (by simp; omega)
    have h' : Ev (fun k => spec_l1Cur_states.j0 k [] (60 + y) l p3 s3) (r, p', s') := Ev.next1 h fun k hk => by
      simp only [spec_l1Cur_states.j0]
      exact hk
    simp only [List.length_nil] at b5
    refine ⟨r, p', s', Ev.of1 h' fun k hk => ?_, hr, by omega, by omega⟩
    simp only [spec_l1Cur_states.f, e1, e2, e3, Option.bind_some]
    rw [if_pos c, wrap_id (by omega) (by omega)]
    exact hk
  · obtain ⟨r, p', s', h, hr, b4, b5⟩ := spec_l1Cur_states_l0 l hl hn q (by omega) _ [] p2 s2 rfl (by simp) (by omega) (by simp; omega)
    have h' : Ev (fun k => spec_l1Cur_states.j0 k [] q l p2 s2) (r, p', s') := Ev.next1 h fun k hk => by
      simp only [spec_l1Cur_states.j0]
      exact hk
    simp only [List.length_nil] at b5
    refine ⟨r, p', s', Ev.of1 h' fun k hk => ?_, hr, by omega, by omega⟩
    simp only [spec_l1Cur_states.f, e1, e2, Option.bind_some]
    rw [if_neg c]
    exact hk
theorem spec_DrawWithCalendar_l0 (l : List Int) (hl : ∀ x ∈ l, 0 ≤ x ∧ x ≤ 255) (hn : l.length ≤ 9223372036854775807) (x : List Bool) (hx : x.length ≤ 61) : ∀ (d : Nat) (i : Nat) (off : List Int) (p s : Int), x.length - i = d → i ≤ x.length → off.length ≤ i → 0 ≤ p → p + 2 * (d : Int) ≤ 700000 → ∃ r, Ev (fun k => spec_DrawWithCalendar.l0 k x off (x.length : Int) (i : Int) l p s) (x, r) ∧ r.length ≤ 62
  | 0, i, off, p, s, hd, hi, ho, h0, h1 => by
      obtain ⟨q, p1, s1, e1, _, b1⟩ := spec_l1Cur_pick_some l hl hn p s h0 (by omega) 20
      by_cases c : q = 0
      · obtain ⟨y, p2, s2, e2, b2⟩ := spec_l1Cur_among_some l hl hn p1 s1 (by omega) (by omega) [(x.length : Int), (-1), 0] (by simp)
        refine ⟨off ++ [y], Ev.next0 fun k => ?_, by simp; omega⟩
        simp only [spec_DrawWithCalendar.l0, e1, e2, Option.bind_some]
        rw [if_neg (by omega), if_pos c, if_pos (by omega)]
      · refine ⟨off, Ev.next0 fun k => ?_, by omega⟩
        simp only [spec_DrawWithCalendar.l0, e1, Option.bind_some]
        rw [if_neg (by omega), if_neg c]
  | d + 1, i, off, p, s, hd, hi, ho, h0, h1 => by
      obtain ⟨q, p1, s1, e1, b1⟩ := spec_l1Cur_one_some l hl hn p s h0 (by omega) 4
      by_cases c : q = true
      · obtain ⟨r, h, hr⟩ := spec_DrawWithCalendar_l0 l hl hn x hx d (i + 1) (off ++ [(i : Int)]) p1 s1 (by omega) (by omega) (by simp; omega) (by omega) (by push_cast at h1; omega)
        refine ⟨r, Ev.next1 h fun k hk => ?_, hr⟩
        simp only [spec_DrawWithCalendar.l0, e1, Option.bind_some]
        rw [if_pos (by omega), if_pos c, if_pos (by omega), wrap_succ (n := x.length) (by omega) (by omega)]
        exact hk
      · obtain ⟨r, h, hr⟩ := spec_DrawWithCalendar_l0 l hl hn x hx d (i + 1) off p1 s1 (by omega) (by omega) (by omega) (by omega) (by push_cast at h1; omega)
        refine ⟨r, Ev.next1 h fun k hk => ?_, hr⟩
        simp only [spec_DrawWithCalendar.l0, e1, Option.bind_some]
        rw [if_pos (by omega), if_neg c, wrap_succ (n := x.length) (by omega) (by omega)]
        exact hk
theorem spec_DrawWithCalendar_some (l : List Int) (hl : ∀ x ∈ l, 0 ≤ x ∧ x ≤ 255) (hn : l.length ≤ 9223372036854775807) : ∃ x r, Ev (fun k => spec_DrawWithCalendar.f k l) (x, r) ∧ x.length ≤ 61 ∧ r.length ≤ 62 := by
  obtain ⟨x, p, s, h, hx, b1, b2⟩ := spec_l1Cur_states_some l hl hn 0 0 (by omega) (by omega)
  obtain ⟨r, h', hr⟩ := spec_DrawWithCalendar_l0 l hl hn x hx _ 0 [] p s rfl (by omega) (by simp) (by omega) (by simp; omega)
  refine ⟨x, r, Ev.of2 h h' fun k h1 h2 => ?_, hx, hr⟩
  simp only [spec_DrawWithCalendar.f, h1, Option.bind_some]
  exact h2
theorem impl_areBlocks_l0 (n : Int) (l : List Int) (hn : l.length ≤ 9223372036854775807) : ∀ (ys : List Int) (i : Nat) (p : Int), l.drop i = ys → (i = 0 ∧ p = -1 ∨ 0 < i ∧ l[i - 1]? = some p) → Ev (fun k => impl_areBlocks.l0 k l n l (l.length : Int) i) (rise n p ys)
  | [], i, p, h, hp => Ev.next0 fun k => by
      have h0 := drop_nil h
      simp only [impl_areBlocks.l0, rise]
      rw [if_neg (by omega)]
  | y :: ys, i, p, h, hp => by
      obtain ⟨h1, h2, h3⟩ := drop_cons h
      refine Ev.next1 (impl_areBlocks_l0 n l hn ys (i + 1) y h3 (.inr ⟨by omega, by simpa using h2⟩)) fun k hk => ?_
      have e := rd_drop h
      simp only [impl_areBlocks.l0, e, rise]
      rw [if_pos (by omega), if_pos (by omega), if_pos (by omega), wrap_succ h1 hn]
      by_cases hy : 0 ≤ y ∧ y < n
      · rw [if_neg (by omega), if_neg (by omega)]
        rcases hp with ⟨rfl, rfl⟩ | ⟨hi, hp⟩
        · rw [if_neg (by omega), hk]; simp; omega
        · have e2 : rd l ((i : Int) - 1) = p := by
            rw [show (i : Int) - 1 = ((i - 1 : Nat) : Int) by omega]; exact rd_get hp
          rw [if_pos (by omega), wrap_id (by omega) (by omega), if_pos (by omega), if_pos (by omega), e2]
          by_cases hq : p < y
          · rw [if_neg (by omega), hk]; simp [hy, hq]
          · rw [if_pos (by omega)]; simp [hq]
      · have e3 : (decide (0 ≤ y ∧ y < n ∧ p < y) && rise n y ys) = false := by simp; omega
        rw [e3]; split
        · rfl
        · rw [if_pos (by omega)]
theorem impl_areBlocks_ev (n : Int) (l : List Int) (hn : l.length ≤ 9223372036854775807) : Ev (fun k => impl_areBlocks.f k l n) (rise n (-1) l) :=
  Ev.of1 (impl_areBlocks_l0 n l hn l 0 (-1) rfl (.inl ⟨rfl, rfl⟩)) fun k hk => by simp only [impl_areBlocks.f]; exact hk
theorem spec_l1Rising_l0 (n : Int) (l : List Int) (hn : l.length ≤ 9223372036854775807) : ∀ (ys : List Int) (i : Nat) (p : Int), l.drop i = ys → (i = 0 ∧ p = -1 ∨ 0 < i ∧ l[i - 1]? = some p) → Ev (fun k => spec_l1Rising.l0 k l 0 (n - 1) l (l.length : Int) i) (rise n p ys)
  | [], i, p, h, hp => Ev.next0 fun k => by
      have h0 := drop_nil h
      simp only [spec_l1Rising.l0, rise]
      rw [if_neg (by omega)]
  | y :: ys, i, p, h, hp => by
      obtain ⟨h1, h2, h3⟩ := drop_cons h
      refine Ev.next1 (spec_l1Rising_l0 n l hn ys (i + 1) y h3 (.inr ⟨by omega, by simpa using h2⟩)) fun k hk => ?_
      have e := rd_drop h
      simp only [spec_l1Rising.l0, e, spec_l1In_eq, Option.bind_some, rise]
      rw [if_pos (by omega), if_pos (by omega), if_pos (by omega), wrap_succ h1 hn]
      by_cases hy : 0 ≤ y ∧ y < n
      · rw [if_pos (by simp; omega)]
        rcases hp with ⟨rfl, rfl⟩ | ⟨hi, hp⟩
        · rw [if_neg (by omega), hk]; simp; omega
        · have e2 : rd l (wrap64 ((i : Int) - 1)) = p := by
            rw [wrap_id (by omega) (by omega), show (i : Int) - 1 = ((i - 1 : Nat) : Int) by omega]; exact rd_get hp
          rw [if_pos (by omega), wrap_id (by omega) (by omega), if_pos (by omega), if_pos (by omega)]
          rw [wrap_id (by omega) (by omega)] at e2
          rw [e2]
          by_cases hq : p < y
          · rw [if_neg (by omega), hk]; simp [hy, hq]
          · rw [if_pos (by omega)]; simp [hq]
      · rw [if_neg (by simp; omega)]; congr 1; symm; simp; omega
theorem spec_l1Rising_ev (n : Int) (l : List Int) (hn : l.length ≤ 9223372036854775807) : Ev (fun k => spec_l1Rising.f k l 0 (n - 1)) (rise n (-1) l) :=
  Ev.of1 (spec_l1Rising_l0 n l hn l 0 (-1) rfl (.inl ⟨rfl, rfl⟩)) fun k hk => by simp only [spec_l1Rising.f]; exact hk
def offAll (l : List Bool) (off : List Int) : List Bool := off.foldl (fun a s => a.set s.toNat false) l
theorem offAll_length : ∀ (off : List Int) (l : List Bool), (offAll l off).length = l.length
  | [], l => rfl
  | s :: off, l => by
    have := offAll_length off (l.set s.toNat false)
    simp only [List.length_set] at this
    exact this
def withCal (l : List Bool) (off : List Int) : List Bool × Bool := if l.length ≤ 60 ∧ rise l.length (-1) off = true then (offAll l off, true) else ([], false)
theorem spec_WithCalendar_l0 (n : Nat) (off : List Int) (hn : off.length ≤ 9223372036854775807) (ho : ∀ s ∈ off, 0 ≤ s ∧ s < (n : Int)) : ∀ (ys : List Int) (i : Nat) (a : List Bool), off.drop i = ys → a.length = n → Ev (fun k => spec_WithCalendar.l0 k a off (off.length : Int) i) (offAll a ys, true)
  | [], i, a, h, ha => Ev.next0 fun k => by
      have h0 := drop_nil h
      simp only [spec_WithCalendar.l0, offAll, List.foldl]
      rw [if_neg (by omega)]
  | y :: ys, i, a, h, ha => by
      obtain ⟨h1, h2, h3⟩ := drop_cons h
      have hy := ho y (List.mem_of_getElem? h2)
      refine Ev.next1 (spec_WithCalendar_l0 n off hn ho ys (i + 1) (a.set y.toNat false) h3 (by simpa using ha)) fun k hk => ?_
      have e := rd_drop h
      simp only [spec_WithCalendar.l0, e]
      rw [if_pos (by omega), if_pos (by omega), if_pos (by omega), if_pos (by omega), if_pos (by omega), wrap_succ h1 hn]
      exact hk
theorem spec_WithCalendar_j0 (l : List Bool) (off : List Int) (hl : l.length ≤ 60) (hn : off.length ≤ 9223372036854775807) (ho : rise l.length (-1) off = true) : Ev (fun k => spec_WithCalendar.j0 k l off false) (offAll l off, true) :=
  Ev.next1 (spec_WithCalendar_l0 l.length off hn (fun s hs => by have := rise_mem ho s hs; omega) off 0 l rfl rfl) fun k hk => by
    simp only [spec_WithCalendar.j0, Option.bind_some, List.length_nil, List.nil_append]
    rw [if_neg (by simp), if_pos (by omega)]
    exact hk
theorem spec_WithCalendar_no (l : List Bool) (off : List Int) : Ev (fun k => spec_WithCalendar.j0 k l off true) ([], false) := Ev.next0 fun k => by simp [spec_WithCalendar.j0]
theorem spec_WithCalendar_ev (l : List Bool) (off : List Int) (hn : off.length ≤ 9223372036854775807) : Ev (fun k => spec_WithCalendar.f k l off) (withCal l off) := by
  by_cases hl : l.length ≤ 60
  · by_cases ho : rise l.length (-1) off = true
    · refine (ev_and (spec_l1Rising_ev (l.length : Int) off hn) <| ev_one (spec_WithCalendar_j0 l off hl hn ho)).ev fun k ⟨h1, h2⟩ => ?_
      simp only [spec_WithCalendar.f]
      rw [if_neg (by omega), wrap_id (by omega) (by omega), h1, Option.bind_some, ho, Bool.not_true, h2, withCal, if_pos ⟨hl, ho⟩]
    · refine (ev_and (spec_l1Rising_ev (l.length : Int) off hn) <| ev_one (spec_WithCalendar_no l off)).ev fun k ⟨h1, h2⟩ => ?_
      simp only [spec_WithCalendar.f]
      rw [if_neg (by omega), wrap_id (by omega) (by omega), h1, Option.bind_some, show (!rise l.length (-1) off) = true by simpa using ho, h2, withCal, if_neg (fun h => ho h.2)]
  · refine (ev_one (spec_WithCalendar_no l off)).ev fun k h2 => ?_
    simp only [spec_WithCalendar.f]
    rw [if_pos (by omega), h2, withCal, if_neg (fun h => hl h.1)]
-- needs: spec_WithCalendar
theorem impl_WithCalendar_l0 (n : Nat) (off : List Int) (hn : off.length ≤ 9223372036854775807) (ho : ∀ s ∈ off, 0 ≤ s ∧ s < (n : Int)) : ∀ (ys : List Int) (i : Nat) (a : List Bool), off.drop i = ys → a.length = n → Ev (fun k => impl_WithCalendar.l0 k a off (off.length : Int) i) (offAll a ys, true)
  | [], i, a, h, ha => Ev.next0 fun k => by
      have h0 := drop_nil h
      simp only [impl_WithCalendar.l0, offAll, List.foldl]
      rw [if_neg (by omega)]
  | y :: ys, i, a, h, ha => by
      obtain ⟨h1, h2, h3⟩ := drop_cons h
      have hy := ho y (List.mem_of_getElem? h2)
      refine Ev.next1 (impl_WithCalendar_l0 n off hn ho ys (i + 1) (a.set y.toNat false) h3 (by simpa using ha)) fun k hk => ?_
      have e := rd_drop h
      simp only [impl_WithCalendar.l0, e]
      rw [if_pos (by omega), if_pos (by omega), if_pos (by omega), if_pos (by omega), if_pos (by omega), wrap_succ h1 hn]
      exact hk
theorem impl_WithCalendar_j0 (l : List Bool) (off : List Int) (hl : l.length ≤ 60) (hn : off.length ≤ 9223372036854775807) (ho : rise l.length (-1) off = true) : Ev (fun k => impl_WithCalendar.j0 k l off false) (offAll l off, true) :=
  Ev.next1 (impl_WithCalendar_l0 l.length off hn (fun s hs => by have := rise_mem ho s hs; omega) off 0 l rfl rfl) fun k hk => by
    simp only [impl_WithCalendar.j0, Option.bind_some, List.length_nil, List.nil_append]
    rw [if_neg (by simp), if_pos (by omega)]
    exact hk
theorem impl_WithCalendar_no (l : List Bool) (off : List Int) : Ev (fun k => impl_WithCalendar.j0 k l off true) ([], false) := Ev.next0 fun k => by simp [impl_WithCalendar.j0]
theorem impl_WithCalendar_ev (l : List Bool) (off : List Int) (hn : off.length ≤ 9223372036854775807) : Ev (fun k => impl_WithCalendar.f k l off) (withCal l off) := by
  by_cases hl : l.length ≤ 60
  · by_cases ho : rise l.length (-1) off = true
    · refine (ev_and (impl_areBlocks_ev (l.length : Int) off hn) <| ev_one (impl_WithCalendar_j0 l off hl hn ho)).ev fun k ⟨h1, h2⟩ => ?_
      simp only [impl_WithCalendar.f]
      rw [if_neg (by omega), h1, Option.bind_some, ho, Bool.not_true, h2, withCal, if_pos ⟨hl, ho⟩]
    · refine (ev_and (impl_areBlocks_ev (l.length : Int) off hn) <| ev_one (impl_WithCalendar_no l off)).ev fun k ⟨h1, h2⟩ => ?_
      simp only [impl_WithCalendar.f]
      rw [if_neg (by omega), h1, Option.bind_some, show (!rise l.length (-1) off) = true by simpa using ho, h2, withCal, if_neg (fun h => ho h.2)]
  · refine (ev_one (impl_WithCalendar_no l off)).ev fun k h2 => ?_
    simp only [impl_WithCalendar.f]
    rw [if_pos (by omega), h2, withCal, if_neg (fun h => hl h.1)]
theorem spec_l1Most_eq (a b : Int) : spec_l1Most.f a b = some (max a b) := by
  unfold spec_l1Most.f
  split <;> (congr 1; omega)
theorem spec_LongestDown_l0 (l : List Bool) (hn : l.length ≤ 4611686018427387904) : ∀ (ys : List Bool) (i : Nat) (m n : Int), l.drop i = ys → 0 ≤ n → n ≤ i → Ev (fun k => spec_LongestDown.l0 k m n l (l.length : Int) i) (down ys m n, true)
  | [], i, m, n, h, h0, ha => Ev.next0 fun k => by
      have := drop_nil h
      simp only [spec_LongestDown.l0, down]
      rw [if_neg (by omega)]
  | y :: ys, i, m, n, h, h0, ha => by
      obtain ⟨h1, h2, h3⟩ := drop_cons h
      have e := rdOf_drop (d := false) h
      cases y with
      | true =>
        refine Ev.next1 (spec_LongestDown_l0 l hn ys (i + 1) (max m 0) 0 h3 (by omega) (by push_cast; omega)) fun k hk => ?_
        simp only [spec_LongestDown.l0, e, spec_l1Most_eq, Option.bind_some, down, if_true]
        rw [if_pos (by omega), if_pos (by omega), if_pos (by omega), wrap_succ h1 (by omega)]
        exact hk
      | false =>
        refine Ev.next1 (spec_LongestDown_l0 l hn ys (i + 1) (max m (n + 1)) (n + 1) h3 (by omega) (by push_cast; omega)) fun k hk => ?_
        simp only [spec_LongestDown.l0, e, spec_l1Most_eq, Option.bind_some, down]
        rw [if_pos (by omega), if_pos (by omega), if_pos (by omega), if_neg (by simp), wrap_succ h1 (by omega), wrap_id (by omega) (by omega), if_neg (by simp)]
        exact hk
theorem spec_LongestDown_ev (l : List Bool) (hn : l.length ≤ 4611686018427387904) : Ev (fun k => spec_LongestDown.f k l) (if l.length > 60 then (0, false) else (down l 0 0, true)) :=
  Ev.of1 (spec_LongestDown_l0 l hn l 0 0 0 rfl (by omega) (by omega)) fun k hk => by
    simp only [spec_LongestDown.f]
    split
    · rw [if_pos (by omega)]
    · rw [if_neg (by omega)]; exact hk
theorem spec_brReady_l0 (l : List Bool) (hn : l.length ≤ 4611686018427387904) : ∀ (ys : List Bool) (i : Nat) (a : Int), l.drop i = ys → 0 ≤ a → a ≤ i → Ev (fun k => spec_brReady.l0 k a l (l.length : Int) i) (a + (ys.count true : Int))
  | [], i, a, h, h0, ha => Ev.next0 fun k => by
      have := drop_nil h
      simp only [spec_brReady.l0]
      rw [if_neg (by omega)]; simp
  | y :: ys, i, a, h, h0, ha => by
      obtain ⟨h1, h2, h3⟩ := drop_cons h
      have e := rdOf_drop (d := false) h
      cases y with
      | true =>
        refine Ev.next1 (spec_brReady_l0 l hn ys (i + 1) (a + 1) h3 (by omega) (by push_cast; omega)) fun k hk => ?_
        simp only [spec_brReady.l0, e]
        rw [if_pos (by omega), if_pos (by omega), if_pos (by omega), if_pos (by simp), wrap_succ h1 (by omega), wrap_id (by omega) (by omega), hk]
        congr 1; simp; omega
      | false =>
        refine Ev.next1 (spec_brReady_l0 l hn ys (i + 1) a h3 h0 (by push_cast; omega)) fun k hk => ?_
        simp only [spec_brReady.l0, e]
        rw [if_pos (by omega), if_pos (by omega), if_pos (by omega), if_neg (by simp), wrap_succ h1 (by omega), hk]
        simp
theorem spec_brReady_ev (l : List Bool) (hn : l.length ≤ 4611686018427387904) : Ev (fun k => spec_brReady.f k l) (l.count true : Int) :=
  Ev.of1 (spec_brReady_l0 l hn l 0 0 rfl (by omega) (by omega)) fun k hk => by simp only [spec_brReady.f]; simpa using hk
theorem spec_ReadyIn_ev (l : List Bool) (hn : l.length ≤ 4611686018427387904) : Ev (fun k => spec_ReadyIn.f k l) (if l.length > 60 then (0, false) else ((l.count true : Int), true)) :=
  Ev.of1 (spec_brReady_ev l hn) fun k hk => by
    simp only [spec_ReadyIn.f, hk, Option.bind_some]
    split <;> (split <;> first | rfl | omega)
theorem laws_qInts_l0 (l : List Int) (hn : l.length ≤ 4611686018427387904) : ∀ (ys : List Int) (i : Nat), l.drop i = ys → Ev (fun k => laws_qInts.l0 k l l (l.length : Int) i) true
  | [], i, h => Ev.next0 fun k => by
      have h0 := drop_nil h
      simp only [laws_qInts.l0]
      rw [if_neg (by omega)]
  | y :: ys, i, h => by
      obtain ⟨h1, h2, h3⟩ := drop_cons h
      refine Ev.next1 (laws_qInts_l0 l hn ys (i + 1) h3) fun k hk => ?_
      simp only [laws_qInts.l0]
      rw [if_pos (by omega), if_pos (by omega), if_pos (by omega), if_pos (by omega), if_pos trivial, wrap_succ h1 (by omega)]
      exact hk
theorem laws_qInts_ev (l : List Int) (hn : l.length ≤ 4611686018427387904) : Ev (fun k => laws_qInts.f k l l) true :=
  Ev.of1 (laws_qInts_l0 l hn l 0 rfl) fun k hk => by
    simp only [laws_qInts.f]
    rw [if_pos trivial]
    exact hk
theorem laws_qHas_l0 (l : List Int) (x : Int) (hn : l.length ≤ 4611686018427387904) : ∀ (ys : List Int) (i : Nat), l.drop i = ys → Ev (fun k => laws_qHas.l0 k x l (l.length : Int) i) (decide (x ∈ ys))
  | [], i, h => Ev.next0 fun k => by
      have h0 := drop_nil h
      simp only [laws_qHas.l0]
      rw [if_neg (by omega)]
      simp
  | y :: ys, i, h => by
      obtain ⟨h1, h2, h3⟩ := drop_cons h
      refine Ev.next1 (laws_qHas_l0 l x hn ys (i + 1) h3) fun k hk => ?_
      simp only [laws_qHas.l0]
      rw [if_pos (by omega), if_pos (by omega), if_pos (by omega), rd_drop h, wrap_succ h1 (by omega)]
      by_cases c : y = x
      · rw [if_pos c]; simp [c]
      · rw [if_neg c, hk]; simp [Ne.symm c]
theorem laws_qHas_ev (l : List Int) (x : Int) (hn : l.length ≤ 4611686018427387904) : Ev (fun k => laws_qHas.f k l x) (decide (x ∈ l)) :=
  Ev.of1 (laws_qHas_l0 l x hn l 0 rfl) fun k hk => by
    simp only [laws_qHas.f]
    exact hk
theorem laws_qSum_l0 (l : List Int) (hn : l.length ≤ 1048576) : ∀ (ys : List Int) (i : Nat) (a : Int), l.drop i = ys → 0 ≤ a → a ≤ 1000000000000 * (i : Int) → (∀ v ∈ ys, 0 ≤ v ∧ v ≤ 1000000000000) → Ev (fun k => laws_qSum.l0 k a l (l.length : Int) i) (a + ys.sum)
  | [], i, a, h, h0, h1, hv => Ev.next0 fun k => by
      have h0 := drop_nil h
      simp only [laws_qSum.l0]
      rw [if_neg (by omega)]
      simp
  | y :: ys, i, a, h, h0, h1, hv => by
      obtain ⟨g1, g2, g3⟩ := drop_cons h
      have v := hv y (by simp)
      refine Ev.next1 (laws_qSum_l0 l hn ys (i + 1) (a + y) g3 (by omega) (by push_cast; omega) (fun z hz => hv z (by simp [hz]))) fun k hk => ?_
      simp only [laws_qSum.l0]
      rw [if_pos (by omega), if_pos (by omega), if_pos (by omega), rd_drop h, wrap_succ g1 (by omega), wrap_id (by omega) (by omega), hk]
      simp only [List.sum_cons]
      rw [Int.add_assoc]
theorem laws_qSum_ev (l : List Int) (hn : l.length ≤ 1048576) (hv : ∀ v ∈ l, 0 ≤ v ∧ v ≤ 1000000000000) : Ev (fun k => laws_qSum.f k l) l.sum :=
  Ev.of1 (laws_qSum_l0 l hn l 0 0 rfl (by omega) (by omega) hv) fun k hk => by
    simp only [laws_qSum.f]
    refine hk.trans ?_
    rw [Int.zero_add]
-- needs: spec_WithCalendar spec_FleetReady spec_LongestDown
/-! What the law on shifts says of calendars and fleets. -/
theorem count_set : ∀ (l : List Bool) (i : Nat), (l.set i false).count true ≤ l.count true ∧ l.count true ≤ (l.set i false).count true + 1
  | [], i => by simp
  | b :: bs, 0 => by cases b <;> simp [List.count_cons]
  | b :: bs, i + 1 => by
    have ih := count_set bs i
    cases b <;> simp only [List.set_cons_succ, List.count_cons] <;> omega
theorem count_off : ∀ (off : List Int) (l : List Bool), (offAll l off).count true ≤ l.count true ∧ l.count true ≤ (offAll l off).count true + off.length
  | [], l => by simp [offAll]
  | s :: off, l => by
    have h := count_off off (l.set s.toNat false)
    have g := count_set l s.toNat
    have e : offAll l (s :: off) = offAll (l.set s.toNat false) off := rfl
    rw [e, List.length_cons]
    omega
theorem down_le : ∀ (l : List Bool) (m n m' n' : Int), m ≤ m' → n ≤ n' → down l m n ≤ down l m' n'
  | [], m, n, m', n', hm, hn => by simp only [down]; exact hm
  | true :: bs, m, n, m', n', hm, hn => by
    simp only [down, if_true]
    exact down_le bs _ _ _ _ (by omega) (by omega)
  | false :: bs, m, n, m', n', hm, hn => by
    simp only [down, Bool.false_eq_true, if_false]
    exact down_le bs _ _ _ _ (by omega) (by omega)
theorem down_set : ∀ (l : List Bool) (i : Nat) (m n m' n' : Int), 0 ≤ n → m ≤ m' → n ≤ n' → down l m n ≤ down (l.set i false) m' n'
  | [], i, m, n, m', n', h0, hm, hn => by simp only [down, List.set_nil]; exact hm
  | true :: bs, 0, m, n, m', n', h0, hm, hn => by
    simp only [down, if_true, List.set_cons_zero, Bool.false_eq_true, if_false]
    exact down_le bs _ _ _ _ (by omega) (by omega)
  | false :: bs, 0, m, n, m', n', h0, hm, hn => by
    simp only [down, List.set_cons_zero, Bool.false_eq_true, if_false]
    exact down_le bs _ _ _ _ (by omega) (by omega)
  | true :: bs, i + 1, m, n, m', n', h0, hm, hn => by
    simp only [down, if_true, List.set_cons_succ]
    exact down_set bs i _ _ _ _ (by omega) (by omega) (by omega)
  | false :: bs, i + 1, m, n, m', n', h0, hm, hn => by
    simp only [down, List.set_cons_succ, Bool.false_eq_true, if_false]
    exact down_set bs i _ _ _ _ (by omega) (by omega) (by omega)
theorem down_off : ∀ (off : List Int) (l : List Bool), down l 0 0 ≤ down (offAll l off) 0 0
  | [], l => Int.le_refl _
  | s :: off, l => Int.le_trans (down_set l s.toNat 0 0 0 0 (by omega) (by omega) (by omega)) (down_off off (l.set s.toNat false))
theorem off_get : ∀ (off : List Int) (l : List Bool) (i : Nat) (b : Bool), (∀ s ∈ off, 0 ≤ s) → l[i]? = some b → (offAll l off)[i]? = some (b && !decide ((i : Int) ∈ off))
  | [], l, i, b, _, h => by simp [offAll, h]
  | s :: off, l, i, b, hs, h => by
    have h0 := hs s (by simp)
    obtain ⟨hi, hb⟩ := List.getElem?_eq_some_iff.1 h
    have e : offAll l (s :: off) = offAll (l.set s.toNat false) off := rfl
    rw [e]
    by_cases c : s.toNat = i
    · have g : (l.set s.toNat false)[i]? = some false := by rw [c, List.getElem?_set_self hi]
      rw [off_get off _ i false (fun z hz => hs z (by simp [hz])) g]
      have : (i : Int) = s := by omega
      simp [this]
    · have g : (l.set s.toNat false)[i]? = some b := by rw [List.getElem?_set_ne c, h]
      rw [off_get off _ i b (fun z hz => hs z (by simp [hz])) g]
      have : ¬ (i : Int) = s := by omega
      simp [this]
theorem addB_sum : ∀ (xs : List Int) (cs : List Bool), xs.length = cs.length → (addB xs cs).sum = xs.sum + (cs.count true : Int)
  | [], [], _ => rfl
  | [], _ :: _, h => by simp at h
  | _ :: _, [], h => by simp at h
  | x :: xs, c :: cs, h => by
    have ih := addB_sum xs cs (by simpa using h)
    cases c
    · simp only [addB, List.sum_cons, ih, Bool.false_eq_true, if_false, List.count_cons]
      simp; omega
    · simp only [addB, List.sum_cons, ih, if_true, List.count_cons]
      simp; omega
/-- How many shifts the machines are ready, all in all. -/
def counts (n : Nat) : List S24 → Int → Int
  | [], _ => 0
  | m :: ms, key => ((states m.f0 m.f1 key n 0 m.f2).count true : Int) + counts n ms (key + 1)
theorem fleet_sum (n : Nat) : ∀ (ms : List S24) (key : Int) (acc : List Int), acc.length = n → (fleet n ms key acc).sum = acc.sum + counts n ms key
  | [], key, acc, _ => by simp [fleet, counts]
  | m :: ms, key, acc, h => by
    have hl : acc.length = (states m.f0 m.f1 key n 0 m.f2).length := by rw [states_length]; exact h
    simp only [fleet, counts]
    rw [fleet_sum n ms (key + 1) _ (by rw [addB_length _ _ hl]; exact h), addB_sum _ _ hl]
    omega
theorem fleet_mem (n : Nat) (b : Nat) : ∀ (ms : List S24) (key : Int) (acc : List Int) (a : Nat), a + ms.length ≤ b → (∀ v ∈ acc, 0 ≤ v ∧ v ≤ (a : Int)) → ∀ v ∈ fleet n ms key acc, 0 ≤ v ∧ v ≤ (b : Int)
  | [], key, acc, a, ha, h, v, hv => by
    have := h v hv
    simp only [List.length_nil] at ha
    omega
  | m :: ms, key, acc, a, ha, h, v, hv => by
    simp only [List.length_cons] at ha
    exact fleet_mem n b ms (key + 1) _ (a + 1) (by omega) (fun z hz => by have := addB_mem (a : Int) _ _ h z hz; omega) v hv
theorem count_lens (l : List Bool) : l.count true ≤ l.length := List.count_le_length
-- needs: shift_props
theorem wf_u8 {n : Int} (h : (Lit.int .u8 n).wf = true) : 0 ≤ n ∧ n ≤ 255 := by
  simp [Lit.wf, IntKind.min, IntKind.max, IntKind.signed, IntKind.bits] at h
  omega
theorem laws_l2 (key n : Int) (want : List Int) (ms : List S24) (i : Int) (bs : List Bool) (hb : bs.length ≤ 60) (r : Bool) : ∀ (cs : List Bool) (j : Nat) (x : Int), bs.drop j = cs → 0 ≤ x → x ≤ 1000000 + (j : Int) →
    Ev (fun k => laws_FnShifts.l1 k key n want (x + (cs.count true : Int)) ms (ms.length : Int) (wrap64 (i + 1))) r →
    Ev (fun k => laws_FnShifts.l2 k key n want x ms (ms.length : Int) i bs (bs.length : Int) j) r
  | [], j, x, h, h0, h1, hr => by
      have g := drop_nil h
      refine Ev.next1 hr fun k hk => ?_
      simp only [laws_FnShifts.l2]
      rw [if_neg (by omega)]
      simpa using hk
  | true :: cs, j, x, h, h0, h1, hr => by
      obtain ⟨g1, g2, g3⟩ := drop_cons h
      refine Ev.next1 (laws_l2 key n want ms i bs hb r cs (j + 1) (x + 1) g3 (by omega) (by push_cast; omega) ?_) fun k hk => ?_
      · rw [List.count_cons, beq_self_eq_true, if_pos rfl] at hr
        rw [show x + 1 + (cs.count true : Int) = x + ((cs.count true + 1 : Nat) : Int) by omega]
        exact hr
      · simp only [laws_FnShifts.l2]
        rw [if_pos (by omega), if_pos (by omega), if_pos (by omega), rdOf_drop h, if_pos rfl, wrap_succ g1 (by omega), wrap_id (x := x + 1) (by omega) (by omega)]
        exact hk
  | false :: cs, j, x, h, h0, h1, hr => by
      obtain ⟨g1, g2, g3⟩ := drop_cons h
      refine Ev.next1 (laws_l2 key n want ms i bs hb r cs (j + 1) x g3 (by omega) (by push_cast; omega) ?_) fun k hk => ?_
      · rw [List.count_cons] at hr
        simpa using hr
      · simp only [laws_FnShifts.l2]
        rw [if_pos (by omega), if_pos (by omega), if_pos (by omega), rdOf_drop h, if_neg (by simp), wrap_succ g1 (by omega)]
        exact hk
theorem laws_l1 (key n : Int) (want : List Int) (ms : List S24) (hm : ms.length ≤ 8) (hk : 0 ≤ key ∧ key ≤ 999999000) (hn : 0 ≤ n ∧ n ≤ 60) (hw : (want.length : Int) = n) (hv : ∀ v ∈ want, 0 ≤ v ∧ v ≤ 1000000000000) : ∀ (ys : List S24) (i : Nat) (x : Int), ms.drop i = ys → machsOk ys = true → 0 ≤ x → x ≤ 60 * (i : Int) → x + counts n.toNat ys (key + i) = want.sum →
    Ev (fun k => laws_FnShifts.l1 k key n want x ms (ms.length : Int) i) true
  | [], i, x, h, ho, h0, h1, hs => by
      have g := drop_nil h
      refine Ev.next1 (laws_qSum_ev want (by omega) hv) fun k hk => ?_
      simp only [counts] at hs
      simp only [laws_FnShifts.l1, hk, Option.bind_some]
      rw [if_neg (by omega), if_pos (by omega)]
      simp [hw]
  | y :: ys, i, x, h, ho, h0, h1, hs => by
      obtain ⟨g1, g2, g3⟩ := drop_cons h
      simp only [machsOk, Bool.and_eq_true] at ho
      have e : rd_T24 ms i = y := getD_drop h
      have hst : statesM y.f0 y.f1 y.f2 (key + i) n = (states y.f0 y.f1 (key + i) n.toNat 0 y.f2, true) := by
        rw [statesM, if_pos ⟨ho.1, ⟨by omega, by omega⟩, hn⟩]
      have a1 := impl_StatesOf_ev y.f0 y.f1 y.f2 (key + i) n
      have a2 := spec_StatesOf_ev y.f0 y.f1 y.f2 (key + i) n
      rw [hst] at a1 a2
      have len := states_length y.f0 y.f1 (key + i) n.toNat 0 y.f2
      have cl := count_lens (states y.f0 y.f1 (key + i) n.toNat 0 y.f2)
      simp only [counts] at hs
      have ih := laws_l1 key n want ms hm hk hn hw hv ys (i + 1) (x + ((states y.f0 y.f1 (key + i) n.toNat 0 y.f2).count true : Int)) g3 ho.2 (by omega) (by push_cast; omega)
        (by rw [show key + ((i + 1 : Nat) : Int) = key + (i : Int) + 1 by omega]; omega)
      rw [← wrap_succ g1 (by omega)] at ih
      have i2 := laws_l2 key n want ms i (states y.f0 y.f1 (key + i) n.toNat 0 y.f2) (by omega) true _ 0 x rfl h0 (by omega) ih
      have i12 : Ev (fun k => laws_FnShifts.j12 k key n want x (states y.f0 y.f1 (key + i) n.toNat 0 y.f2) ms (ms.length : Int) i) true := Ev.next1 i2 fun k hk => by
        simp only [laws_FnShifts.j12]
        exact hk
      have i11 : Ev (fun k => laws_FnShifts.j11 k key n want x (states y.f0 y.f1 (key + i) n.toNat 0 y.f2) ms (ms.length : Int) i false) true := Ev.next1 i12 fun k hk => by
        simp only [laws_FnShifts.j11]
        rw [if_neg (by simp)]
        exact hk
      have i10 : Ev (fun k => laws_FnShifts.j10 k key n want x ms (ms.length : Int) i) true := (ev_and a1 <| ev_and a2 <| ev_and (laws_qBools_ev (states y.f0 y.f1 (key + i) n.toNat 0 y.f2) (by omega)) <| ev_one i11).next fun k ⟨h1, h2, h3, h4⟩ => by
        simp only [laws_FnShifts.j10, e]
        rw [if_pos (by omega), if_pos (by omega), wrap_id (x := key + (i : Int)) (by omega) (by omega), h1, Option.bind_some, h2, Option.bind_some, if_pos rfl, if_pos rfl, h3, Option.bind_some]
        exact h4
      refine Ev.next1 i10 fun k h4 => ?_
      simp only [laws_FnShifts.l1]
      rw [if_pos (by omega)]
      exact h4
theorem laws_j7 (ms : List S24) (key n : Int) : Ev (fun k => laws_FnShifts.j7 k ms key n (fleetOf ms key n).2 (fleetOf ms key n).1) true := by
  unfold fleetOf
  by_cases c : ms.length ≤ 8 ∧ (0 ≤ key ∧ key ≤ 999999000) ∧ (0 ≤ n ∧ n ≤ 60) ∧ machsOk ms = true
  · rw [if_pos c]
    obtain ⟨c1, c2, c3, c4⟩ := c
    have len := fleet_length n.toNat ms key (List.replicate n.toNat 0) (by simp)
    have mem := fleet_mem n.toNat 8 ms key (List.replicate n.toNat 0) 0 (by omega) (fun v hv => by have := List.eq_of_mem_replicate hv; omega)
    have sum := fleet_sum n.toNat ms key (List.replicate n.toNat 0) (by simp)
    have z : (List.replicate n.toNat (0 : Int)).sum = 0 := by simp
    have i1 := laws_l1 key n (fleet n.toNat ms key (List.replicate n.toNat 0)) ms c1 c2 c3 (by omega) (fun v hv => by have := mem v hv; omega) ms 0 0 rfl c4 (by omega) (by omega)
      (by rw [show key + ((0 : Nat) : Int) = key by omega]; omega)
    have i8 : Ev (fun k => laws_FnShifts.j8 k ms key n (fleet n.toNat ms key (List.replicate n.toNat 0))) true := Ev.next1 i1 fun k hk => by
      simp only [laws_FnShifts.j8]
      exact hk
    refine Ev.next1 i8 fun k hk => ?_
    simp only [laws_FnShifts.j7, if_true]
    exact hk
  · rw [if_neg c]
    exact Ev.next0 fun k => by simp only [laws_FnShifts.j7]; rw [if_neg (by simp)]
theorem laws_l0 (ms : List S24) (key n : Int) (s c : List Bool) (off : List Int) (hs : s.length ≤ 60) (ho : off.length ≤ 62) (hp : ∀ x ∈ off, 0 ≤ x) (hc : c = offAll s off) : ∀ (ys : List Bool) (i : Nat), c.drop i = ys →
    Ev (fun k => laws_FnShifts.l0 k ms key n (fleetOf ms key n).2 (fleetOf ms key n).1 s off c (c.length : Int) i) true
  | [], i, h => by
      have g := drop_nil h
      refine Ev.next1 (laws_j7 ms key n) fun k hk => ?_
      simp only [laws_FnShifts.l0]
      rw [if_neg (by omega)]
      exact hk
  | y :: ys, i, h => by
      obtain ⟨g1, g2, g3⟩ := drop_cons h
      have len : c.length = s.length := by rw [hc, offAll_length]
      have hi : i < s.length := by omega
      have si : s[i]? = some s[i] := List.getElem?_eq_getElem hi
      have g := off_get off s i s[i] hp si
      rw [← hc, g2] at g
      have g := Option.some.inj g
      refine (ev_and (laws_qHas_ev off i (by omega)) <| ev_one (laws_l0 ms key n s c off hs ho hp hc ys (i + 1) g3)).next fun k ⟨h1, h2⟩ => ?_
      simp only [laws_FnShifts.l0]
      rw [if_pos (by omega), if_pos (by omega), if_pos (by omega), if_pos (by omega), rdOf_get si, rdOf_drop h, h1, Option.bind_some, wrap_succ g1 (by omega)]
      by_cases b : s[i] = true
      · rw [if_pos b, if_neg (by rw [g, b, Bool.true_and, bne_self_eq_false]; simp)]
        exact h2
      · have b : s[i] = false := by simpa using b
        rw [if_neg (by simp [b]), if_neg (by rw [g, b, Bool.false_and]; simp)]
        exact h2
theorem laws_j3 (ms : List S24) (key n : Int) (s : List Bool) (off : List Int) (hs : s.length ≤ 61) (ho : off.length ≤ 62) (down' ready : Int) (hd : s.length ≤ 60 → down' = down s 0 0) (hr : s.length ≤ 60 → ready = (s.count true : Int)) :
    Ev (fun k => laws_FnShifts.j3 k ms key n (fleetOf ms key n).2 (fleetOf ms key n).1 s off (withCal s off).1 (withCal s off).2 (withCal s off).1 down' ready) true := by
  unfold withCal
  by_cases c : s.length ≤ 60 ∧ rise s.length (-1) off = true
  · rw [if_pos c]
    have hd := hd c.1
    have hr := hr c.1
    have len : (offAll s off).length = s.length := offAll_length off s
    have cnt := count_off off s
    have cl := count_lens s
    have dn := down_off off s
    have l0 := laws_l0 ms key n s (offAll s off) off c.1 ho (fun x hx => (rise_mem c.2 x hx).1) rfl (offAll s off) 0 rfl
    have j5 : Ev (fun k => laws_FnShifts.j5 k ms key n (fleetOf ms key n).2 (fleetOf ms key n).1 s off (offAll s off)) true := Ev.next1 l0 fun k hk => by
      simp only [laws_FnShifts.j5]
      exact hk
    have j4 : Ev (fun k => laws_FnShifts.j4 k ms key n (fleetOf ms key n).2 (fleetOf ms key n).1 s off (offAll s off) false) true := Ev.next1 j5 fun k hk => by
      simp only [laws_FnShifts.j4]
      rw [if_neg (by simp)]
      exact hk
    have a1 := impl_ReadyIn_ev (offAll s off) (by omega)
    have a2 := impl_LongestDown_ev (offAll s off) (by omega)
    rw [if_neg (by omega)] at a1 a2
    refine (ev_and a1 <| ev_and a2 <| ev_one j4).next fun k ⟨h1, h2, h3⟩ => ?_
    simp only [laws_FnShifts.j3, h1, h2, Option.bind_some]
    rw [if_pos trivial, if_pos trivial, if_pos trivial, if_neg (by omega), if_neg (by omega), wrap_id (by omega) (by omega), show decide (((offAll s off).count true : Int) < ready - (off.length : Int)) = false from decide_eq_false (by omega)]
    exact h3
  · rw [if_neg c]
    refine Ev.next1 (laws_j7 ms key n) fun k hk => ?_
    simp only [laws_FnShifts.j3]
    rw [if_neg (by simp)]
    exact hk
theorem laws_j1 (ms : List S24) (key n : Int) (s : List Bool) (off : List Int) (hs : s.length ≤ 61) (ho : off.length ≤ 62) (d r : Int) (b1 b2 : Bool) (hd : s.length ≤ 60 → d = down s 0 0) (hr : s.length ≤ 60 → r = (s.count true : Int)) :
    Ev (fun k => laws_FnShifts.j1 k ms key n (fleetOf ms key n).1 (fleetOf ms key n).2 (fleetOf ms key n).1 (fleetOf ms key n).2 s off (withCal s off).1 (withCal s off).2 (withCal s off).1 (withCal s off).2 d b1 d b1 r b2 r b2) true := by
  have w1 := fleetOf_len ms key n
  have w2 : (withCal s off).1.length ≤ 61 := by
    unfold withCal
    split
    · rw [offAll_length]; exact hs
    · simp
  have j2 : Ev (fun k => laws_FnShifts.j2 k ms key n (fleetOf ms key n).2 (fleetOf ms key n).1 s off (withCal s off).1 (withCal s off).2 (withCal s off).1 d r false) true := Ev.next1 (laws_j3 ms key n s off hs ho d r hd hr) fun k hk => by
    simp only [laws_FnShifts.j2]
    rw [if_neg (by simp)]
    exact hk
  refine (ev_and (laws_qInts_ev (fleetOf ms key n).1 (by omega)) <| ev_and (laws_qBools_ev (withCal s off).1 (by omega)) <| ev_one j2).next fun k ⟨e1, e2, e3⟩ => ?_
  simp only [laws_FnShifts.j1, e1, e2, Option.bind_some]
  rw [if_neg (by simp), if_pos trivial, if_neg (by simp), if_pos trivial, if_neg (by simp), if_pos trivial, if_neg (by simp), bne_self_eq_false, e3]
theorem FnShifts : Stat.FnShifts := by
  intro l0 l1 h0 h1
  refine Ev.rounds ?_
  by_cases hg : wrap64 ((l0.length : Int) + (l1.length : Int)) > 1048576
  · refine Ev.all fun k => ?_
    simp only [laws_FnShifts.f]
    rw [if_pos hg]
  · obtain ⟨ms, key, n, d1, m1⟩ := spec_DrawFleetReady_some l0 (fun x hx => wf_u8 (h0.2 x hx)) h0.1
    obtain ⟨s, off, d2, m2, m3⟩ := spec_DrawWithCalendar_some l1 (fun x hx => wf_u8 (h1.2 x hx)) h1.1
    have j0 : Ev (fun k => laws_FnShifts.j0 k l0 l1) true := by
      by_cases c : s.length > 60
      · have a1 := impl_LongestDown_ev s (by omega)
        have a2 := spec_LongestDown_ev s (by omega)
        have a3 := impl_ReadyIn_ev s (by omega)
        have a4 := spec_ReadyIn_ev s (by omega)
        rw [if_pos c] at a1 a2 a3 a4
        refine (ev_and d1 <| ev_and d2 <| ev_and (impl_FleetReady_ev ms key n) <| ev_and (spec_FleetReady_ev ms key n) <| ev_and (impl_WithCalendar_ev s off (by omega)) <| ev_and (spec_WithCalendar_ev s off (by omega)) <| ev_and a1 <| ev_and a2 <| ev_and a3 <| ev_and a4 <| ev_one (laws_j1 ms key n s off m2 m3 0 0 false false (fun h => by omega) (fun h => by omega))).next
          fun k ⟨e1, e2, e3, e4, e5, e6, e7, e8, e9, e10, e11⟩ => ?_
        simp only [laws_FnShifts.j0, e1, e2, e3, e4, e5, e6, e7, e8, e9, e10, Option.bind_some]
        exact e11
      · have a1 := impl_LongestDown_ev s (by omega)
        have a2 := spec_LongestDown_ev s (by omega)
        have a3 := impl_ReadyIn_ev s (by omega)
        have a4 := spec_ReadyIn_ev s (by omega)
        rw [if_neg c] at a1 a2 a3 a4
        refine (ev_and d1 <| ev_and d2 <| ev_and (impl_FleetReady_ev ms key n) <| ev_and (spec_FleetReady_ev ms key n) <| ev_and (impl_WithCalendar_ev s off (by omega)) <| ev_and (spec_WithCalendar_ev s off (by omega)) <| ev_and a1 <| ev_and a2 <| ev_and a3 <| ev_and a4 <| ev_one (laws_j1 ms key n s off m2 m3 _ _ true true (fun h => rfl) (fun h => rfl))).next
          fun k ⟨e1, e2, e3, e4, e5, e6, e7, e8, e9, e10, e11⟩ => ?_
        simp only [laws_FnShifts.j0, e1, e2, e3, e4, e5, e6, e7, e8, e9, e10, Option.bind_some]
        exact e11
    refine Ev.of1 j0 fun k hk => ?_
    simp only [laws_FnShifts.f]
    rw [if_neg hg, hk]
end Go.Proofs.Ytccpgcgaaiafnaa.PureFnShifts
namespace Go.Proofs.Ytccpgcgaaiafnaa.Pure
theorem FnShifts : Stat.FnShifts := PureFnShifts.FnShifts
end Go.Proofs.Ytccpgcgaaiafnaa.Pure
