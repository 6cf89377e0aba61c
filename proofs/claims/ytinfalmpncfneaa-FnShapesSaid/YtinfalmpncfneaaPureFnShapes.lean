/- The law FnShapes over numbers and lists: it is true of every input. -/
import Derived.Test.YtinfalmpncfneaaStatFnShapes
import Derived.Test.YtinfalmpncfneaaWMore
set_option linter.unusedVariables false
set_option linter.unusedSimpArgs false
namespace Go.Proofs.Ytinfalmpncfneaa.Kit
open Go.RowKit Go.Proofs.YtinfalmpncfneaaW.PrintWords Go.Proofs.YtinfalmpncfneaaW.PrintMore

/-! ### Rounds -/
theorem Ev.all {α : Type} {g : Nat → Option α} {r : α} (h : ∀ k, g k = some r) : Ev g r := ⟨0, fun k _ => h k⟩
theorem Ev.of1 {α β : Type} {g : Nat → Option α} {f : Nat → Option β} {r : α} {b : β} (h : Ev f b) (k : ∀ k, f k = some b → g k = some r) : Ev g r := by
  obtain ⟨K, h⟩ := h; exact ⟨K, fun n hn => k n (h n hn)⟩
theorem Ev.of2 {α β γ : Type} {g : Nat → Option α} {f : Nat → Option β} {f' : Nat → Option γ} {r : α} {b : β} {c : γ} (h : Ev f b) (h' : Ev f' c) (k : ∀ k, f k = some b → f' k = some c → g k = some r) : Ev g r := by
  obtain ⟨K, h⟩ := h; obtain ⟨K', h'⟩ := h'; exact ⟨K + K', fun n hn => k n (h n (by omega)) (h' n (by omega))⟩
theorem Ev.next0 {α : Type} {g : Nat → Option α} {r : α} (h : ∀ k, g (k + 1) = some r) : Ev g r :=
  ⟨1, fun n hn => by obtain ⟨m, rfl⟩ : ∃ m, n = m + 1 := ⟨n - 1, by omega⟩; exact h m⟩
theorem Ev.next1 {α β : Type} {g : Nat → Option α} {f : Nat → Option β} {r : α} {b : β} (h : Ev f b) (k : ∀ k, f k = some b → g (k + 1) = some r) : Ev g r := by
  obtain ⟨K, h⟩ := h
  exact ⟨K + 1, fun n hn => by obtain ⟨m, rfl⟩ : ∃ m, n = m + 1 := ⟨n - 1, by omega⟩; exact k m (h m (by omega))⟩
theorem Ev.next2 {α β γ : Type} {g : Nat → Option α} {f : Nat → Option β} {f' : Nat → Option γ} {r : α} {b : β} {c : γ} (h : Ev f b) (h' : Ev f' c) (k : ∀ k, f k = some b → f' k = some c → g (k + 1) = some r) : Ev g r := by
  obtain ⟨K, h⟩ := h; obtain ⟨K', h'⟩ := h'
  exact ⟨K + K' + 1, fun n hn => by obtain ⟨m, rfl⟩ : ∃ m, n = m + 1 := ⟨n - 1, by omega⟩; exact k m (h m (by omega)) (h' m (by omega))⟩
theorem Ev.uniq {α : Type} {g : Nat → Option α} {r s : α} (h : Ev g r) (k : Ev g s) : r = s := by
  obtain ⟨K, h⟩ := h; obtain ⟨K', k⟩ := k
  have a := h (K + K') (by omega); have b := k (K + K') (by omega)
  rw [a] at b; exact Option.some.inj b

/-- From some number of rounds on. -/
def Evt (p : Nat → Prop) : Prop := ∃ K, ∀ k, K ≤ k → p k
theorem ev_one {α : Type} {f : Nat → Option α} {a : α} (h : Ev f a) : Evt (fun k => f k = some a) := h
theorem ev_and {α : Type} {f : Nat → Option α} {a : α} {p : Nat → Prop} (h : Ev f a) (h' : Evt p) : Evt (fun k => f k = some a ∧ p k) := by
  obtain ⟨K, h⟩ := h; obtain ⟨K', h'⟩ := h'; exact ⟨K + K', fun n hn => ⟨h n (by omega), h' n (by omega)⟩⟩
theorem Evt.ev {α : Type} {g : Nat → Option α} {r : α} {p : Nat → Prop} (h : Evt p) (k : ∀ k, p k → g k = some r) : Ev g r := by
  obtain ⟨K, h⟩ := h; exact ⟨K, fun n hn => k n (h n hn)⟩
theorem Evt.next {α : Type} {g : Nat → Option α} {r : α} {p : Nat → Prop} (h : Evt p) (k : ∀ k, p k → g (k + 1) = some r) : Ev g r := by
  obtain ⟨K, h⟩ := h
  exact ⟨K + 1, fun n hn => by obtain ⟨m, rfl⟩ : ∃ m, n = m + 1 := ⟨n - 1, by omega⟩; exact k m (h m (by omega))⟩

/-! ### Whole numbers -/
theorem wrap_id {x : Int} (h0 : -9223372036854775808 ≤ x) (h1 : x ≤ 9223372036854775807) : wrap64 x = x := by unfold wrap64; omega
theorem wrap_succ {i n : Nat} (h : i < n) (hn : n ≤ 9223372036854775807) : wrap64 ((i : Int) + 1) = ((i + 1 : Nat) : Int) := by unfold wrap64; omega
theorem toNat_cast (i : Nat) : ((i : Int)).toNat = i := by omega

/-! ### Lists from an index on -/
theorem drop_cons {α : Type} {xs ys : List α} {y : α} {i : Nat} (h : xs.drop i = y :: ys) : i < xs.length ∧ xs[i]? = some y ∧ xs.drop (i + 1) = ys := by
  have hlt : i < xs.length := by
    by_cases hlt : i < xs.length
    · exact hlt
    · rw [List.drop_of_length_le (by omega)] at h; cases h
  rw [List.drop_eq_getElem_cons hlt] at h
  injection h with h1 h2
  exact ⟨hlt, by rw [List.getElem?_eq_getElem hlt, h1], h2⟩
theorem drop_nil {α : Type} {xs : List α} {i : Nat} (h : xs.drop i = []) : xs.length ≤ i := by simpa using h
theorem getD_drop {α : Type} {xs ys : List α} {y d : α} {i : Nat} (h : xs.drop i = y :: ys) : xs.getD ((i : Int)).toNat d = y := by
  rw [toNat_cast, List.getD_eq_getElem?_getD, (drop_cons h).2.1]; rfl
theorem rd_drop {xs ys : List Int} {y : Int} {i : Nat} (h : xs.drop i = y :: ys) : rd xs (i : Int) = y := getD_drop h
theorem rdOf_drop {α : Type} {xs ys : List α} {y d : α} {i : Nat} (h : xs.drop i = y :: ys) : rdOf d xs (i : Int) = y := getD_drop h
theorem getD_get {α : Type} {xs : List α} {y d : α} {i : Nat} (h : xs[i]? = some y) : xs.getD ((i : Int)).toNat d = y := by
  rw [toNat_cast, List.getD_eq_getElem?_getD, h]; rfl
theorem rd_get {xs : List Int} {y : Int} {i : Nat} (h : xs[i]? = some y) : rd xs (i : Int) = y := getD_get h
theorem rdOf_get {α : Type} {xs : List α} {y d : α} {i : Nat} (h : xs[i]? = some y) : rdOf d xs (i : Int) = y := getD_get h
theorem drop_of_get {α : Type} {xs : List α} {y : α} {i : Nat} (h : xs[i]? = some y) : xs.drop i = y :: xs.drop (i + 1) := by
  obtain ⟨hl, rfl⟩ := List.getElem?_eq_some_iff.1 h
  exact List.drop_eq_getElem_cons hl

/-- What is left of a, n taken off; -1 if it isn't enough. -/
def left (a : Int) (n : Nat) : Int := if a < (n : Int) then -1 else a - (n : Int)
/-! ### A list that is copied, element for element -/
/-! ### Strictly increasing lists of 0..n-1 -/
/-! ### Numbers marked and held -/
end Go.Proofs.Ytinfalmpncfneaa.Kit
namespace Go.Proofs.Ytinfalmpncfneaa.Model
open Go.RowKit Go.Proofs.YtinfalmpncfneaaW.PrintWords Go.Proofs.Ytinfalmpncfneaa.Kit

/-- Numbers within bounds, all of them. -/
def allIn (lo hi : Int) : List Int → Bool
  | [] => true
  | y :: ys => decide (lo ≤ y ∧ y ≤ hi) && allIn lo hi ys
def benchOk (x y : Int) (l : List Int) : Bool := decide (1 ≤ x ∧ x ≤ 8 ∧ 1 ≤ y ∧ y ≤ 6 ∧ (l.length : Int) = x * y) && allIn (-1000000) 1000000 l
theorem bench_prod {x y : Int} (hx : 1 ≤ x ∧ x ≤ 8) (hy : 1 ≤ y ∧ y ≤ 6) : 1 ≤ x * y ∧ x * y ≤ 48 := by
  rcases (by omega : x = 1 ∨ x = 2 ∨ x = 3 ∨ x = 4 ∨ x = 5 ∨ x = 6 ∨ x = 7 ∨ x = 8) with rfl | rfl | rfl | rfl | rfl | rfl | rfl | rfl <;> omega
theorem bench_len {x y : Int} {l : List Int} (h : benchOk x y l = true) : (1 ≤ x ∧ x ≤ 8) ∧ (1 ≤ y ∧ y ≤ 6) ∧ (l.length : Int) = x * y ∧ 1 ≤ l.length ∧ l.length ≤ 48 := by
  simp only [benchOk, Bool.and_eq_true, decide_eq_true_eq] at h
  have := bench_prod (x := x) (y := y) (by omega) (by omega)
  omega
/-- A row of cells and rows of them, as bytes: the last row first. -/
def rowBytes (bs : List Bool) : List Int := bs.map fun b => if b = true then 35 else 46
def digBytes (d : List Bool) (w : Nat) : Nat → List Int
  | 0 => []
  | y + 1 => rowBytes ((d.drop (y * w)).take w) ++ 10 :: digBytes d w y
theorem str_snoc (xs : List Int) (x : Int) (b : UInt8) (h : UInt8.ofNat x.toNat = b) : strOfNums xs ++ (⟨#[b]⟩ : ByteArray) = strOfNums (xs ++ [x]) := by
  apply ByteArray.ext
  simp [strOfNums, ByteArray.data_append, h]
theorem grid_row {w y : Nat} {n : Nat} (hw : 1 ≤ w ∧ w ≤ 8) (hy : y < 6) (hn : (y + 1) * w ≤ n) (h48 : n ≤ 48) : y * w ≤ 48 ∧ (y + 1) * w = y * w + w ∧ y * w + w ≤ n := by
  rw [Nat.add_mul, Nat.one_mul] at hn ⊢; omega
end Go.Proofs.Ytinfalmpncfneaa.Model
namespace Go.Proofs.Ytinfalmpncfneaa.PureFnShapes
open Go.RowKit Go.Proofs.Ytinfalmpncfneaa.PFnShapes Go.Proofs.YtinfalmpncfneaaW.PrintWords Go.Proofs.YtinfalmpncfneaaW.PrintLast Go.Proofs.YtinfalmpncfneaaW.PrintMore Go.Proofs.Ytinfalmpncfneaa.Kit Go.Proofs.Ytinfalmpncfneaa.Model
theorem laws_big_eq (l m : List Int) : ∃ b, laws_big.f l m = some b := by
  simp only [laws_big.f]
  split <;> exact ⟨_, rfl⟩
theorem wf_u8 {n : Int} (h : (Lit.int .u8 n).wf = true) : 0 ≤ n ∧ n ≤ 255 := by
  simp [Lit.wf, IntKind.min, IntKind.max, IntKind.signed, IntKind.bits] at h
  omega
theorem wrap_u64' (n : Int) : IntKind.u64.wrap n = n % 18446744073709551616 := by simp [IntKind.wrap, IntKind.bits, IntKind.signed]
theorem and255 (x : Int) (h0 : 0 ≤ x) (h1 : x < 16777216) : Go.bits .and .u64 x 255 = x % 256 := bits_mask .u64 24 (by decide) (fun n a b => by rw [wrap_u64']; omega) 8 (by decide) x h0 h1
theorem tail_bd (y : Int) : 0 ≤ wrap64 (Go.bits .and .u64 (IntKind.u64.wrap y / 1099511627776) 255) ∧ wrap64 (Go.bits .and .u64 (IntKind.u64.wrap y / 1099511627776) 255) ≤ 255 := by
  rw [wrap_u64', and255 _ (by omega) (by omega), wrap_id (by omega) (by omega)]
  omega
theorem byte_bd {l : List Int} (hl : ∀ x ∈ l, 0 ≤ x ∧ x ≤ 255) {p : Int} (h0 : 0 ≤ p) (h1 : p < (l.length : Int)) : 0 ≤ rd l p ∧ rd l p ≤ 255 := by
  obtain ⟨i, rfl⟩ := Int.eq_ofNat_of_zero_le h0
  have hi : i < l.length := by omega
  have e : l[i]? = some l[i] := List.getElem?_eq_getElem hi
  have r : rd l ((i : Nat) : Int) = l[i] := rd_get e
  show 0 ≤ rd l ((i : Nat) : Int) ∧ rd l ((i : Nat) : Int) ≤ 255
  rw [r]
  exact hl _ (List.getElem_mem hi)
theorem spec_l1Cur_next_some (l : List Int) (hl : ∀ x ∈ l, 0 ≤ x ∧ x ≤ 255) (hn : l.length ≤ 9223372036854775807) (p s : Int) (h0 : 0 ≤ p) (h1 : p ≤ 1000000) : ∃ r s', spec_l1Cur_next.f l p s = some (r, p + 1, s') ∧ 0 ≤ r ∧ r ≤ 255 := by
  have ew : wrap64 (p + 1) = p + 1 := wrap_id (by omega) (by omega)
  simp only [spec_l1Cur_next.f, ew]
  by_cases c : p < (l.length : Int)
  · rw [if_pos c, if_pos h0, if_pos (by omega)]
    have b := byte_bd hl h0 c
    exact ⟨_, _, rfl, by rw [wrap_id (by omega) (by omega)]; exact b⟩
  · rw [if_neg c, if_neg (by omega)]
    exact ⟨_, _, rfl, tail_bd _⟩
theorem spec_l1Cur_pick_some (l : List Int) (hl : ∀ x ∈ l, 0 ≤ x ∧ x ≤ 255) (hn : l.length ≤ 9223372036854775807) (p s : Int) (h0 : 0 ≤ p) (h1 : p ≤ 900000) (n : Int) : ∃ r p' s', spec_l1Cur_pick.f l p s n = some (r, p', s') ∧ (0 ≤ r ∧ (1 ≤ n → r < n)) ∧ p ≤ p' ∧ p' ≤ p + 2 := by
  by_cases c : n ≤ 1
  · refine ⟨0, p, s, ?_, by omega, by omega, by omega⟩
    simp only [spec_l1Cur_pick.f]
    rw [if_pos c]
  · obtain ⟨x, s1, e1, b1⟩ := spec_l1Cur_next_some l hl hn p s h0 (by omega)
    have tm : ∀ v : Int, 0 ≤ v → 0 ≤ Int.tmod v n ∧ Int.tmod v n < n := fun v hv => by
      rw [Int.tmod_eq_emod_of_nonneg hv]
      exact ⟨Int.emod_nonneg v (by omega), Int.emod_lt_of_pos v (by omega)⟩
    by_cases d : n > 200
    · obtain ⟨y, s2, e2, b2⟩ := spec_l1Cur_next_some l hl hn (p + 1) s1 (by omega) (by omega)
      have t := tm (x * 256 + y) (by omega)
      refine ⟨Int.tmod (x * 256 + y) n, p + 1 + 1, s2, ?_, ⟨t.1, fun _ => t.2⟩, by omega, by omega⟩
      simp only [spec_l1Cur_pick.f, e1, e2, Option.bind_some]
      rw [if_neg c, if_pos d, if_neg (by omega), wrap_id (x := x * 256) (by omega) (by omega), wrap_id (x := x * 256 + y) (by omega) (by omega)]
    · have t := tm x b1.1
      refine ⟨Int.tmod x n, p + 1, s1, ?_, ⟨t.1, fun _ => t.2⟩, by omega, by omega⟩
      simp only [spec_l1Cur_pick.f, e1, Option.bind_some]
      rw [if_neg c, if_neg d, if_neg (by omega)]
theorem spec_l1Cur_one_some (l : List Int) (hl : ∀ x ∈ l, 0 ≤ x ∧ x ≤ 255) (hn : l.length ≤ 9223372036854775807) (p s : Int) (h0 : 0 ≤ p) (h1 : p ≤ 900000) (n : Int) : ∃ r p' s', spec_l1Cur_one.f l p s n = some (r, p', s') ∧ p ≤ p' ∧ p' ≤ p + 2 := by
  obtain ⟨r, p', s', e, _, c⟩ := spec_l1Cur_pick_some l hl hn p s h0 h1 n
  exact ⟨(r == 0), p', s', by simp only [spec_l1Cur_one.f, e, Option.bind_some], c⟩
theorem spec_l1Cur_among_some (l : List Int) (hl : ∀ x ∈ l, 0 ≤ x ∧ x ≤ 255) (hn : l.length ≤ 9223372036854775807) (p s : Int) (h0 : 0 ≤ p) (h1 : p ≤ 900000) (xs : List Int) (hx : 1 ≤ xs.length) : ∃ r p' s', spec_l1Cur_among.f l p s xs = some (r, p', s') ∧ p ≤ p' ∧ p' ≤ p + 2 := by
  obtain ⟨r, p', s', e, b, c⟩ := spec_l1Cur_pick_some l hl hn p s h0 h1 (xs.length : Int)
  have d := b.2 (by omega)
  refine ⟨rd xs r, p', s', ?_, c⟩
  simp only [spec_l1Cur_among.f, e, Option.bind_some]
  rw [if_pos b.1, if_pos d]
theorem spec_l1Cur_bench_l0 (l : List Int) (hl : ∀ x ∈ l, 0 ≤ x ∧ x ≤ 255) (hn : l.length ≤ 9223372036854775807) (x y : Int) (hx : 1 ≤ x ∧ x ≤ 8) (hy : 1 ≤ y ∧ y ≤ 6) : ∀ (d : Nat) (v : List Int) (p s : Int), v.length + d ≤ 48 → 1 ≤ v.length + d → 0 ≤ p → p + 4 * (d : Int) ≤ 700000 → ∃ x' y' v' p' s', Ev (fun k => spec_l1Cur_bench.l0 k (d : Int) l p s x y v) (x', y', v', p', s') ∧ v'.length ≤ 48 ∧ p ≤ p' ∧ p' ≤ p + 4 * (d : Int) + 4
  | 0, v, p, s, h1, h2, h3, h4 => by
      obtain ⟨q, p1, s1, e1, _, b1⟩ := spec_l1Cur_pick_some l hl hn p s h3 (by omega) 30
      by_cases c0 : q = 0
      · obtain ⟨r, p2, s2, e2, b2⟩ := spec_l1Cur_among_some l hl hn p1 s1 (by omega) (by omega) [0, 9, wrap64 (x + 1)] (by simp)
        refine ⟨r, y, v, p2, s2, Ev.next0 fun k => ?_, by omega, by omega, by omega⟩
        simp only [spec_l1Cur_bench.l0, e1, e2, Option.bind_some]
        rw [if_neg (by omega), if_pos c0]
      by_cases c1 : q = 1
      · obtain ⟨r, p2, s2, e2, b2⟩ := spec_l1Cur_among_some l hl hn p1 s1 (by omega) (by omega) [0, 7] (by simp)
        refine ⟨x, r, v, p2, s2, Ev.next0 fun k => ?_, by omega, by omega, by omega⟩
        simp only [spec_l1Cur_bench.l0, e1, e2, Option.bind_some]
        rw [if_neg (by omega), if_neg c0, if_pos c1]
      by_cases c2 : q = 2
      · obtain ⟨r, p2, s2, e2, b2⟩ := spec_l1Cur_among_some l hl hn p1 s1 (by omega) (by omega) [(-1000000), 1000000, 1000001, (-1000001)] (by simp)
        refine ⟨x, y, v.set (0 : Int).toNat r, p2, s2, Ev.next0 fun k => ?_, by rw [List.length_set]; omega, by omega, by omega⟩
        simp only [spec_l1Cur_bench.l0, e1, e2, Option.bind_some]
        rw [if_neg (by omega), if_neg c0, if_neg c1, if_pos c2, if_pos (by omega)]
      by_cases c3 : q = 3
      · refine ⟨9, 1, List.replicate 9 0, p1, s1, Ev.next0 fun k => ?_, by simp, by omega, by omega⟩
        simp only [spec_l1Cur_bench.l0, e1, Option.bind_some]
        rw [if_neg (by omega), if_neg c0, if_neg c1, if_neg c2, if_pos c3, if_pos (by decide)]
      by_cases c4 : q = 4
      · refine ⟨1, 7, List.replicate 7 0, p1, s1, Ev.next0 fun k => ?_, by simp, by omega, by omega⟩
        simp only [spec_l1Cur_bench.l0, e1, Option.bind_some]
        rw [if_neg (by omega), if_neg c0, if_neg c1, if_neg c2, if_neg c3, if_pos c4, if_pos (by decide)]
      · refine ⟨x, y, v, p1, s1, Ev.next0 fun k => ?_, by omega, by omega, by omega⟩
        simp only [spec_l1Cur_bench.l0, e1, Option.bind_some]
        rw [if_neg (by omega), if_neg c0, if_neg c1, if_neg c2, if_neg c3, if_neg c4]
  | d + 1, v, p, s, h1, h2, h3, h4 => by
      obtain ⟨q, p1, s1, e1, _, b1⟩ := spec_l1Cur_pick_some l hl hn p s h3 (by omega) 40
      obtain ⟨r, p2, s2, e2, b2⟩ := spec_l1Cur_among_some l hl hn p1 s1 (by omega) (by omega) [(-3), (-2), (-1), 0, 1, 2, 5, wrap64 (q - 20)] (by simp)
      obtain ⟨x', y', v', p', s', h, g1, g2, g3⟩ := spec_l1Cur_bench_l0 l hl hn x y hx hy d (v ++ [r]) p2 s2 (by simp; omega) (by simp; omega) (by omega) (by push_cast at h4; omega)
      refine ⟨x', y', v', p', s', Ev.next1 h fun k hk => ?_, g1, by omega, by push_cast; omega⟩
      simp only [spec_l1Cur_bench.l0, e1, e2, Option.bind_some]
      rw [if_pos (by omega), if_pos (by omega), wrap_id (x := ((d + 1 : Nat) : Int) - 1) (by omega) (by omega), show ((d + 1 : Nat) : Int) - 1 = (d : Int) by omega]
      exact hk
theorem spec_l1Cur_bench_some (l : List Int) (hl : ∀ x ∈ l, 0 ≤ x ∧ x ≤ 255) (hn : l.length ≤ 9223372036854775807) (p s : Int) (h0 : 0 ≤ p) (h1 : p ≤ 500000) : ∃ x y v p' s', Ev (fun k => spec_l1Cur_bench.f k l p s) (x, y, v, p', s') ∧ v.length ≤ 48 ∧ p ≤ p' ∧ p' ≤ p + 300 := by
  obtain ⟨a, p1, s1, e1, c1, b1⟩ := spec_l1Cur_pick_some l hl hn p s h0 (by omega) 6
  obtain ⟨b, p2, s2, e2, c2, b2⟩ := spec_l1Cur_pick_some l hl hn p1 s1 (by omega) (by omega) 3
  obtain ⟨o, p3, s3, e3, b3⟩ := spec_l1Cur_one_some l hl hn p2 s2 (by omega) (by omega) 24
  have c1' := c1.2 (by omega)
  have c2' := c2.2 (by omega)
  have main : ∀ x y : Int, (1 ≤ x ∧ x ≤ 8) → (1 ≤ y ∧ y ≤ 6) → ∃ x' y' v p' s', Ev (fun k => spec_l1Cur_bench.j0 k l p3 s3 x y) (x', y', v, p', s') ∧ v.length ≤ 48 ∧ p3 ≤ p' ∧ p' ≤ p3 + 200 := fun x y hx hy => by
    have m0 : 1 ≤ x * y := Int.mul_pos (by omega) (by omega)
    have m1 : x * y ≤ 8 * 6 := Int.mul_le_mul hx.2 hy.2 (by omega) (by omega)
    obtain ⟨d, hd⟩ := Int.eq_ofNat_of_zero_le (show 0 ≤ x * y by omega)
    obtain ⟨x', y', v, p', s', h, g1, g2, g3⟩ := spec_l1Cur_bench_l0 l hl hn x y hx hy d [] p3 s3 (by simp; omega) (by simp; omega) (by omega) (by omega)
    refine ⟨x', y', v, p', s', Ev.next1 h fun k hk => ?_, g1, by omega, by omega⟩
    simp only [spec_l1Cur_bench.j0]
    rw [hd, wrap_id (by omega) (by omega)]
    exact hk
  by_cases c : o = true
  · obtain ⟨x, y, v, p', s', h, g1, g2, g3⟩ := main 8 6 (by omega) (by omega)
    refine ⟨x, y, v, p', s', Ev.of1 h fun k hk => ?_, g1, by omega, by omega⟩
    simp only [spec_l1Cur_bench.f, e1, e2, e3, Option.bind_some]
    rw [if_pos c]
    exact hk
  · obtain ⟨x, y, v, p', s', h, g1, g2, g3⟩ := main (1 + a) (1 + b) (by omega) (by omega)
    refine ⟨x, y, v, p', s', Ev.of1 h fun k hk => ?_, g1, by omega, by omega⟩
    simp only [spec_l1Cur_bench.f, e1, e2, e3, Option.bind_some]
    rw [if_neg c, wrap_id (x := 1 + a) (by omega) (by omega), wrap_id (x := 1 + b) (by omega) (by omega)]
    exact hk
theorem spec_l1Cur_digging_l0 (l : List Int) (hl : ∀ x ∈ l, 0 ≤ x ∧ x ≤ 255) (hn : l.length ≤ 9223372036854775807) (x y : Int) (v : List Int) (n : Int) (hv : v.length ≤ 48) : ∀ (d i : Nat) (a : List Bool) (p s : Int), i + d = v.length → a.length = i → 0 ≤ p → p + 2 * (d : Int) ≤ 700000 → ∃ a' p' s', Ev (fun k => spec_l1Cur_digging.l0 k a n (v.length : Int) (i : Int) l p s x y v) (x, y, v, a', p', s') ∧ a'.length ≤ 49 ∧ p ≤ p' ∧ p' ≤ p + 2 * (d : Int) + 2
  | 0, i, a, p, s, h1, h2, h3, h4 => by
      obtain ⟨o, p1, s1, e1, b1⟩ := spec_l1Cur_one_some l hl hn p s h3 (by omega) 24
      by_cases c : o = true
      · refine ⟨a ++ [true], p1, s1, Ev.next0 fun k => ?_, by simp; omega, by omega, by omega⟩
        simp only [spec_l1Cur_digging.l0, e1, Option.bind_some]
        rw [if_neg (by omega), if_pos c, if_pos (by omega)]
      · refine ⟨a, p1, s1, Ev.next0 fun k => ?_, by omega, by omega, by omega⟩
        simp only [spec_l1Cur_digging.l0, e1, Option.bind_some]
        rw [if_neg (by omega), if_neg c]
  | d + 1, i, a, p, s, h1, h2, h3, h4 => by
      obtain ⟨q, p1, s1, e1, _, b1⟩ := spec_l1Cur_pick_some l hl hn p s h3 (by omega) 5
      obtain ⟨a', p', s', h, g1, g2, g3⟩ := spec_l1Cur_digging_l0 l hl hn x y v n hv d (i + 1) (a ++ [decide (q < n)]) p1 s1 (by omega) (by simp; omega) (by omega) (by push_cast at h4; omega)
      refine ⟨a', p', s', Ev.next1 h fun k hk => ?_, g1, by omega, by push_cast; omega⟩
      simp only [spec_l1Cur_digging.l0, e1, Option.bind_some]
      rw [if_pos (by omega), if_pos (by omega), wrap_succ (n := v.length) (by omega) (by omega)]
      exact hk
theorem spec_l1Cur_digging_some (l : List Int) (hl : ∀ x ∈ l, 0 ≤ x ∧ x ≤ 255) (hn : l.length ≤ 9223372036854775807) (p s : Int) (h0 : 0 ≤ p) (h1 : p ≤ 400000) : ∃ x y v a p' s', Ev (fun k => spec_l1Cur_digging.f k l p s) (x, y, v, a, p', s') ∧ v.length ≤ 48 ∧ a.length ≤ 49 := by
  obtain ⟨x, y, v, p1, s1, e1, hv, b1, b2⟩ := spec_l1Cur_bench_some l hl hn p s h0 (by omega)
  obtain ⟨q, p2, s2, e2, _, b3⟩ := spec_l1Cur_pick_some l hl hn p1 s1 (by omega) (by omega) 4
  obtain ⟨a, p', s', h, g1, g2, g3⟩ := spec_l1Cur_digging_l0 l hl hn x y v (wrap64 (1 + q)) hv v.length 0 [] p2 s2 (by omega) rfl (by omega) (by omega)
  refine ⟨x, y, v, a, p', s', Ev.of2 e1 h fun k h1 h2 => ?_, hv, g1⟩
  simp only [spec_l1Cur_digging.f, h1, e2, Option.bind_some]
  exact h2
theorem spec_DrawIsDug_some (l : List Int) (hl : ∀ x ∈ l, 0 ≤ x ∧ x ≤ 255) (hn : l.length ≤ 9223372036854775807) : ∃ x y v a, Ev (fun k => spec_DrawIsDug.f k l) (x, y, v, a) ∧ v.length ≤ 48 ∧ a.length ≤ 49 := by
  obtain ⟨x, y, v, a, p, s, h, g⟩ := spec_l1Cur_digging_some l hl hn 0 0 (by omega) (by omega)
  refine ⟨x, y, v, a, Ev.of1 h fun k hk => ?_, g⟩
  simp only [spec_DrawIsDug.f, hk, Option.bind_some]
theorem spec_DrawGrowDug_some (l : List Int) (hl : ∀ x ∈ l, 0 ≤ x ∧ x ≤ 255) (hn : l.length ≤ 9223372036854775807) : ∃ x y v a, Ev (fun k => spec_DrawGrowDug.f k l) (x, y, v, a) ∧ v.length ≤ 48 ∧ a.length ≤ 49 := by
  obtain ⟨x, y, v, a, h, g⟩ := spec_DrawIsDug_some l hl hn
  refine ⟨x, y, v, a, Ev.of1 h fun k hk => ?_, g⟩
  simp only [spec_DrawGrowDug.f, hk, Option.bind_some]
theorem impl_goodValues_l0 (l : List Int) (hn : l.length ≤ 9223372036854775807) : ∀ (ys : List Int) (i : Nat), l.drop i = ys → Ev (fun k => impl_goodValues.l0 k l (l.length : Int) i) (allIn (-1000000) 1000000 ys)
  | [], i, h => Ev.next0 fun k => by
      have h0 := drop_nil h
      simp only [impl_goodValues.l0, allIn]
      rw [if_neg (by omega)]
  | y :: ys, i, h => by
      obtain ⟨h1, h2, h3⟩ := drop_cons h
      refine Ev.next1 (impl_goodValues_l0 l hn ys (i + 1) h3) fun k hk => ?_
      have e := rd_drop h
      simp only [impl_goodValues.l0, e]
      rw [if_pos (by omega), if_pos (by omega), if_pos (by omega), wrap_succ h1 hn]
      by_cases hy : -1000000 ≤ y
      · rw [if_neg (by omega)]
        by_cases hz : y ≤ 1000000
        · rw [if_neg (by omega), hk]; simp [allIn, hy, hz]
        · rw [if_pos (by omega)]; simp [allIn, hz]
      · rw [if_pos (by omega)]; simp [allIn, hy]
theorem impl_goodValues_ev (l : List Int) (hn : l.length ≤ 9223372036854775807) : Ev (fun k => impl_goodValues.f k l) (decide (1 ≤ l.length ∧ l.length ≤ 120) && allIn (-1000000) 1000000 l) := by
  by_cases h : 1 ≤ l.length ∧ l.length ≤ 120
  · have h1 : Ev (fun k => impl_goodValues.j0 k l false) (allIn (-1000000) 1000000 l) := Ev.next1 (impl_goodValues_l0 l hn l 0 rfl) fun k hk => by
      simp only [impl_goodValues.j0]; rw [if_neg (by simp)]; exact hk
    refine Ev.of1 h1 fun k hk => ?_
    have e : decide ((l.length : Int) > 120) = false := by simp; omega
    simp only [impl_goodValues.f]
    rw [if_neg (by omega), e, hk]; simp [h]
  · have h1 : Ev (fun k => impl_goodValues.j0 k l true) false := Ev.next0 fun k => by simp [impl_goodValues.j0]
    refine Ev.of1 h1 fun k hk => ?_
    simp only [impl_goodValues.f]
    by_cases h2 : l.length < 1
    · rw [if_pos (by omega), hk]; simp; omega
    · have e : decide ((l.length : Int) > 120) = true := by simp; omega
      rw [if_neg (by omega), e, hk]; simp; omega
theorem impl_IsBench_ev (x y : Int) (l : List Int) (hn : l.length ≤ 9223372036854775807) : Ev (fun k => impl_IsBench.f k x y l) (benchOk x y l) := by
  refine Ev.of1 (impl_goodValues_ev l hn) fun k hk => ?_
  simp only [impl_IsBench.f, hk, Option.bind_some, benchOk]
  by_cases hx : 1 ≤ x ∧ x ≤ 8
  · rw [if_neg (by omega), if_neg (by omega)]
    by_cases hy : 1 ≤ y ∧ y ≤ 6
    · have hp := bench_prod hx hy
      rw [if_neg (by omega), if_neg (by omega), wrap_id (by omega) (by omega)]
      by_cases hl : (l.length : Int) = x * y
      · rw [if_pos hl]; congr 1
        rw [decide_eq_true (show 1 ≤ l.length ∧ l.length ≤ 120 by omega)]
        simp [hx, hy, hl]
      · rw [if_neg hl]; congr 1; symm; simp [hl]
    · have e : decide (1 ≤ x ∧ x ≤ 8 ∧ 1 ≤ y ∧ y ≤ 6 ∧ (l.length : Int) = x * y) = false := by simp; omega
      rw [e]; split
      · simp
      · rw [if_pos (by omega)]; simp
  · have e : decide (1 ≤ x ∧ x ≤ 8 ∧ 1 ≤ y ∧ y ≤ 6 ∧ (l.length : Int) = x * y) = false := by simp; omega
    rw [e]; split
    · simp
    · rw [if_pos (by omega)]; simp
theorem impl_isDug_ev (x y : Int) (l : List Int) (d : List Bool) (hn : l.length ≤ 9223372036854775807) : Ev (fun k => impl_isDug.f k x y l d) (benchOk x y l && decide (d.length = l.length)) :=
  Ev.of1 (impl_IsBench_ev x y l hn) fun k hk => by
    simp only [impl_isDug.f, hk, Option.bind_some]
    by_cases h : benchOk x y l = true
    · rw [if_pos h, h]; congr 1; simp only [Bool.true_and]; rw [Bool.eq_iff_iff]; simp; omega
    · rw [if_neg h]; simp [h]
/-- The indices of what is marked, from i on. -/
def marked : List Bool → Nat → List Int
  | [], _ => []
  | b :: bs, i => if b = true then (i : Int) :: marked bs (i + 1) else marked bs (i + 1)
theorem marked_length : ∀ (bs : List Bool) (i : Nat), (marked bs i).length ≤ bs.length
  | [], _ => by simp [marked]
  | b :: bs, i => by simp only [marked]; have := marked_length bs (i + 1); split <;> simp <;> omega
theorem impl_listOf_l0 (d : List Bool) (hn : d.length ≤ 1048576) : ∀ (bs : List Bool) (i : Nat) (a : List Int), d.drop i = bs → a.length ≤ i → Ev (fun k => impl_listOf.l0 k a d (d.length : Int) i) (a ++ marked bs i)
  | [], i, a, h, ha => Ev.next0 fun k => by
      have h0 := drop_nil h
      simp only [impl_listOf.l0, marked, List.append_nil]
      rw [if_neg (by omega)]
  | b :: bs, i, a, h, ha => by
      obtain ⟨h1, h2, h3⟩ := drop_cons h
      have e2 := rdOf_drop (d := false) h
      cases b with
      | true =>
        refine Ev.next1 (impl_listOf_l0 d hn bs (i + 1) (a ++ [(i : Int)]) h3 (by simp; omega)) fun k hk => ?_
        simp only [impl_listOf.l0, e2, marked]
        rw [if_pos (by omega), if_pos (by omega), if_pos (by omega), if_pos (by simp), if_pos (by omega), wrap_succ h1 (by omega), if_pos (by simp)]
        rw [List.append_assoc] at hk; exact hk
      | false =>
        refine Ev.next1 (impl_listOf_l0 d hn bs (i + 1) a h3 (by omega)) fun k hk => ?_
        simp only [impl_listOf.l0, e2, marked]
        rw [if_pos (by omega), if_pos (by omega), if_pos (by omega), if_neg (by simp), wrap_succ h1 (by omega), if_neg (by simp)]
        exact hk
theorem impl_listOf_ev (d : List Bool) (hn : d.length ≤ 1048576) : Ev (fun k => impl_listOf.f k d) (marked d 0) :=
  Ev.of1 (impl_listOf_l0 d hn d 0 [] rfl (by simp)) fun k hk => by simp only [impl_listOf.f]; exact hk
/-- The four sides of cell i; -1: none. -/
def sidesOf (w h i : Int) : List Int := [if i / w + 1 < h then i + w else -1, if i % w + 1 < w then i + 1 else -1, if i / w > 0 then i - w else -1, if i % w > 0 then i - 1 else -1]
/-- The cells beside cell i. -/
def besideOf (w h i : Int) : List Int := (if i / w > 0 then [i - w] else []) ++ ((if i % w > 0 then [i - 1] else []) ++ ((if i % w + 1 < w then [i + 1] else []) ++ (if i / w + 1 < h then [i + w] else [])))
theorem cells_bd {w h i : Int} (hw : 1 ≤ w ∧ w ≤ 8) (hh : 1 ≤ h ∧ h ≤ 6) (hi : 0 ≤ i ∧ i < w * h) :
    (i / w > 0 → 0 ≤ i - w) ∧ (i % w > 0 → 0 ≤ i - 1) ∧ (i % w + 1 < w → i + 1 < w * h) ∧ (i / w + 1 < h → i + w < w * h) ∧ (0 ≤ i / w ∧ i / w ≤ 48) ∧ (0 ≤ i % w ∧ i % w < 8) ∧ w * h ≤ 48 := by
  rcases (by omega : w = 1 ∨ w = 2 ∨ w = 3 ∨ w = 4 ∨ w = 5 ∨ w = 6 ∨ w = 7 ∨ w = 8) with rfl | rfl | rfl | rfl | rfl | rfl | rfl | rfl <;> omega
theorem beside_mem {w h i : Int} (hw : 1 ≤ w ∧ w ≤ 8) (hh : 1 ≤ h ∧ h ≤ 6) (hi : 0 ≤ i ∧ i < w * h) : ∀ c ∈ besideOf w h i, 0 ≤ c ∧ c < w * h := by
  have hb := cells_bd hw hh hi
  intro c hc
  unfold besideOf at hc
  generalize w * h = n at *
  generalize i / w = a at *
  generalize i % w = b at *
  simp only [List.mem_append] at hc
  rcases hc with hc | hc | hc | hc
  · split at hc <;> simp at hc; omega
  · split at hc <;> simp at hc; omega
  · split at hc <;> simp at hc; omega
  · split at hc <;> simp at hc; omega
theorem beside_length (w h i : Int) : (besideOf w h i).length ≤ 4 := by
  unfold besideOf
  repeat' split
  all_goals simp
theorem sides_mem {w h i : Int} (hw : 1 ≤ w ∧ w ≤ 8) (hh : 1 ≤ h ∧ h ≤ 6) (hi : 0 ≤ i ∧ i < w * h) : ∀ c ∈ sidesOf w h i, c < w * h := by
  have hb := cells_bd hw hh hi
  intro c hc
  unfold sidesOf at hc
  generalize w * h = n at *
  generalize i / w = a at *
  generalize i % w = b at *
  simp only [List.mem_cons, List.not_mem_nil, or_false] at hc
  rcases hc with rfl | rfl | rfl | rfl <;> split <;> omega
theorem sides_beside_mem {w h i : Int} (hw : 1 ≤ w ∧ w ≤ 8) (hh : 1 ≤ h ∧ h ≤ 6) (hi : 0 ≤ i ∧ i < w * h) (t : Int) : t ∈ besideOf w h i ↔ t ∈ sidesOf w h i ∧ 0 ≤ t := by
  have hb := cells_bd hw hh hi
  unfold sidesOf besideOf
  generalize w * h = m at *
  generalize i / w = a at *
  generalize i % w = b at *
  by_cases c1 : a + 1 < h <;> by_cases c2 : b + 1 < w <;> by_cases c3 : a > 0 <;> by_cases c4 : b > 0 <;> simp only [c1, c2, c3, c4, if_true, if_false, List.mem_append, List.mem_cons, List.not_mem_nil, or_false, false_or] <;> constructor <;> intro q <;> first | omega | exact q.elim
-- needs: cells
theorem impl_cellsBeside_ev (w h : Int) (v : List Int) (i : Int) (hw : 1 ≤ w ∧ w ≤ 8) (hh : 1 ≤ h ∧ h ≤ 6) (hi : 0 ≤ i ∧ i < w * h) : Ev (fun k => impl_cellsBeside.f k w h v i) (besideOf w h i) := by
  have hb := cells_bd hw hh hi
  have e1 : Int.tdiv i w = i / w := Int.tdiv_eq_ediv_of_nonneg hi.1
  have e2 : Int.tmod i w = i % w := Int.tmod_eq_emod_of_nonneg hi.1
  refine ⟨2, fun n hn => ?_⟩
  obtain ⟨k, rfl⟩ : ∃ k, n = k + 2 := ⟨n - 2, by omega⟩
  simp only [impl_cellsBeside.f, impl_cellsBeside.j0, impl_cellsBeside.j1, e1, e2, besideOf, Option.bind_some]
  generalize w * h = m at *
  generalize i / w = a at *
  generalize i % w = b at *
  have f1 : wrap64 a = a := wrap_id (by omega) (by omega)
  have f2 : wrap64 (a + 1) = a + 1 := wrap_id (by omega) (by omega)
  have f3 : wrap64 (b + 1) = b + 1 := wrap_id (by omega) (by omega)
  have f4 : wrap64 (i + w) = i + w := wrap_id (by omega) (by omega)
  have f5 : wrap64 (i + 1) = i + 1 := wrap_id (by omega) (by omega)
  have f6 : wrap64 (i - w) = i - w := wrap_id (by omega) (by omega)
  have f7 : wrap64 (i - 1) = i - 1 := wrap_id (by omega) (by omega)
  have f0 : ¬ w = 0 := by omega
  simp only [f1, f2, f3, f4, f5, f6, f7, if_neg f0]
  by_cases c1 : a + 1 < h <;> by_cases c2 : b + 1 < w <;> by_cases c3 : a > 0 <;> by_cases c4 : b > 0 <;> simp [c1, c2, c3, c4]
-- needs: cells
theorem spec_dgSides_ev (w h : Int) (v : List Int) (i : Int) (hw : 1 ≤ w ∧ w ≤ 8) (hh : 1 ≤ h ∧ h ≤ 6) (hi : 0 ≤ i ∧ i < w * h) : Ev (fun k => spec_dgSides.f k w h v i) (sidesOf w h i) := by
  have hb := cells_bd hw hh hi
  have e1 : Int.tdiv i w = i / w := Int.tdiv_eq_ediv_of_nonneg hi.1
  have e2 : Int.tmod i w = i % w := Int.tmod_eq_emod_of_nonneg hi.1
  refine ⟨2, fun n hn => ?_⟩
  obtain ⟨k, rfl⟩ : ∃ k, n = k + 2 := ⟨n - 2, by omega⟩
  simp only [spec_dgSides.f, spec_dgSides.j0, spec_dgSides.j1, e1, e2, sidesOf, Option.bind_some]
  generalize w * h = m at *
  generalize i / w = a at *
  generalize i % w = b at *
  have f1 : wrap64 a = a := wrap_id (by omega) (by omega)
  have f2 : wrap64 (a + 1) = a + 1 := wrap_id (by omega) (by omega)
  have f3 : wrap64 (b + 1) = b + 1 := wrap_id (by omega) (by omega)
  have f4 : wrap64 (i + w) = i + w := wrap_id (by omega) (by omega)
  have f5 : wrap64 (i + 1) = i + 1 := wrap_id (by omega) (by omega)
  have f6 : wrap64 (i - w) = i - w := wrap_id (by omega) (by omega)
  have f7 : wrap64 (i - 1) = i - 1 := wrap_id (by omega) (by omega)
  have f0 : ¬ w = 0 := by omega
  simp only [f1, f2, f3, f4, f5, f6, f7, if_neg f0]
  by_cases c1 : a + 1 < h <;> by_cases c2 : b + 1 < w <;> by_cases c3 : a > 0 <;> by_cases c4 : b > 0 <;> simp [c1, c2, c3, c4]
def shr (d : List Bool) : Bool → List Int → Bool
  | b, [] => b
  | b, s :: ss => shr d (if b = true then (if s < 0 then true else rdOf false d s) else false) ss
def gro (d : List Bool) : Bool → List Int → Bool
  | b, [] => b
  | b, s :: ss => gro d (if b = true then true else (if s ≥ 0 then rdOf false d s else false)) ss
theorem shr_iff (d : List Bool) : ∀ (ss : List Int) (b : Bool), shr d b ss = true ↔ b = true ∧ ∀ s ∈ ss, 0 ≤ s → rdOf false d s = true
  | [], b => by simp [shr]
  | s :: ss, b => by
    simp only [shr]
    rw [shr_iff d ss]
    cases b with
    | false => simp
    | true =>
      simp only [if_true]
      by_cases hs : s < 0
      · rw [if_pos hs]; simp; intro _ h; omega
      · rw [if_neg hs]
        constructor
        · rintro ⟨h1, h2⟩; exact ⟨by trivial, fun x hx h0 => by
            rcases List.mem_cons.1 hx with rfl | hx
            · exact h1
            · exact h2 x hx h0⟩
        · rintro ⟨_, h2⟩; exact ⟨h2 s (by simp) (by omega), fun x hx h0 => h2 x (by simp [hx]) h0⟩
theorem gro_iff (d : List Bool) : ∀ (ss : List Int) (b : Bool), gro d b ss = true ↔ b = true ∨ ∃ s ∈ ss, 0 ≤ s ∧ rdOf false d s = true
  | [], b => by simp [gro]
  | s :: ss, b => by
    simp only [gro]
    rw [gro_iff d ss]
    cases b with
    | true => simp
    | false =>
      simp only [Bool.false_eq_true, if_false, false_or, List.mem_cons]
      by_cases hs : s ≥ 0
      · rw [if_pos hs]
        constructor
        · rintro (h | ⟨t, ht, h⟩)
          · exact ⟨s, Or.inl rfl, hs, h⟩
          · exact ⟨t, Or.inr ht, h⟩
        · rintro ⟨t, rfl | ht, h⟩
          · exact Or.inl h.2
          · exact Or.inr ⟨t, ht, h⟩
      · rw [if_neg hs]
        constructor
        · rintro (h | ⟨t, ht, h⟩)
          · cases h
          · exact ⟨t, Or.inr ht, h⟩
        · rintro ⟨t, rfl | ht, h⟩
          · exact absurd h.1 hs
          · exact Or.inr ⟨t, ht, h⟩
def cellsOf (f : Bool → List Int → Bool) (w h : Int) : List Bool → Nat → List Bool
  | [], _ => []
  | b :: bs, i => f b (sidesOf w h (i : Int)) :: cellsOf f w h bs (i + 1)
theorem cellsOf_length (f : Bool → List Int → Bool) (w h : Int) : ∀ (bs : List Bool) (i : Nat), (cellsOf f w h bs i).length = bs.length
  | [], _ => rfl
  | b :: bs, i => by simp [cellsOf, cellsOf_length f w h bs (i + 1)]
theorem cellsOf_get (f : Bool → List Int → Bool) (w h : Int) : ∀ (bs : List Bool) (i j : Nat), (cellsOf f w h bs i)[j]? = bs[j]?.map (fun b => f b (sidesOf w h ((i + j : Nat) : Int)))
  | [], _, j => by simp [cellsOf]
  | b :: bs, i, 0 => by simp [cellsOf]
  | b :: bs, i, j + 1 => by
    simp only [cellsOf, List.getElem?_cons_succ]
    rw [cellsOf_get f w h bs (i + 1) j, show i + 1 + j = i + (j + 1) by omega]
def cellsRes (f : List Bool → Bool → List Int → Bool) (x y : Int) (l : List Int) (d : List Bool) : List Bool × Bool := if benchOk x y l = true ∧ d.length = l.length then (cellsOf (f d) x y d 0, true) else ([], false)
theorem cellsRes_len (f : List Bool → Bool → List Int → Bool) (x y : Int) (l : List Int) (d : List Bool) : (cellsRes f x y l d).1.length ≤ 1000 := by
  unfold cellsRes
  split
  · rename_i h
    have := bench_len h.1
    simp only [cellsOf_length]; omega
  · simp
theorem spec_l1In_eq (a lo hi : Int) : spec_l1In.f a lo hi = some (decide (lo ≤ a ∧ a ≤ hi)) := by
  unfold spec_l1In.f
  split
  · congr 1; simp; omega
  · congr 1; simp; omega
theorem spec_l1All_l0 (lo hi : Int) (l : List Int) (hn : l.length ≤ 9223372036854775807) : ∀ (ys : List Int) (i : Nat), l.drop i = ys → Ev (fun k => spec_l1All.l0 k lo hi l (l.length : Int) i) (allIn lo hi ys)
  | [], i, h => Ev.next0 fun k => by
      have h0 := drop_nil h
      simp only [spec_l1All.l0, allIn]
      rw [if_neg (by omega)]
  | y :: ys, i, h => by
      obtain ⟨h1, h2, h3⟩ := drop_cons h
      refine Ev.next1 (spec_l1All_l0 lo hi l hn ys (i + 1) h3) fun k hk => ?_
      have e := rd_drop h
      simp only [spec_l1All.l0, e, spec_l1In_eq, Option.bind_some]
      rw [if_pos (by omega), if_pos (by omega), if_pos (by omega), wrap_succ h1 hn]
      by_cases hy : lo ≤ y ∧ y ≤ hi
      · rw [if_pos (decide_eq_true hy), hk]; simp [allIn, hy]
      · rw [if_neg (by simp; omega)]; simp [allIn, hy]
theorem spec_l1All_ev (l : List Int) (lo hi : Int) (hn : l.length ≤ 9223372036854775807) : Ev (fun k => spec_l1All.f k l lo hi) (allIn lo hi l) :=
  Ev.of1 (spec_l1All_l0 lo hi l hn l 0 rfl) fun k hk => by simp only [spec_l1All.f]; exact hk
theorem spec_dgGood_ev (x y : Int) (l : List Int) (hn : l.length ≤ 9223372036854775807) : Ev (fun k => spec_dgGood.f k x y l) (benchOk x y l) := by
  refine Ev.of1 (spec_l1All_ev l (-1000000) 1000000 hn) fun k hk => ?_
  simp only [spec_dgGood.f, spec_l1In_eq, hk, Option.bind_some, benchOk, decide_eq_true_eq]
  by_cases hx : 1 ≤ x ∧ x ≤ 8
  · rw [if_pos hx]
    by_cases hy : 1 ≤ y ∧ y ≤ 6
    · have hp := bench_prod hx hy
      rw [if_pos hy, wrap_id (by omega) (by omega)]
      by_cases hl : (l.length : Int) = x * y
      · rw [if_pos hl]; congr 1; simp [hx, hy, hl]
      · rw [if_neg hl]; congr 1; symm; simp [hl]
    · rw [if_neg hy]; congr 1; symm; simp; omega
  · rw [if_neg hx]; congr 1; symm; simp; omega
theorem spec_dgBoth_ev (x y : Int) (l : List Int) (d : List Bool) (hn : l.length ≤ 9223372036854775807) : Ev (fun k => spec_dgBoth.f k x y l d) (benchOk x y l && decide (d.length = l.length)) :=
  Ev.of1 (spec_dgGood_ev x y l hn) fun k hk => by
    simp only [spec_dgBoth.f, hk, Option.bind_some]
    by_cases h : benchOk x y l = true
    · rw [if_pos h, h]; congr 1; simp only [Bool.true_and]; rw [Bool.eq_iff_iff]; simp; omega
    · rw [if_neg h]; simp [h]
-- needs: spec_dgSides sides_model
theorem spec_GrowDug_l1 (d : List Bool) (w h : Int) (v : List Int) (i : Int) (S : List Int) (hS : S.length ≤ 1000) (acc : List Bool) (hacc : acc.length ≤ 1000) (r : List Bool × Bool) : ∀ (ss : List Int) (j : Nat) (b : Bool), S.drop j = ss → (∀ s ∈ ss, s < (d.length : Int)) →
    Ev (fun k => spec_GrowDug.l0 k d (acc ++ [gro d b ss]) d (d.length : Int) (wrap64 (i + 1)) w h v) r → Ev (fun k => spec_GrowDug.l1 k d acc b d (d.length : Int) i S (S.length : Int) j w h v) r
  | [], j, b, hj, hs, hr => by
      have hz := drop_nil hj
      refine Ev.next1 hr fun k hk => ?_
      simp only [spec_GrowDug.l1]
      rw [if_neg (by omega), if_pos (by omega)]
      exact hk
  | s :: ss, j, b, hj, hs, hr => by
      obtain ⟨j1, j2, j3⟩ := drop_cons hj
      have e1 : rd S j = s := rd_drop hj
      have hs0 := hs s (by simp)
      have hs' : ∀ s ∈ ss, s < (d.length : Int) := fun t ht => hs t (by simp [ht])
      refine Ev.next1 (spec_GrowDug_l1 d w h v i S hS acc hacc r ss (j + 1) _ j3 hs' hr) fun k hk => ?_
      simp only [spec_GrowDug.l1, e1]
      rw [if_pos (by omega), if_pos (by omega), if_pos (by omega), wrap_succ j1 (by omega)]
      cases b with
      | true => simp only [if_true] at hk ⊢; exact hk
      | false =>
        simp only [Bool.false_eq_true, if_false] at hk ⊢
        by_cases hc : s ≥ 0
        · rw [if_pos hc] at hk ⊢
          rw [if_pos (by omega), if_pos hs0]; exact hk
        · rw [if_neg hc] at hk ⊢; exact hk
theorem spec_GrowDug_l0 (d : List Bool) (w h : Int) (v : List Int) (hw : 1 ≤ w ∧ w ≤ 8) (hh : 1 ≤ h ∧ h ≤ 6) (hd : (d.length : Int) = w * h) (hn : d.length ≤ 1000) : ∀ (bs : List Bool) (i : Nat) (acc : List Bool), d.drop i = bs → acc.length ≤ i →
    Ev (fun k => spec_GrowDug.l0 k d acc d (d.length : Int) i w h v) (acc ++ cellsOf (gro d) w h bs i, true)
  | [], i, acc, hi, ha => Ev.next0 fun k => by
      have h0 := drop_nil hi
      simp only [spec_GrowDug.l0, cellsOf, List.append_nil]
      rw [if_neg (by omega)]
  | b :: bs, i, acc, hi, ha => by
      obtain ⟨h1, h2, h3⟩ := drop_cons hi
      have eb := rdOf_drop (d := false) hi
      have hcell : 0 ≤ (i : Int) ∧ (i : Int) < w * h := by omega
      have hsl : (sidesOf w h i).length = 4 := rfl
      have i0 := spec_GrowDug_l0 d w h v hw hh hd hn bs (i + 1) (acc ++ [gro d b (sidesOf w h i)]) h3 (by simp; omega)
      rw [← wrap_succ h1 (by omega)] at i0
      have i1 := spec_GrowDug_l1 d w h v i (sidesOf w h i) (by omega) acc (by omega) _ (sidesOf w h i) 0 b rfl (by rw [hd]; exact sides_mem hw hh hcell) i0
      refine Ev.next2 i1 (spec_dgSides_ev w h v i hw hh hcell) fun k k1 k2 => ?_
      simp only [spec_GrowDug.l0, eb, k2, Option.bind_some]
      rw [if_pos (by omega), if_pos (by omega), if_pos (by omega)]
      refine k1.trans ?_
      rw [List.append_assoc]; rfl
theorem spec_GrowDug_ev (x y : Int) (l : List Int) (d : List Bool) (hn : l.length ≤ 9223372036854775807) : Ev (fun k => spec_GrowDug.f k x y l d) (cellsRes gro x y l d) := by
  by_cases h : benchOk x y l = true ∧ d.length = l.length
  · have hb := bench_len h.1
    refine (ev_and (spec_dgBoth_ev x y l d hn) <| ev_one (spec_GrowDug_l0 d x y l hb.1 hb.2.1 (by omega) (by omega) d 0 [] rfl (by simp))).ev fun k ⟨h1, h2⟩ => ?_
    simp only [spec_GrowDug.f, h1, Option.bind_some]
    rw [if_pos (by simpa using h), cellsRes, if_pos h]
    exact h2
  · refine (ev_one (spec_dgBoth_ev x y l d hn)).ev fun k h1 => ?_
    simp only [spec_GrowDug.f, h1, Option.bind_some]
    rw [if_neg (by simpa using h), cellsRes, if_neg h]
-- needs: spec_GrowDug
theorem beside_iff {w h i : Int} (t : Int) : t ∈ besideOf w h i ↔ (i / w > 0 ∧ t = i - w) ∨ (i % w > 0 ∧ t = i - 1) ∨ (i % w + 1 < w ∧ t = i + 1) ∨ (i / w + 1 < h ∧ t = i + w) := by
  unfold besideOf
  by_cases c1 : i / w + 1 < h <;> by_cases c2 : i % w + 1 < w <;> by_cases c3 : i / w > 0 <;> by_cases c4 : i % w > 0 <;> simp [c1, c2, c3, c4]
theorem beside_sym {w h i j : Int} (hw : 1 ≤ w ∧ w ≤ 8) (hi : 0 ≤ i ∧ i < w * h) (hj : 0 ≤ j ∧ j < w * h) (hm : j ∈ besideOf w h i) : i ∈ besideOf w h j := by
  rw [beside_iff] at hm ⊢
  rcases (by omega : w = 1 ∨ w = 2 ∨ w = 3 ∨ w = 4 ∨ w = 5 ∨ w = 6 ∨ w = 7 ∨ w = 8) with rfl | rfl | rfl | rfl | rfl | rfl | rfl | rfl <;> omega
theorem rdOf_set_at (s : List Bool) (t c : Int) (h0 : 0 ≤ t) (h1 : t < s.length) (hc : 0 ≤ c) : rdOf false (s.set t.toNat true) c = true ↔ c = t ∨ rdOf false s c = true := by
  show (s.set t.toNat true).getD c.toNat false = true ↔ c = t ∨ s.getD c.toNat false = true
  by_cases e : c = t
  · subst e
    rw [List.getD_eq_getElem?_getD, List.getElem?_set_self (by omega)]; simp
  · rw [List.getD_eq_getElem?_getD, List.getElem?_set_ne (by omega), ← List.getD_eq_getElem?_getD]; simp [e]
theorem impl_GrowDug_l1 (w h : Int) (v : List Int) (I : List Int) (i : Int) (T : List Int) (hT : T.length ≤ 1000) (n : Nat) (P : Int → Prop) (Q : List Bool × Bool → Prop)
    (next : ∀ s : List Bool, s.length = n → (∀ c, 0 ≤ c → (rdOf false s c = true ↔ P c ∨ c ∈ T)) → ∃ r, Q r ∧ Ev (fun k => impl_GrowDug.l0 k s I (I.length : Int) (wrap64 (i + 1)) w h v) r) :
    ∀ (ts pre : List Int) (j : Nat) (s : List Bool), pre ++ ts = T → T.drop j = ts → (∀ t ∈ ts, 0 ≤ t ∧ t < (n : Int)) → s.length = n → (∀ c, 0 ≤ c → (rdOf false s c = true ↔ P c ∨ c ∈ pre)) →
      ∃ r, Q r ∧ Ev (fun k => impl_GrowDug.l1 k s I (I.length : Int) i T (T.length : Int) j w h v) r
  | [], pre, j, s, hp, hj, ht, hs, hP => by
      have hz := drop_nil hj
      rw [List.append_nil] at hp
      obtain ⟨r, q, hr⟩ := next s hs (hp ▸ hP)
      refine ⟨r, q, Ev.next1 hr fun k hk => ?_⟩
      simp only [impl_GrowDug.l1]
      rw [if_neg (by omega)]; exact hk
  | t :: ts, pre, j, s, hp, hj, ht, hs, hP => by
      obtain ⟨j1, j2, j3⟩ := drop_cons hj
      have e1 := rd_drop hj
      have h0 := ht t (by simp)
      obtain ⟨r, q, hr⟩ := impl_GrowDug_l1 w h v I i T hT n P Q next ts (pre ++ [t]) (j + 1) (s.set t.toNat true) (by rw [List.append_assoc]; exact hp) j3 (fun u hu => ht u (by simp [hu])) (by simpa using hs) (fun c hc => by
        rw [rdOf_set_at s t c h0.1 (by omega) hc, hP c hc]
        simp only [List.mem_append, List.mem_cons, List.not_mem_nil, or_false]
        constructor
        · rintro (q | q | q)
          · exact Or.inr (Or.inr q)
          · exact Or.inl q
          · exact Or.inr (Or.inl q)
        · rintro (q | q | q)
          · exact Or.inr (Or.inl q)
          · exact Or.inr (Or.inr q)
          · exact Or.inl q)
      refine ⟨r, q, Ev.next1 hr fun k hk => ?_⟩
      simp only [impl_GrowDug.l1, e1]
      rw [if_pos (by omega), if_pos (by omega), if_pos (by omega), if_pos h0.1, if_pos (by omega), wrap_succ j1 (by omega)]
      exact hk
theorem impl_GrowDug_l0 (d : List Bool) (w h : Int) (v : List Int) (hw : 1 ≤ w ∧ w ≤ 8) (hh : 1 ≤ h ∧ h ≤ 6) (hd : (d.length : Int) = w * h) (hn : d.length ≤ 1000) (I : List Int) (hI : I.length ≤ 1000) : ∀ (bs : List Bool) (i j : Nat) (s : List Bool), d.drop i = bs → I.drop j = marked bs i → s.length = d.length →
    (∀ c, 0 ≤ c → (rdOf false s c = true ↔ rdOf false d c = true ∨ ∃ q : Nat, q < i ∧ q < d.length ∧ rdOf false d (q : Int) = true ∧ c ∈ besideOf w h (q : Int))) →
    ∃ r : List Bool × Bool, (r.2 = true ∧ r.1.length = d.length ∧ ∀ c, 0 ≤ c → (rdOf false r.1 c = true ↔ rdOf false d c = true ∨ ∃ q : Nat, q < d.length ∧ rdOf false d (q : Int) = true ∧ c ∈ besideOf w h (q : Int))) ∧ Ev (fun k => impl_GrowDug.l0 k s I (I.length : Int) j w h v) r
  | [], i, j, s, hi, hj, hs, hP => by
      have h0 := drop_nil hj
      have h1 := drop_nil hi
      refine ⟨(s, true), ⟨rfl, hs, fun c hc => ?_⟩, Ev.next0 fun k => ?_⟩
      · rw [hP c hc]
        constructor
        · rintro (q | ⟨q, q1, q2, q3⟩)
          · exact Or.inl q
          · exact Or.inr ⟨q, q2, q3⟩
        · rintro (q | ⟨q, q2, q3⟩)
          · exact Or.inl q
          · exact Or.inr ⟨q, by omega, q2, q3⟩
      · simp only [impl_GrowDug.l0]
        rw [if_neg (by omega)]
  | b :: bs, i, j, s, hi, hj, hs, hP => by
      obtain ⟨h1, h2, h3⟩ := drop_cons hi
      have eb := rdOf_drop (d := false) hi
      cases b with
      | false =>
        simp only [marked, Bool.false_eq_true, if_false] at hj
        refine impl_GrowDug_l0 d w h v hw hh hd hn I hI bs (i + 1) j s h3 hj hs (fun c hc => ?_)
        rw [hP c hc]
        constructor
        · rintro (q | ⟨q, q1, q2⟩)
          · exact Or.inl q
          · exact Or.inr ⟨q, by omega, q2⟩
        · rintro (q | ⟨q, q1, q2, q3, q4⟩)
          · exact Or.inl q
          · refine Or.inr ⟨q, ?_, q2, q3, q4⟩
            by_cases e : q = i
            · subst e; rw [eb] at q3; cases q3
            · omega
      | true =>
        simp only [marked, if_true] at hj
        obtain ⟨j1, j2, j3⟩ := drop_cons hj
        have e1 : rd I j = (i : Int) := rd_get j2
        have hcell : 0 ≤ (i : Int) ∧ (i : Int) < w * h := by omega
        have hbl := beside_length w h i
        obtain ⟨r, q, hr⟩ := impl_GrowDug_l1 w h v I j (besideOf w h i) (by omega) d.length (fun c => rdOf false d c = true ∨ ∃ q : Nat, q < i ∧ q < d.length ∧ rdOf false d (q : Int) = true ∧ c ∈ besideOf w h (q : Int)) _ (fun s' hs' hP' => by
          have ih := impl_GrowDug_l0 d w h v hw hh hd hn I hI bs (i + 1) (j + 1) s' h3 j3 hs' (fun c hc => by
            rw [hP' c hc]
            constructor
            · rintro ((q | ⟨q, q1, q2⟩) | q)
              · exact Or.inl q
              · exact Or.inr ⟨q, by omega, q2⟩
              · exact Or.inr ⟨i, by omega, h1, eb, q⟩
            · rintro (q | ⟨q, q1, q2, q3, q4⟩)
              · exact Or.inl (Or.inl q)
              · by_cases e : q = i
                · subst e; exact Or.inr q4
                · exact Or.inl (Or.inr ⟨q, by omega, q2, q3, q4⟩))
          rw [← wrap_succ j1 (by omega)] at ih
          exact ih) (besideOf w h i) [] 0 s rfl rfl (by rw [hd]; exact beside_mem hw hh hcell) hs (fun c hc => by rw [hP c hc]; simp)
        refine ⟨r, q, Ev.next2 hr (impl_cellsBeside_ev w h v i hw hh hcell) fun k k1 k2 => ?_⟩
        simp only [impl_GrowDug.l0, e1, k2, Option.bind_some]
        rw [if_pos (by omega), if_pos (by omega), if_pos (by omega)]
        exact k1
theorem grow_eq (d s : List Bool) {w h : Int} (hw : 1 ≤ w ∧ w ≤ 8) (hh : 1 ≤ h ∧ h ≤ 6) (hd : (d.length : Int) = w * h) (hs : s.length = d.length)
    (hP : ∀ c, 0 ≤ c → (rdOf false s c = true ↔ rdOf false d c = true ∨ ∃ q : Nat, q < d.length ∧ rdOf false d (q : Int) = true ∧ c ∈ besideOf w h (q : Int))) : s = cellsOf (gro d) w h d 0 := by
  apply List.ext_getElem?
  intro k
  rw [cellsOf_get, Nat.zero_add]
  by_cases hk : k < d.length
  · have hcell : 0 ≤ (k : Int) ∧ (k : Int) < w * h := by omega
    have g1 : s[k]? = some (s[k]'(by omega)) := List.getElem?_eq_getElem (by omega)
    have g2 : d[k]? = some d[k] := List.getElem?_eq_getElem hk
    have r1 : rdOf false s (k : Int) = s[k]'(by omega) := rdOf_get g1
    have r2 : rdOf false d (k : Int) = d[k] := rdOf_get g2
    rw [g1, g2, Option.map_some]
    congr 1
    rw [Bool.eq_iff_iff, ← r1, hP k (by omega), gro_iff, r2]
    constructor
    · rintro (q | ⟨q, q1, q2, q3⟩)
      · exact Or.inl q
      · right
        have hq : 0 ≤ (q : Int) ∧ (q : Int) < w * h := by omega
        have := (sides_beside_mem hw hh hcell (q : Int)).1 (beside_sym hw hq hcell q3)
        exact ⟨q, this.1, this.2, q2⟩
    · rintro (q | ⟨c, c1, c2, c3⟩)
      · exact Or.inl q
      · right
        have hb := (sides_beside_mem hw hh hcell c).2 ⟨c1, c2⟩
        have hc := beside_mem hw hh hcell c hb
        refine ⟨c.toNat, by omega, by rw [show ((c.toNat : Nat) : Int) = c by omega]; exact c3, ?_⟩
        rw [show ((c.toNat : Nat) : Int) = c by omega]
        exact beside_sym hw hcell (by omega) hb
  · rw [List.getElem?_eq_none (by omega), List.getElem?_eq_none (by omega)]; rfl
theorem impl_GrowDug_ev (x y : Int) (l : List Int) (d : List Bool) (hn : l.length ≤ 9223372036854775807) : Ev (fun k => impl_GrowDug.f k x y l d) (cellsRes gro x y l d) := by
  by_cases h : benchOk x y l = true ∧ d.length = l.length
  · have hb := bench_len h.1
    have hm := marked_length d 0
    obtain ⟨r, ⟨r1, r2, r3⟩, hr⟩ := impl_GrowDug_l0 d x y l hb.1 hb.2.1 (by omega) (by omega) (marked d 0) (by omega) d 0 0 d rfl rfl rfl (fun c hc => by
      constructor
      · intro q; exact Or.inl q
      · rintro (q | ⟨q, q1, _⟩)
        · exact q
        · omega)
    have e := grow_eq d r.1 hb.1 hb.2.1 (by omega) r2 r3
    refine (ev_and (impl_isDug_ev x y l d hn) <| ev_and (impl_listOf_ev d (by omega)) <| ev_one hr).ev fun k ⟨h1, h2, h3⟩ => ?_
    simp only [impl_GrowDug.f, h1, h2, Option.bind_some, List.nil_append]
    rw [if_pos (by simpa using h), if_pos (by simp; omega), cellsRes, if_pos h, ← e, ← r1]
    exact h3
  · refine (ev_one (impl_isDug_ev x y l d hn)).ev fun k h1 => ?_
    simp only [impl_GrowDug.f, h1, Option.bind_some]
    rw [if_neg (by simpa using h), cellsRes, if_neg h]
def allDug (d : List Bool) : List Int → Bool
  | [] => true
  | t :: ts => if rdOf false d t = true then allDug d ts else false
theorem allDug_iff (d : List Bool) : ∀ ts : List Int, allDug d ts = true ↔ ∀ t ∈ ts, rdOf false d t = true
  | [] => by simp [allDug]
  | t :: ts => by
    simp only [allDug]
    by_cases h : rdOf false d t = true
    · rw [if_pos h, allDug_iff d ts]; simp [h]
    · rw [if_neg h]; simp [h]
theorem impl_allIn_l0 (d : List Bool) (T : List Int) (hT : T.length ≤ 1000) : ∀ (ts : List Int) (j : Nat), T.drop j = ts → (∀ t ∈ ts, 0 ≤ t ∧ t < (d.length : Int)) → Ev (fun k => impl_allIn.l0 k d T (T.length : Int) j) (allDug d ts)
  | [], j, hj, ht => Ev.next0 fun k => by
      have h0 := drop_nil hj
      simp only [impl_allIn.l0, allDug]
      rw [if_neg (by omega)]
  | t :: ts, j, hj, ht => by
      obtain ⟨h1, h2, h3⟩ := drop_cons hj
      have e := rd_drop hj
      have h0 := ht t (by simp)
      refine Ev.next1 (impl_allIn_l0 d T hT ts (j + 1) h3 (fun u hu => ht u (by simp [hu]))) fun k hk => ?_
      simp only [impl_allIn.l0, e, allDug]
      rw [if_pos (by omega), if_pos (by omega), if_pos (by omega), if_pos h0.1, if_pos h0.2, wrap_succ h1 (by omega)]
      by_cases hc : rdOf false d t = true
      · rw [if_pos hc, if_pos hc]; exact hk
      · rw [if_neg hc, if_neg hc]
theorem impl_allIn_ev (d : List Bool) (T : List Int) (hT : T.length ≤ 1000) (ht : ∀ t ∈ T, 0 ≤ t ∧ t < (d.length : Int)) : Ev (fun k => impl_allIn.f k d T) (allDug d T) :=
  Ev.of1 (impl_allIn_l0 d T hT T 0 rfl ht) fun k hk => by simp only [impl_allIn.f]; exact hk
-- needs: spec_dgSides sides_model
theorem spec_ShrinkDug_l1 (d : List Bool) (w h : Int) (v : List Int) (i : Int) (S : List Int) (hS : S.length ≤ 1000) (acc : List Bool) (hacc : acc.length ≤ 1000) (r : List Bool × Bool) : ∀ (ss : List Int) (j : Nat) (b : Bool), S.drop j = ss → (∀ s ∈ ss, s < (d.length : Int)) →
    Ev (fun k => spec_ShrinkDug.l0 k d (acc ++ [shr d b ss]) d (d.length : Int) (wrap64 (i + 1)) w h v) r → Ev (fun k => spec_ShrinkDug.l1 k d acc b d (d.length : Int) i S (S.length : Int) j w h v) r
  | [], j, b, hj, hs, hr => by
      have hz := drop_nil hj
      refine Ev.next1 hr fun k hk => ?_
      simp only [spec_ShrinkDug.l1]
      rw [if_neg (by omega), if_pos (by omega)]
      exact hk
  | s :: ss, j, b, hj, hs, hr => by
      obtain ⟨j1, j2, j3⟩ := drop_cons hj
      have e1 : rd S j = s := rd_drop hj
      have hs0 := hs s (by simp)
      have hs' : ∀ s ∈ ss, s < (d.length : Int) := fun t ht => hs t (by simp [ht])
      refine Ev.next1 (spec_ShrinkDug_l1 d w h v i S hS acc hacc r ss (j + 1) _ j3 hs' hr) fun k hk => ?_
      simp only [spec_ShrinkDug.l1, e1]
      rw [if_pos (by omega), if_pos (by omega), if_pos (by omega), wrap_succ j1 (by omega)]
      cases b with
      | false => simp only [Bool.false_eq_true, if_false] at hk ⊢; exact hk
      | true =>
        simp only [if_true] at hk ⊢
        by_cases hc : s < 0
        · rw [if_pos hc] at hk ⊢; exact hk
        · rw [if_neg hc] at hk ⊢
          rw [if_pos (by omega), if_pos hs0]; exact hk
theorem spec_ShrinkDug_l0 (d : List Bool) (w h : Int) (v : List Int) (hw : 1 ≤ w ∧ w ≤ 8) (hh : 1 ≤ h ∧ h ≤ 6) (hd : (d.length : Int) = w * h) (hn : d.length ≤ 1000) : ∀ (bs : List Bool) (i : Nat) (acc : List Bool), d.drop i = bs → acc.length ≤ i →
    Ev (fun k => spec_ShrinkDug.l0 k d acc d (d.length : Int) i w h v) (acc ++ cellsOf (shr d) w h bs i, true)
  | [], i, acc, hi, ha => Ev.next0 fun k => by
      have h0 := drop_nil hi
      simp only [spec_ShrinkDug.l0, cellsOf, List.append_nil]
      rw [if_neg (by omega)]
  | b :: bs, i, acc, hi, ha => by
      obtain ⟨h1, h2, h3⟩ := drop_cons hi
      have eb := rdOf_drop (d := false) hi
      have hcell : 0 ≤ (i : Int) ∧ (i : Int) < w * h := by omega
      have hsl : (sidesOf w h i).length = 4 := rfl
      have i0 := spec_ShrinkDug_l0 d w h v hw hh hd hn bs (i + 1) (acc ++ [shr d b (sidesOf w h i)]) h3 (by simp; omega)
      rw [← wrap_succ h1 (by omega)] at i0
      have i1 := spec_ShrinkDug_l1 d w h v i (sidesOf w h i) (by omega) acc (by omega) _ (sidesOf w h i) 0 b rfl (by rw [hd]; exact sides_mem hw hh hcell) i0
      refine Ev.next2 i1 (spec_dgSides_ev w h v i hw hh hcell) fun k k1 k2 => ?_
      simp only [spec_ShrinkDug.l0, eb, k2, Option.bind_some]
      rw [if_pos (by omega), if_pos (by omega), if_pos (by omega)]
      refine k1.trans ?_
      rw [List.append_assoc]; rfl
theorem spec_ShrinkDug_ev (x y : Int) (l : List Int) (d : List Bool) (hn : l.length ≤ 9223372036854775807) : Ev (fun k => spec_ShrinkDug.f k x y l d) (cellsRes shr x y l d) := by
  by_cases h : benchOk x y l = true ∧ d.length = l.length
  · have hb := bench_len h.1
    refine (ev_and (spec_dgBoth_ev x y l d hn) <| ev_one (spec_ShrinkDug_l0 d x y l hb.1 hb.2.1 (by omega) (by omega) d 0 [] rfl (by simp))).ev fun k ⟨h1, h2⟩ => ?_
    simp only [spec_ShrinkDug.f, h1, Option.bind_some]
    rw [if_pos (by simpa using h), cellsRes, if_pos h]
    exact h2
  · refine (ev_one (spec_dgBoth_ev x y l d hn)).ev fun k h1 => ?_
    simp only [spec_ShrinkDug.f, h1, Option.bind_some]
    rw [if_neg (by simpa using h), cellsRes, if_neg h]
-- needs: spec_ShrinkDug
theorem allDug_shr (d : List Bool) {w h i : Int} (hw : 1 ≤ w ∧ w ≤ 8) (hh : 1 ≤ h ∧ h ≤ 6) (hi : 0 ≤ i ∧ i < w * h) : allDug d (besideOf w h i) = shr d true (sidesOf w h i) := by
  rw [Bool.eq_iff_iff, allDug_iff, shr_iff]
  constructor
  · intro q; exact ⟨rfl, fun s hs h0 => q s ((sides_beside_mem hw hh hi s).2 ⟨hs, h0⟩)⟩
  · intro q t ht
    have := (sides_beside_mem hw hh hi t).1 ht
    exact q.2 t this.1 this.2
theorem shr_false (d : List Bool) : ∀ ss : List Int, shr d false ss = false
  | [] => rfl
  | s :: ss => by simp only [shr, Bool.false_eq_true, if_false]; exact shr_false d ss
theorem impl_ShrinkDug_l0 (d : List Bool) (w h : Int) (v : List Int) (hw : 1 ≤ w ∧ w ≤ 8) (hh : 1 ≤ h ∧ h ≤ 6) (hd : (d.length : Int) = w * h) (hn : d.length ≤ 1000) : ∀ (bs : List Bool) (i : Nat) (pre : List Bool), d.drop i = bs → pre.length = i →
    Ev (fun k => impl_ShrinkDug.l0 k d (pre ++ bs) (d.length : Int) i w h v) (pre ++ cellsOf (shr d) w h bs i, true)
  | [], i, pre, hi, ha => Ev.next0 fun k => by
      have h0 := drop_nil hi
      simp only [impl_ShrinkDug.l0, cellsOf, List.append_nil]
      rw [if_neg (by omega)]
  | b :: bs, i, pre, hi, ha => by
      obtain ⟨h1, h2, h3⟩ := drop_cons hi
      have eb := rdOf_drop (d := false) hi
      have hcell : 0 ≤ (i : Int) ∧ (i : Int) < w * h := by omega
      have eset : ∀ c : Bool, (pre ++ b :: bs).set i c = (pre ++ [c]) ++ bs := fun c => by
        rw [List.set_append_right _ _ (by omega), ha, Nat.sub_self, List.append_assoc]; rfl
      have i0 := impl_ShrinkDug_l0 d w h v hw hh hd hn bs (i + 1) (pre ++ [shr d b (sidesOf w h i)]) h3 (by simp [ha])
      have hbl := beside_length w h i
      cases b with
      | true =>
        refine (ev_and (impl_cellsBeside_ev w h v i hw hh hcell) <| ev_and (impl_allIn_ev d (besideOf w h i) (by omega) (by rw [hd]; exact beside_mem hw hh hcell)) <| ev_one i0).next fun k ⟨k1, k2, k3⟩ => ?_
        simp only [impl_ShrinkDug.l0, eb, k1, k2, Option.bind_some, if_true, toNat_cast, eset]
        rw [if_pos (by omega), if_pos (by omega), if_pos (by omega), if_pos (by simp; omega), wrap_succ h1 (by omega), allDug_shr d hw hh hcell]
        refine k3.trans ?_
        rw [List.append_assoc]; rfl
      | false =>
        refine (ev_one i0).next fun k k3 => ?_
        rw [shr_false] at k3
        simp only [impl_ShrinkDug.l0, eb, Bool.false_eq_true, if_false, toNat_cast, eset]
        rw [if_pos (by omega), if_pos (by omega), if_pos (by omega), if_pos (by simp; omega), wrap_succ h1 (by omega)]
        refine k3.trans ?_
        rw [List.append_assoc]; simp only [cellsOf, shr_false]; rfl
theorem impl_ShrinkDug_ev (x y : Int) (l : List Int) (d : List Bool) (hn : l.length ≤ 9223372036854775807) : Ev (fun k => impl_ShrinkDug.f k x y l d) (cellsRes shr x y l d) := by
  by_cases h : benchOk x y l = true ∧ d.length = l.length
  · have hb := bench_len h.1
    refine (ev_and (impl_isDug_ev x y l d hn) <| ev_one (impl_ShrinkDug_l0 d x y l hb.1 hb.2.1 (by omega) (by omega) d 0 [] rfl rfl)).ev fun k ⟨h1, h2⟩ => ?_
    simp only [impl_ShrinkDug.f, h1, Option.bind_some, List.nil_append] at h2 ⊢
    rw [if_pos (by simpa using h), if_pos (by simp; omega), cellsRes, if_pos h]
    exact h2
  · refine (ev_one (impl_isDug_ev x y l d hn)).ev fun k h1 => ?_
    simp only [impl_ShrinkDug.f, h1, Option.bind_some]
    rw [if_neg (by simpa using h), cellsRes, if_neg h]
-- needs: cells
theorem rdOf_set_ne (s : List Bool) (a : Nat) (c : Int) (h : c.toNat ≠ a) : rdOf false (s.set a true) c = rdOf false s c := by
  show (s.set a true).getD c.toNat false = s.getD c.toNat false
  rw [List.getD_eq_getElem?_getD, List.getD_eq_getElem?_getD, List.getElem?_set_ne (fun q => h q.symm)]
theorem rdOf_set_eq (s : List Bool) (c : Int) (h : c.toNat < s.length) : rdOf false (s.set c.toNat true) c = true := by
  show (s.set c.toNat true).getD c.toNat false = true
  rw [List.getD_eq_getElem?_getD, List.getElem?_set_self h]; rfl
def falses : List Bool → Nat
  | [] => 0
  | b :: bs => (if b = true then 0 else 1) + falses bs
theorem falses_le : ∀ s : List Bool, falses s ≤ s.length
  | [] => Nat.le_refl _
  | b :: bs => by have := falses_le bs; simp only [falses, List.length_cons]; split <;> omega
theorem falses_set : ∀ (s : List Bool) (c : Nat), s[c]? = some false → falses (s.set c true) + 1 = falses s
  | [], c, h => by simp at h
  | b :: bs, 0, h => by
    simp at h; subst h; simp [falses]; omega
  | b :: bs, c + 1, h => by
    have := falses_set bs c (by simpa using h)
    simp only [List.set_cons_succ, falses]; omega
theorem falses_set_rd (s : List Bool) (c : Int) (h0 : 0 ≤ c) (h1 : c < s.length) (h : rdOf false s c = false) : falses (s.set c.toNat true) + 1 = falses s := by
  apply falses_set
  have hg : s[c.toNat]? = some (s[c.toNat]'(by omega)) := List.getElem?_eq_getElem (by omega)
  have : s.getD c.toNat false = false := h
  rw [List.getD_eq_getElem?_getD, hg] at this
  rw [hg]; congr 1
/-- What holds of a set that a search from i must not leave. -/
def Closed (adj : Int → List Int) (n : Int) (d s0 : List Bool) (i : Int) (G : Int → Prop) : Prop :=
  (∀ c, 0 ≤ c → rdOf false s0 c = true → G c) ∧ G i ∧ ∀ c, 0 ≤ c → c < n → G c → rdOf false s0 c = false → ∀ t ∈ adj c, rdOf false d t = true → G t
structure Bfs (adj : Int → List Int) (n : Int) (d s0 : List Bool) (i : Int) (P Q : List Int) (s : List Bool) : Prop where
  len : (s.length : Int) = n
  old : ∀ c, 0 ≤ c → rdOf false s0 c = true → rdOf false s c = true
  start : rdOf false s i = true
  inq : ∀ q, q ∈ P ∨ q ∈ Q → rdOf false s q = true ∧ rdOf false s0 q = false ∧ 0 ≤ q ∧ q < n
  all : ∀ c, 0 ≤ c → rdOf false s c = true → rdOf false s0 c = true ∨ c ∈ P ∨ c ∈ Q
  done : ∀ q ∈ P, ∀ t ∈ adj q, rdOf false d t = true → rdOf false s t = true
  least : ∀ G : Int → Prop, Closed adj n d s0 i G → ∀ c, 0 ≤ c → rdOf false s c = true → G c
/-- What a search from i has reached. -/
structure Reach (adj : Int → List Int) (n : Int) (d s0 : List Bool) (i : Int) (s : List Bool) : Prop where
  len : (s.length : Int) = n
  closed : Closed adj n d s0 i (fun c => rdOf false s c = true)
  least : ∀ G : Int → Prop, Closed adj n d s0 i G → ∀ c, 0 ≤ c → rdOf false s c = true → G c
theorem Reach.uniq {adj : Int → List Int} {n : Int} {d s0 s1 s2 : List Bool} {i : Int} (h1 : Reach adj n d s0 i s1) (h2 : Reach adj n d s0 i s2) : s1 = s2 := by
  have e : ∀ c, 0 ≤ c → (rdOf false s1 c = true ↔ rdOf false s2 c = true) := fun c hc => ⟨h1.least _ h2.closed c hc, h2.least _ h1.closed c hc⟩
  have hl : s1.length = s2.length := by have := h1.len; have := h2.len; omega
  apply List.ext_getElem hl
  intro k k1 k2
  have g1 : rdOf false s1 (k : Int) = s1[k] := rdOf_get (List.getElem?_eq_getElem k1)
  have g2 : rdOf false s2 (k : Int) = s2[k] := rdOf_get (List.getElem?_eq_getElem k2)
  have := e k (by omega)
  rw [g1, g2] at this
  exact Bool.eq_iff_iff.2 this
theorem Bfs.fin {adj : Int → List Int} {n : Int} {d s0 s : List Bool} {i : Int} {P : List Int} (h : Bfs adj n d s0 i P [] s) : Reach adj n d s0 i s :=
  ⟨h.len, ⟨h.old, h.start, fun c c0 cn cs c1 t ht hd => by
    rcases h.all c c0 cs with q | q | q
    · rw [c1] at q; cases q
    · exact h.done c q t ht hd
    · cases q⟩, h.least⟩
theorem Bfs.pop {adj : Int → List Int} {n : Int} {d s0 s : List Bool} {i : Int} {P Q : List Int} {c : Int} (h : Bfs adj n d s0 i P (c :: Q) s) (hc : ∀ t ∈ adj c, rdOf false d t = true → rdOf false s t = true) : Bfs adj n d s0 i (P ++ [c]) Q s :=
  ⟨h.len, h.old, h.start, fun q hq => h.inq q (by
      rcases hq with hq | hq
      · rcases List.mem_append.1 hq with hq | hq
        · exact Or.inl hq
        · simp at hq; subst hq; exact Or.inr (by simp)
      · exact Or.inr (by simp [hq])),
    fun x x0 xs => by
      rcases h.all x x0 xs with q | q | q
      · exact Or.inl q
      · exact Or.inr (Or.inl (by simp [q]))
      · rcases List.mem_cons.1 q with rfl | q
        · exact Or.inr (Or.inl (by simp))
        · exact Or.inr (Or.inr q),
    fun q hq t ht hd => by
      rcases List.mem_append.1 hq with hq | hq
      · exact h.done q hq t ht hd
      · simp at hq; subst hq; exact hc t ht hd,
    h.least⟩
theorem Bfs.add {adj : Int → List Int} {n : Int} {d s0 s : List Bool} {i : Int} {P Q : List Int} {c t : Int} (h : Bfs adj n d s0 i P (c :: Q) s) (ht : t ∈ adj c) (hd : rdOf false d t = true) (h0 : 0 ≤ t) (h1 : t < n) (hs : rdOf false s t = false) : Bfs adj n d s0 i P (c :: (Q ++ [t])) (s.set t.toNat true) := by
  have hl := h.len
  have keep : ∀ x, rdOf false s x = true → rdOf false (s.set t.toNat true) x = true := fun x hx => by
    by_cases e : x.toNat = t.toNat
    · show (s.set t.toNat true).getD x.toNat false = true
      rw [e]; exact rdOf_set_eq s t (by omega)
    · rw [rdOf_set_ne _ _ _ e]; exact hx
  have back : ∀ x, 0 ≤ x → rdOf false (s.set t.toNat true) x = true → x = t ∨ rdOf false s x = true := fun x x0 hx => by
    by_cases e : x.toNat = t.toNat
    · left; omega
    · right; rw [rdOf_set_ne _ _ _ e] at hx; exact hx
  have ht0 : rdOf false s0 t = false := by
    cases hq : rdOf false s0 t
    · rfl
    · rw [h.old t h0 hq] at hs; cases hs
  refine ⟨by simpa using hl, fun x x0 hx => keep x (h.old x x0 hx), keep i h.start, ?_, ?_, ?_, ?_⟩
  · intro q hq
    by_cases e : q = t
    · subst e; exact ⟨rdOf_set_eq s q (by omega), ht0, h0, h1⟩
    · have := h.inq q (by
        rcases hq with hq | hq
        · exact Or.inl hq
        · right
          rcases List.mem_cons.1 hq with rfl | hq
          · simp
          · rcases List.mem_append.1 hq with hq | hq
            · simp [hq]
            · simp at hq; exact absurd hq e)
      exact ⟨keep q this.1, this.2⟩
  · intro x x0 hx
    rcases back x x0 hx with rfl | hx
    · exact Or.inr (Or.inr (by simp))
    · rcases h.all x x0 hx with q | q | q
      · exact Or.inl q
      · exact Or.inr (Or.inl q)
      · right; right
        rcases List.mem_cons.1 q with rfl | q
        · simp
        · simp [q]
  · intro q hq u hu hdu; exact keep u (h.done q hq u hu hdu)
  · intro G hG x x0 hx
    rcases back x x0 hx with rfl | hx
    · have hc := h.inq c (Or.inr (by simp))
      exact hG.2.2 c hc.2.2.1 hc.2.2.2 (h.least G hG c hc.2.2.1 hc.1) hc.2.1 _ ht hd
    · exact h.least G hG x x0 hx
theorem Bfs.begin {adj : Int → List Int} {n : Int} {d s0 : List Bool} {i : Int} (hl : (s0.length : Int) = n) (h0 : 0 ≤ i) (h1 : i < n) (hs : rdOf false s0 i = false) : Bfs adj n d s0 i [] [i] (s0.set i.toNat true) := by
  have keep : ∀ x, rdOf false s0 x = true → rdOf false (s0.set i.toNat true) x = true := fun x hx => by
    by_cases e : x.toNat = i.toNat
    · show (s0.set i.toNat true).getD x.toNat false = true
      rw [e]; exact rdOf_set_eq s0 i (by omega)
    · rw [rdOf_set_ne _ _ _ e]; exact hx
  have back : ∀ x, 0 ≤ x → rdOf false (s0.set i.toNat true) x = true → x = i ∨ rdOf false s0 x = true := fun x x0 hx => by
    by_cases e : x.toNat = i.toNat
    · left; omega
    · right; rw [rdOf_set_ne _ _ _ e] at hx; exact hx
  refine ⟨by simpa using hl, fun x _ hx => keep x hx, rdOf_set_eq s0 i (by omega), ?_, ?_, ?_, ?_⟩
  · intro q hq
    rcases hq with hq | hq
    · cases hq
    · simp at hq; subst hq; exact ⟨rdOf_set_eq s0 q (by omega), hs, h0, h1⟩
  · intro x x0 hx
    rcases back x x0 hx with rfl | hx
    · exact Or.inr (Or.inr (by simp))
    · exact Or.inl hx
  · intro q hq; cases hq
  · intro G hG x x0 hx
    rcases back x x0 hx with rfl | hx
    · exact hG.2.1
    · exact hG.1 x x0 hx
-- needs: spec_dgSides bfs
theorem spec_IslandsOf_l2 (d : List Bool) (w h : Int) (v : List Int) (cnt i : Int) (hw : 1 ≤ w ∧ w ≤ 8) (hh : 1 ≤ h ∧ h ≤ 6) (hd : (d.length : Int) = w * h) (s0 : List Bool) (i0 : Int) (P : List Int) (c : Int) (hc : 0 ≤ c ∧ c < w * h) (T : List Int) (hT : T.length ≤ 1000) :
    ∀ (ts : List Int) (j : Nat) (s : List Bool) (Q : List Int), T.drop j = ts → (∀ t ∈ ts, t < w * h) → (∀ t ∈ ts, 0 ≤ t → t ∈ besideOf w h c) → (∀ t ∈ besideOf w h c, rdOf false d t = true → rdOf false s t = true ∨ t ∈ ts) → Bfs (besideOf w h) (w * h) d s0 i0 P (c :: Q) s → falses s + (P ++ c :: Q).length ≤ 1000 →
    ∃ s' Q', Bfs (besideOf w h) (w * h) d s0 i0 (P ++ [c]) Q' s' ∧ falses s' + ((P ++ [c]) ++ Q').length ≤ 1000 ∧ falses s' + Q'.length = falses s + Q.length ∧ ∀ r, Ev (fun k => spec_IslandsOf.l1 k d s' cnt ((P ++ [c]) ++ Q') ((P ++ [c]).length : Int) d (d.length : Int) i w h v) r → Ev (fun k => spec_IslandsOf.l2 k d s cnt (P ++ c :: Q) (P.length : Int) d (d.length : Int) i T (T.length : Int) j w h v) r
  | [], j, s, Q, hj, hm, hsub, hdone, hB, hN => by
      have hz := drop_nil hj
      have hB' := hB.pop (fun t ht hdt => by rcases hdone t ht hdt with q | q; exact q; cases q)
      refine ⟨s, Q, hB', by simpa using hN, rfl, fun r hr => Ev.next1 hr fun k hk => ?_⟩
      simp only [spec_IslandsOf.l2]
      rw [if_neg (by omega), wrap_id (x := (P.length : Int) + 1) (by simp at hN; omega) (by simp at hN; omega)]
      rw [List.append_assoc, List.length_append] at hk
      exact hk
  | t :: ts, j, s, Q, hj, hm, hsub, hdone, hB, hN => by
      obtain ⟨j1, j2, j3⟩ := drop_cons hj
      have e1 : rd T j = t := rd_drop hj
      have ht := hm t (by simp)
      have hm' : ∀ t ∈ ts, t < w * h := fun u hu => hm u (by simp [hu])
      have hsub' : ∀ t ∈ ts, 0 ≤ t → t ∈ besideOf w h c := fun u hu => hsub u (by simp [hu])
      have hl := hB.len
      by_cases hp : t ≥ 0
      case neg =>
        obtain ⟨s', Q', b1, b2, b3, b4⟩ := spec_IslandsOf_l2 d w h v cnt i hw hh hd s0 i0 P c hc T hT ts (j + 1) s Q j3 hm' hsub' (fun u hu hdu => by
          rcases hdone u hu hdu with q | q
          · exact Or.inl q
          · rcases List.mem_cons.1 q with rfl | q
            · have hbm := beside_mem hw hh hc _ hu; omega
            · exact Or.inr q) hB hN
        refine ⟨s', Q', b1, b2, b3, fun r hr => Ev.next1 (b4 r hr) fun k hk => ?_⟩
        simp only [spec_IslandsOf.l2, e1]
        rw [if_pos (by omega), if_pos (by omega), if_pos (by omega), if_neg hp, wrap_succ j1 (by omega)]
        exact hk
      have hp0 : 0 ≤ t := hp
      have htn : t < w * h := ht
      by_cases hdt : rdOf false d t = true
      case neg =>
        obtain ⟨s', Q', b1, b2, b3, b4⟩ := spec_IslandsOf_l2 d w h v cnt i hw hh hd s0 i0 P c hc T hT ts (j + 1) s Q j3 hm' hsub' (fun u hu hdu => by
          rcases hdone u hu hdu with q | q
          · exact Or.inl q
          · rcases List.mem_cons.1 q with rfl | q
            · exact absurd hdu hdt
            · exact Or.inr q) hB hN
        refine ⟨s', Q', b1, b2, b3, fun r hr => Ev.next1 (b4 r hr) fun k hk => ?_⟩
        simp only [spec_IslandsOf.l2, e1]
        rw [if_pos (by omega), if_pos (by omega), if_pos (by omega), if_pos hp, if_pos hp0, if_pos (by omega), if_neg hdt, wrap_succ j1 (by omega)]
        exact hk
      by_cases hst : rdOf false s t = true
      case pos =>
        obtain ⟨s', Q', b1, b2, b3, b4⟩ := spec_IslandsOf_l2 d w h v cnt i hw hh hd s0 i0 P c hc T hT ts (j + 1) s Q j3 hm' hsub' (fun u hu hdu => by
          rcases hdone u hu hdu with q | q
          · exact Or.inl q
          · rcases List.mem_cons.1 q with rfl | q
            · exact Or.inl hst
            · exact Or.inr q) hB hN
        refine ⟨s', Q', b1, b2, b3, fun r hr => Ev.next1 (b4 r hr) fun k hk => ?_⟩
        simp only [spec_IslandsOf.l2, e1]
        rw [if_pos (by omega), if_pos (by omega), if_pos (by omega), if_pos hp, if_pos hp0, if_pos (by omega), if_pos hdt, if_pos (by omega), if_pos hst, wrap_succ j1 (by omega)]
        exact hk
      have hst' : rdOf false s t = false := by cases hq : rdOf false s t; rfl; exact absurd hq hst
      have hf := falses_set_rd s t hp0 (by omega) hst'
      have hB' := hB.add (hsub t (by simp) hp0) hdt hp0 htn hst'
      obtain ⟨s', Q', b1, b2, b3, b4⟩ := spec_IslandsOf_l2 d w h v cnt i hw hh hd s0 i0 P c hc T hT ts (j + 1) (s.set t.toNat true) (Q ++ [t]) j3 hm' hsub' (fun u hu hdu => by
        by_cases e : u.toNat = t.toNat
        · left
          show (s.set t.toNat true).getD u.toNat false = true
          rw [e]; exact rdOf_set_eq s t (by omega)
        · rcases hdone u hu hdu with q | q
          · left; rw [rdOf_set_ne _ _ _ e]; exact q
          · rcases List.mem_cons.1 q with rfl | q
            · exact absurd rfl e
            · exact Or.inr q) hB' (by simp at hN ⊢; omega)
      refine ⟨s', Q', b1, b2, by simp at b3; omega, fun r hr => Ev.next1 (b4 r hr) fun k hk => ?_⟩
      simp only [spec_IslandsOf.l2, e1]
      rw [if_pos (by omega), if_pos (by omega), if_pos (by omega), if_pos hp, if_pos hp0, if_pos (by omega), if_pos hdt, if_pos (by omega), if_neg hst, if_pos (by simp at hN ⊢; omega), wrap_succ j1 (by omega)]
      rw [List.append_assoc]
      exact hk
theorem spec_IslandsOf_l1 (d : List Bool) (w h : Int) (v : List Int) (cnt i : Int) (hw : 1 ≤ w ∧ w ≤ 8) (hh : 1 ≤ h ∧ h ≤ 6) (hd : (d.length : Int) = w * h) (s0 : List Bool) (i0 : Int) : ∀ (N : Nat) (P Q : List Int) (s : List Bool), falses s + Q.length ≤ N → Bfs (besideOf w h) (w * h) d s0 i0 P Q s → falses s + (P ++ Q).length ≤ 1000 →
    ∃ F, Reach (besideOf w h) (w * h) d s0 i0 F ∧ ∀ r, Ev (fun k => spec_IslandsOf.l0 k d F cnt d (d.length : Int) (wrap64 (i + 1)) w h v) r → Ev (fun k => spec_IslandsOf.l1 k d s cnt (P ++ Q) (P.length : Int) d (d.length : Int) i w h v) r
  | N, P, [], s, hN, hB, h1 => by
      refine ⟨s, hB.fin, fun r hr => Ev.next1 hr fun k hk => ?_⟩
      simp only [spec_IslandsOf.l1]
      rw [if_neg (by simp)]
      exact hk
  | 0, P, c :: Q, s, hN, hB, h1 => by simp at hN
  | N + 1, P, c :: Q, s, hN, hB, h1 => by
      have hc := (hB.inq c (Or.inr (by simp))).2.2
      obtain ⟨s', Q', b1, b2, b3, b4⟩ := spec_IslandsOf_l2 d w h v cnt i hw hh hd s0 i0 P c hc (sidesOf w h c) (by simp [sidesOf]) (sidesOf w h c) 0 s Q rfl (sides_mem hw hh hc) (fun t ht t0 => (sides_beside_mem hw hh hc t).2 ⟨ht, t0⟩) (fun t ht _ => Or.inr ((sides_beside_mem hw hh hc t).1 ht).1) hB h1
      obtain ⟨F, f1, f2⟩ := spec_IslandsOf_l1 d w h v cnt i hw hh hd s0 i0 N (P ++ [c]) Q' s' (by simp at hN; omega) b1 b2
      refine ⟨F, f1, fun r hr => ?_⟩
      have g := b4 r (f2 r hr)
      refine Ev.next2 g (spec_dgSides_ev w h v c hw hh hc) fun k k1 k2 => ?_
      have e1 : rd (P ++ c :: Q) (P.length : Int) = c := rd_get (by rw [List.getElem?_append_right (Nat.le_refl _), Nat.sub_self]; rfl)
      simp only [spec_IslandsOf.l1, e1, k2, Option.bind_some]
      rw [if_pos (by simp; omega), if_pos (by omega)]
      exact k1
theorem spec_IslandsOf_skip (d : List Bool) (w h : Int) (v : List Int) (s : List Bool) (cnt : Int) (i : Nat) (hi : i < d.length) (hn : d.length ≤ 1000) (hs : rdOf false d (i : Int) = false ∨ (s.length = d.length ∧ rdOf false s (i : Int) = true)) (r : Int × Bool) (hr : Ev (fun k => spec_IslandsOf.l0 k d s cnt d (d.length : Int) ((i + 1 : Nat) : Int) w h v) r) : Ev (fun k => spec_IslandsOf.l0 k d s cnt d (d.length : Int) i w h v) r := by
  have h1 : Ev (fun k => spec_IslandsOf.j1 k d s cnt i d (d.length : Int) i true w h v) r := Ev.next1 hr fun k hk => by
    simp only [spec_IslandsOf.j1, if_true]
    rw [wrap_succ hi (by omega)]; exact hk
  refine Ev.next1 h1 fun k hk => ?_
  simp only [spec_IslandsOf.l0]
  rw [if_pos (by omega), if_pos (by omega), if_pos (by omega)]
  rcases hs with hs | hs
  · rw [hs, if_neg (by simp)]; exact hk
  · by_cases hd : rdOf false d (i : Int) = true
    · rw [if_pos hd, if_pos (by omega), hs.2]; exact hk
    · rw [if_neg hd]; exact hk
theorem spec_IslandsOf_take (d : List Bool) (w h : Int) (v : List Int) (hw : 1 ≤ w ∧ w ≤ 8) (hh : 1 ≤ h ∧ h ≤ 6) (hd : (d.length : Int) = w * h) (hn : d.length ≤ 48) (s : List Bool) (hsl : s.length = d.length) (cnt : Int) (hcnt : 0 ≤ cnt ∧ cnt ≤ 1000) (i : Nat) (hi : i < d.length) (h1 : rdOf false d (i : Int) = true) (h2 : rdOf false s (i : Int) = false) :
    ∃ F, Reach (besideOf w h) (w * h) d s i F ∧ ∀ r, Ev (fun k => spec_IslandsOf.l0 k d F (cnt + 1) d (d.length : Int) ((i + 1 : Nat) : Int) w h v) r → Ev (fun k => spec_IslandsOf.l0 k d s cnt d (d.length : Int) i w h v) r := by
  have hB : Bfs (besideOf w h) (w * h) d s i [] [(i : Int)] (s.set ((i : Int)).toNat true) := Bfs.begin (by omega) (by omega) (by omega) h2
  have hf := falses_set_rd s i (by omega) (by omega) h2
  have hf' := falses_le s
  have hf2 : falses (s.set i true) + 1 = falses s := by simpa using hf
  obtain ⟨F, f1, f2⟩ := spec_IslandsOf_l1 d w h v (cnt + 1) i hw hh hd s i (falses (s.set ((i : Int)).toNat true) + 1) [] [(i : Int)] _ (by simp) hB (by simp; omega)
  refine ⟨F, f1, fun r hr => ?_⟩
  rw [← wrap_succ hi (by omega)] at hr
  have g := f2 r hr
  have h3 : Ev (fun k => spec_IslandsOf.j1 k d s cnt i d (d.length : Int) i false w h v) r := Ev.next1 g fun k hk => by
    simp only [spec_IslandsOf.j1, Bool.false_eq_true, if_false]
    rw [if_pos (by omega), if_pos (by omega), wrap_id (x := cnt + 1) (by omega) (by omega)]
    exact hk
  refine Ev.next1 h3 fun k hk => ?_
  simp only [spec_IslandsOf.l0]
  rw [if_pos (by omega), if_pos (by omega), if_pos (by omega), if_pos h1, if_pos (by omega), h2]
  exact hk
-- needs: spec_IslandsOf impl_cellsBeside
theorem impl_IslandsOf_l2 (d : List Bool) (w h : Int) (v : List Int) (cnt i : Int) (hw : 1 ≤ w ∧ w ≤ 8) (hh : 1 ≤ h ∧ h ≤ 6) (hd : (d.length : Int) = w * h) (s0 : List Bool) (i0 : Int) (P : List Int) (c : Int) (hc : 0 ≤ c ∧ c < w * h) (T : List Int) (hT : T.length ≤ 1000) :
    ∀ (ts : List Int) (j : Nat) (s : List Bool) (Q : List Int), T.drop j = ts → (∀ t ∈ ts, 0 ≤ t ∧ t < w * h) → (∀ t ∈ ts, 0 ≤ t → t ∈ besideOf w h c) → (∀ t ∈ besideOf w h c, rdOf false d t = true → rdOf false s t = true ∨ t ∈ ts) → Bfs (besideOf w h) (w * h) d s0 i0 P (c :: Q) s → falses s + (P ++ c :: Q).length ≤ 1000 →
    ∃ s' Q', Bfs (besideOf w h) (w * h) d s0 i0 (P ++ [c]) Q' s' ∧ falses s' + ((P ++ [c]) ++ Q').length ≤ 1000 ∧ falses s' + Q'.length = falses s + Q.length ∧ ∀ r, Ev (fun k => impl_IslandsOf.l1 k d s' cnt (Q') (d.length : Int) i w h v) r → Ev (fun k => impl_IslandsOf.l2 k d s cnt (Q) (d.length : Int) i T (T.length : Int) j w h v) r
  | [], j, s, Q, hj, hm, hsub, hdone, hB, hN => by
      have hz := drop_nil hj
      have hB' := hB.pop (fun t ht hdt => by rcases hdone t ht hdt with q | q; exact q; cases q)
      refine ⟨s, Q, hB', by simpa using hN, rfl, fun r hr => Ev.next1 hr fun k hk => ?_⟩
      simp only [impl_IslandsOf.l2]
      rw [if_neg (by omega)]
      exact hk
  | t :: ts, j, s, Q, hj, hm, hsub, hdone, hB, hN => by
      obtain ⟨j1, j2, j3⟩ := drop_cons hj
      have e1 : rd T j = t := rd_drop hj
      have ht := hm t (by simp)
      have hm' : ∀ t ∈ ts, 0 ≤ t ∧ t < w * h := fun u hu => hm u (by simp [hu])
      have hsub' : ∀ t ∈ ts, 0 ≤ t → t ∈ besideOf w h c := fun u hu => hsub u (by simp [hu])
      have hl := hB.len
      have hp0 : 0 ≤ t := ht.1
      have htn : t < w * h := ht.2
      by_cases hdt : rdOf false d t = true
      case neg =>
        obtain ⟨s', Q', b1, b2, b3, b4⟩ := impl_IslandsOf_l2 d w h v cnt i hw hh hd s0 i0 P c hc T hT ts (j + 1) s Q j3 hm' hsub' (fun u hu hdu => by
          rcases hdone u hu hdu with q | q
          · exact Or.inl q
          · rcases List.mem_cons.1 q with rfl | q
            · exact absurd hdu hdt
            · exact Or.inr q) hB hN
        refine ⟨s', Q', b1, b2, b3, fun r hr => Ev.next1 (b4 r hr) fun k hk => ?_⟩
        simp only [impl_IslandsOf.l2, e1]
        rw [if_pos (by omega), if_pos (by omega), if_pos (by omega), if_pos hp0, if_pos (by omega), if_neg hdt, wrap_succ j1 (by omega)]
        exact hk
      by_cases hst : rdOf false s t = true
      case pos =>
        obtain ⟨s', Q', b1, b2, b3, b4⟩ := impl_IslandsOf_l2 d w h v cnt i hw hh hd s0 i0 P c hc T hT ts (j + 1) s Q j3 hm' hsub' (fun u hu hdu => by
          rcases hdone u hu hdu with q | q
          · exact Or.inl q
          · rcases List.mem_cons.1 q with rfl | q
            · exact Or.inl hst
            · exact Or.inr q) hB hN
        refine ⟨s', Q', b1, b2, b3, fun r hr => Ev.next1 (b4 r hr) fun k hk => ?_⟩
        simp only [impl_IslandsOf.l2, e1]
        rw [if_pos (by omega), if_pos (by omega), if_pos (by omega), if_pos hp0, if_pos (by omega), if_pos hdt, if_pos (by omega), if_pos hst, wrap_succ j1 (by omega)]
        exact hk
      have hst' : rdOf false s t = false := by cases hq : rdOf false s t; rfl; exact absurd hq hst
      have hf := falses_set_rd s t hp0 (by omega) hst'
      have hB' := hB.add (hsub t (by simp) hp0) hdt hp0 htn hst'
      obtain ⟨s', Q', b1, b2, b3, b4⟩ := impl_IslandsOf_l2 d w h v cnt i hw hh hd s0 i0 P c hc T hT ts (j + 1) (s.set t.toNat true) (Q ++ [t]) j3 hm' hsub' (fun u hu hdu => by
        by_cases e : u.toNat = t.toNat
        · left
          show (s.set t.toNat true).getD u.toNat false = true
          rw [e]; exact rdOf_set_eq s t (by omega)
        · rcases hdone u hu hdu with q | q
          · left; rw [rdOf_set_ne _ _ _ e]; exact q
          · rcases List.mem_cons.1 q with rfl | q
            · exact absurd rfl e
            · exact Or.inr q) hB' (by simp at hN ⊢; omega)
      refine ⟨s', Q', b1, b2, by simp at b3; omega, fun r hr => Ev.next1 (b4 r hr) fun k hk => ?_⟩
      simp only [impl_IslandsOf.l2, e1]
      rw [if_pos (by omega), if_pos (by omega), if_pos (by omega), if_pos hp0, if_pos (by omega), if_pos hdt, if_pos (by omega), if_neg hst, if_pos (by simp at hN ⊢; omega), wrap_succ j1 (by omega)]
      exact hk
theorem impl_IslandsOf_l1 (d : List Bool) (w h : Int) (v : List Int) (cnt i : Int) (hw : 1 ≤ w ∧ w ≤ 8) (hh : 1 ≤ h ∧ h ≤ 6) (hd : (d.length : Int) = w * h) (s0 : List Bool) (i0 : Int) : ∀ (N : Nat) (P Q : List Int) (s : List Bool), falses s + Q.length ≤ N → Bfs (besideOf w h) (w * h) d s0 i0 P Q s → falses s + (P ++ Q).length ≤ 1000 →
    ∃ F, Reach (besideOf w h) (w * h) d s0 i0 F ∧ ∀ r, Ev (fun k => impl_IslandsOf.l0 k d F cnt (d.length : Int) (wrap64 (i + 1)) w h v) r → Ev (fun k => impl_IslandsOf.l1 k d s cnt (Q) (d.length : Int) i w h v) r
  | N, P, [], s, hN, hB, h1 => by
      refine ⟨s, hB.fin, fun r hr => Ev.next1 hr fun k hk => ?_⟩
      simp only [impl_IslandsOf.l1]
      rw [if_neg (by simp)]
      exact hk
  | 0, P, c :: Q, s, hN, hB, h1 => by simp at hN
  | N + 1, P, c :: Q, s, hN, hB, h1 => by
      have hc := (hB.inq c (Or.inr (by simp))).2.2
      obtain ⟨s', Q', b1, b2, b3, b4⟩ := impl_IslandsOf_l2 d w h v cnt i hw hh hd s0 i0 P c hc (besideOf w h c) (by have := beside_length w h c; omega) (besideOf w h c) 0 s Q rfl (beside_mem hw hh hc) (fun t ht _ => ht) (fun t ht _ => Or.inr ht) hB h1
      obtain ⟨F, f1, f2⟩ := impl_IslandsOf_l1 d w h v cnt i hw hh hd s0 i0 N (P ++ [c]) Q' s' (by simp at hN; omega) b1 b2
      refine ⟨F, f1, fun r hr => ?_⟩
      have g := b4 r (f2 r hr)
      refine Ev.next2 g (impl_cellsBeside_ev w h v c hw hh hc) fun k k1 k2 => ?_
      have e1 : rd (c :: Q) 0 = c := rfl
      have e2 : (c :: Q).drop ((1 : Int)).toNat = Q := rfl
      simp only [impl_IslandsOf.l1, e1, e2, k2, Option.bind_some]
      rw [if_pos (by simp), if_pos (by simp), if_pos (by simp; omega)]
      exact k1
theorem impl_IslandsOf_skip (d : List Bool) (w h : Int) (v : List Int) (s : List Bool) (cnt : Int) (i : Nat) (hi : i < d.length) (hn : d.length ≤ 1000) (hs : rdOf false d (i : Int) = false ∨ (s.length = d.length ∧ rdOf false s (i : Int) = true)) (r : Int × Bool) (hr : Ev (fun k => impl_IslandsOf.l0 k d s cnt (d.length : Int) ((i + 1 : Nat) : Int) w h v) r) : Ev (fun k => impl_IslandsOf.l0 k d s cnt (d.length : Int) i w h v) r := by
  have h1 : Ev (fun k => impl_IslandsOf.j1 k d s cnt i (d.length : Int) i true w h v) r := Ev.next1 hr fun k hk => by
    simp only [impl_IslandsOf.j1, if_true]
    rw [wrap_succ hi (by omega)]; exact hk
  refine Ev.next1 h1 fun k hk => ?_
  simp only [impl_IslandsOf.l0]
  rw [if_pos (by omega), if_pos (by omega), if_pos (by omega)]
  rcases hs with hs | hs
  · rw [hs, if_neg (by simp)]; exact hk
  · by_cases hd : rdOf false d (i : Int) = true
    · rw [if_pos hd, if_pos (by omega), hs.2]; exact hk
    · rw [if_neg hd]; exact hk
theorem impl_IslandsOf_take (d : List Bool) (w h : Int) (v : List Int) (hw : 1 ≤ w ∧ w ≤ 8) (hh : 1 ≤ h ∧ h ≤ 6) (hd : (d.length : Int) = w * h) (hn : d.length ≤ 48) (s : List Bool) (hsl : s.length = d.length) (cnt : Int) (hcnt : 0 ≤ cnt ∧ cnt ≤ 1000) (i : Nat) (hi : i < d.length) (h1 : rdOf false d (i : Int) = true) (h2 : rdOf false s (i : Int) = false) :
    ∃ F, Reach (besideOf w h) (w * h) d s i F ∧ ∀ r, Ev (fun k => impl_IslandsOf.l0 k d F (cnt + 1) (d.length : Int) ((i + 1 : Nat) : Int) w h v) r → Ev (fun k => impl_IslandsOf.l0 k d s cnt (d.length : Int) i w h v) r := by
  have hB : Bfs (besideOf w h) (w * h) d s i [] [(i : Int)] (s.set ((i : Int)).toNat true) := Bfs.begin (by omega) (by omega) (by omega) h2
  have hf := falses_set_rd s i (by omega) (by omega) h2
  have hf' := falses_le s
  have hf2 : falses (s.set i true) + 1 = falses s := by simpa using hf
  obtain ⟨F, f1, f2⟩ := impl_IslandsOf_l1 d w h v (cnt + 1) i hw hh hd s i (falses (s.set ((i : Int)).toNat true) + 1) [] [(i : Int)] _ (by simp) hB (by simp; omega)
  refine ⟨F, f1, fun r hr => ?_⟩
  rw [← wrap_succ hi (by omega)] at hr
  have g := f2 r hr
  have h3 : Ev (fun k => impl_IslandsOf.j1 k d s cnt i (d.length : Int) i false w h v) r := Ev.next1 g fun k hk => by
    simp only [impl_IslandsOf.j1, Bool.false_eq_true, if_false]
    rw [if_pos (by omega), if_pos (by omega), wrap_id (x := cnt + 1) (by omega) (by omega)]
    exact hk
  refine Ev.next1 h3 fun k hk => ?_
  simp only [impl_IslandsOf.l0]
  rw [if_pos (by omega), if_pos (by omega), if_pos (by omega), if_pos h1, if_pos (by omega), h2]
  exact hk
theorem islands_l0 (d : List Bool) (w h : Int) (v : List Int) (hw : 1 ≤ w ∧ w ≤ 8) (hh : 1 ≤ h ∧ h ≤ 6) (hd : (d.length : Int) = w * h) (hn : d.length ≤ 48) : ∀ (bs : List Bool) (i : Nat) (s : List Bool) (cnt : Int), d.drop i = bs → s.length = d.length → 0 ≤ cnt ∧ cnt ≤ (i : Int) →
    ∃ r, Ev (fun k => spec_IslandsOf.l0 k d s cnt d (d.length : Int) i w h v) r ∧ Ev (fun k => impl_IslandsOf.l0 k d s cnt (d.length : Int) i w h v) r
  | [], i, s, cnt, hi, hs, hc => by
      have h0 := drop_nil hi
      refine ⟨(cnt, true), Ev.next0 fun k => ?_, Ev.next0 fun k => ?_⟩
      · simp only [spec_IslandsOf.l0]; rw [if_neg (by omega)]
      · simp only [impl_IslandsOf.l0]; rw [if_neg (by omega)]
  | b :: bs, i, s, cnt, hi, hs, hc => by
      obtain ⟨h1, h2, h3⟩ := drop_cons hi
      by_cases hq : rdOf false d (i : Int) = true ∧ rdOf false s (i : Int) = false
      · obtain ⟨F, f1, f2⟩ := spec_IslandsOf_take d w h v hw hh hd hn s hs cnt (by omega) i h1 hq.1 hq.2
        obtain ⟨G, g1, g2⟩ := impl_IslandsOf_take d w h v hw hh hd hn s hs cnt (by omega) i h1 hq.1 hq.2
        obtain rfl := f1.uniq g1
        obtain ⟨r, r1, r2⟩ := islands_l0 d w h v hw hh hd hn bs (i + 1) F (cnt + 1) h3 (by have := f1.len; omega) (by omega)
        exact ⟨r, f2 r r1, g2 r r2⟩
      · have hq' : rdOf false d (i : Int) = false ∨ (s.length = d.length ∧ rdOf false s (i : Int) = true) := by
          cases e1 : rdOf false d (i : Int)
          · exact Or.inl rfl
          · right; refine ⟨hs, ?_⟩
            cases e2 : rdOf false s (i : Int)
            · exact absurd ⟨e1, e2⟩ hq
            · rfl
        obtain ⟨r, r1, r2⟩ := islands_l0 d w h v hw hh hd hn bs (i + 1) s cnt h3 hs (by omega)
        exact ⟨r, spec_IslandsOf_skip d w h v s cnt i h1 (by omega) hq' r r1, impl_IslandsOf_skip d w h v s cnt i h1 (by omega) hq' r r2⟩
theorem islands_both (x y : Int) (l : List Int) (d : List Bool) (hn : l.length ≤ 9223372036854775807) : ∃ r, Ev (fun k => spec_IslandsOf.f k x y l d) r ∧ Ev (fun k => impl_IslandsOf.f k x y l d) r := by
  by_cases h : benchOk x y l = true ∧ d.length = l.length
  · have hb := bench_len h.1
    obtain ⟨r, r1, r2⟩ := islands_l0 d x y l hb.1 hb.2.1 (by omega) (by omega) d 0 (List.replicate ((d.length : Int)).toNat false) 0 rfl (by simp) (by omega)
    refine ⟨r, (ev_and (spec_dgBoth_ev x y l d hn) <| ev_one r1).ev fun k ⟨h1, h2⟩ => ?_, (ev_and (impl_isDug_ev x y l d hn) <| ev_one r2).ev fun k ⟨h1, h2⟩ => ?_⟩
    · simp only [spec_IslandsOf.f, h1, Option.bind_some]
      rw [if_pos (by simpa using h), if_pos (by omega), if_pos (by omega)]; exact h2
    · simp only [impl_IslandsOf.f, h1, Option.bind_some]
      rw [if_pos (by simpa using h), if_pos (by omega), if_pos (by omega)]; exact h2
  · refine ⟨(0, false), (ev_one (spec_dgBoth_ev x y l d hn)).ev fun k h1 => ?_, (ev_one (impl_isDug_ev x y l d hn)).ev fun k h1 => ?_⟩
    · simp only [spec_IslandsOf.f, h1, Option.bind_some]
      rw [if_neg (by simpa using h)]
    · simp only [impl_IslandsOf.f, h1, Option.bind_some]
      rw [if_neg (by simpa using h)]
-- needs: spec_dgSides
def sideCount (d : List Bool) : List Int → Int
  | [] => 0
  | s :: ss => (if s < 0 ∨ rdOf false d s = false then 1 else 0) + sideCount d ss
def dugCount_ (d : List Bool) : List Int → Int
  | [] => 0
  | s :: ss => (if rdOf false d s = true then 1 else 0) + dugCount_ d ss
theorem sides_beside (d : List Bool) {w h i : Int} (hw : 1 ≤ w ∧ w ≤ 8) (hh : 1 ≤ h ∧ h ≤ 6) (hi : 0 ≤ i ∧ i < w * h) : sideCount d (sidesOf w h i) = 4 - dugCount_ d (besideOf w h i) := by
  have hb := cells_bd hw hh hi
  unfold sidesOf besideOf
  generalize w * h = m at *
  generalize i / w = a at *
  generalize i % w = b at *
  have g1 : ∀ c : Int, 0 ≤ c → (if c < 0 ∨ rdOf false d c = false then (1 : Int) else 0) = 1 - (if rdOf false d c = true then (1 : Int) else 0) := fun c hc => by
    cases hr : rdOf false d c
    · rw [if_pos (Or.inr rfl), if_neg (by simp)]; rfl
    · rw [if_neg (by simp; omega), if_pos rfl]; rfl
  by_cases c1 : a + 1 < h <;> by_cases c2 : b + 1 < w <;> by_cases c3 : a > 0 <;> by_cases c4 : b > 0 <;>
    simp only [c1, c2, c3, c4, if_true, if_false, sideCount, dugCount_, List.nil_append, List.cons_append, List.append_nil] <;>
    (try rw [g1 (i + w) (by omega)]) <;> (try rw [g1 (i + 1) (by omega)]) <;> (try rw [g1 (i - w) (by omega)]) <;> (try rw [g1 (i - 1) (by omega)]) <;>
    (try rw [if_pos (show (-1 : Int) < 0 ∨ rdOf false d (-1) = false from Or.inl (by omega))]) <;> omega
theorem sideCount_bd (d : List Bool) : ∀ ss : List Int, 0 ≤ sideCount d ss ∧ sideCount d ss ≤ ss.length
  | [] => by simp [sideCount]
  | s :: ss => by have := sideCount_bd d ss; simp only [sideCount, List.length_cons]; split <;> omega
theorem dugCount_bd (d : List Bool) : ∀ ss : List Int, 0 ≤ dugCount_ d ss ∧ dugCount_ d ss ≤ ss.length
  | [] => by simp [dugCount_]
  | s :: ss => by have := dugCount_bd d ss; simp only [dugCount_, List.length_cons]; split <;> omega
/-- The edges of the dug cells, from cell i on. -/
def edges (d : List Bool) (w h : Int) : List Bool → Nat → Int → Int
  | [], _, e => e
  | b :: bs, i, e => edges d w h bs (i + 1) (if b = true then e + (4 - dugCount_ d (besideOf w h i)) else e)
def edgesOf (x y : Int) (l : List Int) (d : List Bool) : Int × Bool := if benchOk x y l = true ∧ d.length = l.length then (edges d x y d 0 0, true) else (0, false)
theorem spec_EdgesOf_l1 (d : List Bool) (w h : Int) (v : List Int) (b : Bool) (i : Int) (S : List Int) (hS : S.length ≤ 1000) (r : Int × Bool) : ∀ (ss : List Int) (j : Nat) (e : Int), S.drop j = ss → (∀ s ∈ ss, s < (d.length : Int)) → 0 ≤ e → e + ss.length ≤ 1000000 →
    Ev (fun k => spec_EdgesOf.l0 k d (e + if b = true then sideCount d ss else 0) d (d.length : Int) (wrap64 (i + 1)) w h v) r → Ev (fun k => spec_EdgesOf.l1 k d e b d (d.length : Int) i S (S.length : Int) j w h v) r
  | [], j, e, hj, hs, h0, h1, hr => by
      have hz := drop_nil hj
      refine Ev.next1 hr fun k hk => ?_
      simp only [spec_EdgesOf.l1]
      rw [if_neg (by omega)]
      simpa [sideCount] using hk
  | s :: ss, j, e, hj, hs, h0, h1, hr => by
      obtain ⟨j1, j2, j3⟩ := drop_cons hj
      have e1 : rd S j = s := rd_drop hj
      have hs0 := hs s (by simp)
      have hs' : ∀ s ∈ ss, s < (d.length : Int) := fun t ht => hs t (by simp [ht])
      simp only [List.length_cons] at h1
      cases b with
      | false =>
        refine Ev.next1 (spec_EdgesOf_l1 d w h v false i S hS r ss (j + 1) e j3 hs' h0 (by omega) (by simpa using hr)) fun k hk => ?_
        simp only [spec_EdgesOf.l1, e1, Bool.false_eq_true, if_false]
        rw [if_pos (by omega), if_pos (by omega), if_pos (by omega), wrap_succ j1 (by omega)]
        exact hk
      | true =>
        by_cases hc : s < 0 ∨ rdOf false d s = false
        · have hr' : Ev (fun k => spec_EdgesOf.l0 k d (e + 1 + if true = true then sideCount d ss else 0) d (d.length : Int) (wrap64 (i + 1)) w h v) r := by
            simp only [if_true, sideCount, if_pos hc] at hr
            rw [← Int.add_assoc] at hr; exact hr
          refine Ev.next1 (spec_EdgesOf_l1 d w h v true i S hS r ss (j + 1) (e + 1) j3 hs' (by omega) (by omega) hr') fun k hk => ?_
          simp only [spec_EdgesOf.l1, e1, if_true]
          rw [if_pos (by omega), if_pos (by omega), if_pos (by omega), wrap_succ j1 (by omega), wrap_id (x := e + 1) (by omega) (by omega)]
          by_cases hn : s < 0
          · rw [if_pos hn]; exact hk
          · rw [if_neg hn, if_pos (by omega), if_pos hs0]
            rcases hc with hc | hc
            · exact absurd hc hn
            · rw [if_neg (by simp [hc])]; exact hk
        · have hr' : Ev (fun k => spec_EdgesOf.l0 k d (e + if true = true then sideCount d ss else 0) d (d.length : Int) (wrap64 (i + 1)) w h v) r := by
            simp only [if_true, sideCount, if_neg hc, Int.zero_add] at hr
            exact hr
          refine Ev.next1 (spec_EdgesOf_l1 d w h v true i S hS r ss (j + 1) e j3 hs' (by omega) (by omega) hr') fun k hk => ?_
          simp only [spec_EdgesOf.l1, e1, if_true]
          rw [if_pos (by omega), if_pos (by omega), if_pos (by omega), wrap_succ j1 (by omega)]
          have hn : ¬ s < 0 := fun q => hc (Or.inl q)
          have ht : rdOf false d s = true := by cases hq : rdOf false d s; exact absurd (Or.inr hq) hc; rfl
          rw [if_neg hn, if_pos (by omega), if_pos hs0, if_pos ht]; exact hk
theorem spec_EdgesOf_l0 (d : List Bool) (w h : Int) (v : List Int) (hw : 1 ≤ w ∧ w ≤ 8) (hh : 1 ≤ h ∧ h ≤ 6) (hd : (d.length : Int) = w * h) : ∀ (bs : List Bool) (i : Nat) (e : Int), d.drop i = bs → 0 ≤ e ∧ e ≤ 4 * (i : Int) →
    Ev (fun k => spec_EdgesOf.l0 k d e d (d.length : Int) i w h v) (edges d w h bs i e, true)
  | [], i, e, hi, he => Ev.next0 fun k => by
      have h0 := drop_nil hi
      simp only [spec_EdgesOf.l0, edges]
      rw [if_neg (by omega)]
  | b :: bs, i, e, hi, he => by
      obtain ⟨h1, h2, h3⟩ := drop_cons hi
      have eb := rdOf_drop (d := false) hi
      have hcell : 0 ≤ (i : Int) ∧ (i : Int) < w * h := by omega
      have hb := cells_bd hw hh hcell
      have hs := sideCount_bd d (sidesOf w h i)
      have hsl : (sidesOf w h i).length = 4 := rfl
      have hsb := sides_beside d hw hh hcell
      have i0 := spec_EdgesOf_l0 d w h v hw hh hd bs (i + 1) (e + if b = true then sideCount d (sidesOf w h i) else 0) h3 (by split <;> omega)
      rw [← wrap_succ h1 (by omega)] at i0
      have i1 := spec_EdgesOf_l1 d w h v b i (sidesOf w h i) (by omega) _ (sidesOf w h i) 0 e rfl (by rw [hd]; exact sides_mem hw hh hcell) he.1 (by omega) i0
      refine Ev.next2 i1 (spec_dgSides_ev w h v i hw hh hcell) fun k k1 k2 => ?_
      simp only [spec_EdgesOf.l0, eb, k2, Option.bind_some]
      rw [if_pos (by omega), if_pos (by omega), if_pos (by omega)]
      refine k1.trans ?_
      simp only [edges]
      rw [hsb]
      congr 3
      cases b <;> simp
theorem spec_EdgesOf_ev (x y : Int) (l : List Int) (d : List Bool) (hn : l.length ≤ 9223372036854775807) : Ev (fun k => spec_EdgesOf.f k x y l d) (edgesOf x y l d) := by
  by_cases h : benchOk x y l = true ∧ d.length = l.length
  · have hb := bench_len h.1
    refine (ev_and (spec_dgBoth_ev x y l d hn) <| ev_one (spec_EdgesOf_l0 d x y l hb.1 hb.2.1 (by omega) d 0 0 rfl (by omega))).ev fun k ⟨h1, h2⟩ => ?_
    simp only [spec_EdgesOf.f, h1, Option.bind_some]
    rw [if_pos (by simpa using h), edgesOf, if_pos h]
    exact h2
  · refine (ev_one (spec_dgBoth_ev x y l d hn)).ev fun k h1 => ?_
    simp only [spec_EdgesOf.f, h1, Option.bind_some]
    rw [if_neg (by simpa using h), edgesOf, if_neg h]
-- needs: spec_EdgesOf
theorem impl_EdgesOf_l1 (d : List Bool) (w h : Int) (v : List Int) (I : List Int) (i : Int) (S : List Int) (hS : S.length ≤ 1000) (r : Int × Bool) : ∀ (ss : List Int) (j : Nat) (e : Int), S.drop j = ss → (∀ s ∈ ss, 0 ≤ s ∧ s < (d.length : Int)) → -1000000 + ss.length ≤ e → e ≤ 1000000 →
    Ev (fun k => impl_EdgesOf.l0 k d (e - dugCount_ d ss) I (I.length : Int) (wrap64 (i + 1)) w h v) r → Ev (fun k => impl_EdgesOf.l1 k d e I (I.length : Int) i S (S.length : Int) j w h v) r
  | [], j, e, hj, hs, h0, h1, hr => by
      have hz := drop_nil hj
      refine Ev.next1 hr fun k hk => ?_
      simp only [impl_EdgesOf.l1]
      rw [if_neg (by omega)]
      simpa [dugCount_] using hk
  | s :: ss, j, e, hj, hs, h0, h1, hr => by
      obtain ⟨j1, j2, j3⟩ := drop_cons hj
      have e1 : rd S j = s := rd_drop hj
      have hs0 := hs s (by simp)
      have hs' : ∀ s ∈ ss, 0 ≤ s ∧ s < (d.length : Int) := fun t ht => hs t (by simp [ht])
      simp only [List.length_cons] at h0
      by_cases hc : rdOf false d s = true
      · have hr' : Ev (fun k => impl_EdgesOf.l0 k d (e - 1 - dugCount_ d ss) I (I.length : Int) (wrap64 (i + 1)) w h v) r := by
          simp only [dugCount_, if_pos hc] at hr
          rw [show e - 1 - dugCount_ d ss = e - (1 + dugCount_ d ss) by omega]; exact hr
        refine Ev.next1 (impl_EdgesOf_l1 d w h v I i S hS r ss (j + 1) (e - 1) j3 hs' (by omega) (by omega) hr') fun k hk => ?_
        simp only [impl_EdgesOf.l1, e1]
        rw [if_pos (by omega), if_pos (by omega), if_pos (by omega), if_pos hs0.1, if_pos hs0.2, if_pos hc, wrap_succ j1 (by omega), wrap_id (x := e - 1) (by omega) (by omega)]
        exact hk
      · have hr' : Ev (fun k => impl_EdgesOf.l0 k d (e - dugCount_ d ss) I (I.length : Int) (wrap64 (i + 1)) w h v) r := by
          simp only [dugCount_, if_neg hc, Int.zero_add] at hr
          exact hr
        refine Ev.next1 (impl_EdgesOf_l1 d w h v I i S hS r ss (j + 1) e j3 hs' (by omega) (by omega) hr') fun k hk => ?_
        simp only [impl_EdgesOf.l1, e1]
        rw [if_pos (by omega), if_pos (by omega), if_pos (by omega), if_pos hs0.1, if_pos hs0.2, if_neg hc, wrap_succ j1 (by omega)]
        exact hk
theorem impl_EdgesOf_l0 (d : List Bool) (w h : Int) (v : List Int) (hw : 1 ≤ w ∧ w ≤ 8) (hh : 1 ≤ h ∧ h ≤ 6) (hd : (d.length : Int) = w * h) (I : List Int) (hI : I.length ≤ 1000) : ∀ (bs : List Bool) (i j : Nat) (e : Int), d.drop i = bs → I.drop j = marked bs i → 0 ≤ e ∧ e ≤ 4 * (i : Int) →
    Ev (fun k => impl_EdgesOf.l0 k d e I (I.length : Int) j w h v) (edges d w h bs i e, true)
  | [], i, j, e, hi, hj, he => Ev.next0 fun k => by
      have h0 := drop_nil hj
      simp only [impl_EdgesOf.l0, edges]
      rw [if_neg (by omega)]
  | b :: bs, i, j, e, hi, hj, he => by
      obtain ⟨h1, h2, h3⟩ := drop_cons hi
      cases b with
      | false =>
        simp only [marked, Bool.false_eq_true, if_false] at hj
        simpa only [edges, Bool.false_eq_true, if_false] using impl_EdgesOf_l0 d w h v hw hh hd I hI bs (i + 1) j e h3 hj (by omega)
      | true =>
        simp only [marked, if_true] at hj
        obtain ⟨j1, j2, j3⟩ := drop_cons hj
        have e1 : rd I j = (i : Int) := rd_get j2
        have hcell : 0 ≤ (i : Int) ∧ (i : Int) < w * h := by omega
        have hb := cells_bd hw hh hcell
        have hc := dugCount_bd d (besideOf w h i)
        have hl := beside_length w h i
        have i0 := impl_EdgesOf_l0 d w h v hw hh hd I hI bs (i + 1) (j + 1) (e + 4 - dugCount_ d (besideOf w h i)) h3 j3 (by omega)
        rw [← wrap_succ j1 (by omega)] at i0
        have i1 := impl_EdgesOf_l1 d w h v I j (besideOf w h i) (by omega) _ (besideOf w h i) 0 (e + 4) rfl (by rw [hd]; exact beside_mem hw hh hcell) (by omega) (by omega) i0
        refine Ev.next2 i1 (impl_cellsBeside_ev w h v i hw hh hcell) fun k k1 k2 => ?_
        simp only [impl_EdgesOf.l0, e1, k2, Option.bind_some]
        rw [if_pos (by omega), if_pos (by omega), if_pos (by omega), wrap_id (x := e + 4) (by omega) (by omega)]
        refine k1.trans ?_
        simp only [edges, if_true]
        rw [show e + 4 - dugCount_ d (besideOf w h i) = e + (4 - dugCount_ d (besideOf w h i)) by omega]
theorem impl_EdgesOf_ev (x y : Int) (l : List Int) (d : List Bool) (hn : l.length ≤ 9223372036854775807) : Ev (fun k => impl_EdgesOf.f k x y l d) (edgesOf x y l d) := by
  by_cases h : benchOk x y l = true ∧ d.length = l.length
  · have hb := bench_len h.1
    have hm := marked_length d 0
    refine (ev_and (impl_isDug_ev x y l d hn) <| ev_and (impl_listOf_ev d (by omega)) <| ev_one (impl_EdgesOf_l0 d x y l hb.1 hb.2.1 (by omega) (marked d 0) (by omega) d 0 0 0 rfl rfl (by omega))).ev fun k ⟨h1, h2, h3⟩ => ?_
    simp only [impl_EdgesOf.f, h1, h2, Option.bind_some]
    rw [if_pos (by simpa using h), edgesOf, if_pos h]
    exact h3
  · refine (ev_one (impl_isDug_ev x y l d hn)).ev fun k h1 => ?_
    simp only [impl_EdgesOf.f, h1, Option.bind_some]
    rw [if_neg (by simpa using h), edgesOf, if_neg h]
theorem spec_DigText_l1 (d : List Bool) (X : Int) (Y : Int) (v : List Int) (w y n : Nat) (hX : X = (w : Int)) (hw : 1 ≤ w ∧ w ≤ 8) (hd : d.length = n) (hn : n ≤ 48) (hy : y < 6) (hyn : y * w + w ≤ n) 
    (rest : ∀ acc : List Int, acc.length + 10 * y ≤ 800 → Ev (fun k => spec_DigText.l0 k d (strOfNums acc) ((y : Int) - 1) X Y v) (strOfNums (acc ++ digBytes d w y), true)) :
    ∀ (m j : Nat) (acc : List Int), j + m = w → acc.length + m + 1 + 10 * y ≤ 800 → Ev (fun k => spec_DigText.l1 k d (strOfNums acc) y j X Y v) (strOfNums (acc ++ (rowBytes ((d.drop (y * w + j)).take m) ++ 10 :: digBytes d w y)), true)
  | 0, j, acc, hj, ha => by
      have h1 := rest (acc ++ [10]) (by simp; omega)
      refine Ev.next1 h1 fun k hk => ?_
      simp only [spec_DigText.l1]
      rw [if_neg (by omega), strOfNums_size, if_pos (by omega), wrap_id (by omega) (by omega), str_snoc acc 10 10 rfl]
      refine hk.trans ?_
      simp [rowBytes]
  | m + 1, j, acc, hj, ha => by
      have hlt : y * w + j < d.length := by omega
      have hg : d[y * w + j]? = some (d[y * w + j]'hlt) := List.getElem?_eq_getElem hlt
      generalize hb : d[y * w + j]'hlt = b at hg
      have e2 : rdOf false d (((y * w + j : Nat)) : Int) = b := rdOf_get hg
      have hyw : y * w ≤ 48 := by omega
      have ei : wrap64 (wrap64 ((y : Int) * X) + (j : Int)) = ((y * w + j : Nat) : Int) := by
        rw [hX, show (y : Int) * (w : Int) = ((y * w : Nat) : Int) by push_cast; rfl, wrap_id (x := ((y * w : Nat) : Int)) (by omega) (by omega), wrap_id (by omega) (by omega)]; push_cast; rfl
      have hd1 : (d.drop (y * w + j)).take (m + 1) = b :: (d.drop (y * w + (j + 1))).take m := by
        rw [drop_of_get hg, List.take_succ_cons, Nat.add_assoc]
      have h1 := spec_DigText_l1 d X Y v w y n hX hw hd hn hy hyn rest m (j + 1) (acc ++ [if b = true then 35 else 46]) (by omega) (by simp; omega)
      refine Ev.next1 h1 fun k hk => ?_
      simp only [spec_DigText.l1, ei, e2]
      rw [if_pos (by omega), if_pos (by omega), if_pos (by omega), strOfNums_size, wrap_id (x := (j : Int) + 1) (by omega) (by omega), hd1]
      have er : rowBytes (b :: (d.drop (y * w + (j + 1))).take m) = (if b = true then 35 else 46) :: rowBytes ((d.drop (y * w + (j + 1))).take m) := rfl
      rw [er]
      rw [List.append_assoc] at hk
      cases b with
      | true => rw [if_pos rfl, if_pos (by omega), str_snoc acc 35 35 rfl]; exact hk
      | false => rw [if_neg (by simp), if_pos (by omega), str_snoc acc 46 46 rfl]; exact hk
theorem spec_DigText_l0 (d : List Bool) (X : Int) (Y : Int) (v : List Int) (w n : Nat) (hX : X = (w : Int)) (hw : 1 ≤ w ∧ w ≤ 8) (hd : d.length = n) (hn : n ≤ 48) :
    ∀ (y : Nat) (acc : List Int), y ≤ 6 → y * w ≤ n → acc.length + 10 * y ≤ 800 → Ev (fun k => spec_DigText.l0 k d (strOfNums acc) ((y : Int) - 1) X Y v) (strOfNums (acc ++ digBytes d w y), true)
  | 0, acc, hy, hyn, ha => Ev.next0 fun k => by
      simp only [spec_DigText.l0]
      rw [if_neg (by omega)]; simp [digBytes]
  | y + 1, acc, hy, hyn, ha => by
      have hg := grid_row hw (show y < 6 by omega) hyn (by omega)
      have h1 := spec_DigText_l1 d X Y v w y n hX hw hd hn (by omega) (by omega) (fun acc ha => spec_DigText_l0 d X Y v w n hX hw hd hn y acc (by omega) (by omega) ha) w 0 acc (by omega) (by omega)
      refine Ev.next1 h1 fun k hk => ?_
      simp only [spec_DigText.l0]
      rw [if_pos (by omega), show ((y + 1 : Nat) : Int) - 1 = (y : Int) by omega]
      exact hk
def digText (x y : Int) (l : List Int) (d : List Bool) : ByteArray × Bool := if benchOk x y l = true ∧ d.length = l.length then (strOfNums (digBytes d x.toNat y.toNat), true) else (⟨#[]⟩, false)
theorem spec_DigText_ev (x y : Int) (l : List Int) (d : List Bool) (hn : l.length ≤ 9223372036854775807) : Ev (fun k => spec_DigText.f k x y l d) (digText x y l d) := by
  by_cases h : benchOk x y l = true ∧ d.length = l.length
  · have hb := bench_len h.1
    have hyx : y.toNat * x.toNat = l.length := by
      have e : ((y.toNat * x.toNat : Nat) : Int) = x * y := by
        rw [Int.natCast_mul, Int.toNat_of_nonneg (by omega), Int.toNat_of_nonneg (by omega), Int.mul_comm]
      omega
    have h0 := spec_DigText_l0 d x y l x.toNat l.length (by omega) (by omega) h.2 (by omega) y.toNat [] (by omega) (by omega) (by simp; omega)
    refine (ev_and (spec_dgBoth_ev x y l d hn) <| ev_one h0).ev fun k ⟨h1, h2⟩ => ?_
    simp only [spec_DigText.f, h1, Option.bind_some]
    rw [if_pos (by simpa using h), digText, if_pos h, wrap_id (by omega) (by omega)]
    rw [show ((y.toNat : Nat) : Int) = y by omega] at h2
    exact h2
  · refine (ev_one (spec_dgBoth_ev x y l d hn)).ev fun k h1 => ?_
    simp only [spec_DigText.f, h1, Option.bind_some]
    rw [if_neg (by simpa using h), digText, if_neg h]
-- needs: spec_DigText
theorem impl_DigText_l1 (d : List Bool) (X : Int) (Y : Int) (v : List Int) (w y : Nat) (row : List Bool) (hr : row.length ≤ 8)
    (rest : ∀ acc : List Int, acc.length + 10 * y ≤ 800 → Ev (fun k => impl_DigText.l0 k d acc ((y : Int) - 1) X Y v) (strOfNums (acc ++ digBytes d w y), true)) (hy : y < 6) :
    ∀ (bs : List Bool) (j : Nat) (acc : List Int), row.drop j = bs → acc.length + bs.length + 1 + 10 * y ≤ 800 → Ev (fun k => impl_DigText.l1 k d acc y row (row.length : Int) j X Y v) (strOfNums (acc ++ (rowBytes bs ++ 10 :: digBytes d w y)), true)
  | [], j, acc, hj, ha => by
      have h0 := drop_nil hj
      have h1 := rest (acc ++ [10]) (by simp; simp at ha; omega)
      refine Ev.next1 h1 fun k hk => ?_
      simp only [impl_DigText.l1]
      rw [if_neg (by omega), if_pos (by simp at ha; omega), wrap_id (by omega) (by omega)]
      refine hk.trans ?_
      simp [rowBytes]
  | b :: bs, j, acc, hj, ha => by
      obtain ⟨h1, h2, h3⟩ := drop_cons hj
      have e2 := rdOf_drop (d := false) hj
      have hq := impl_DigText_l1 d X Y v w y row hr rest hy bs (j + 1) (acc ++ [if b = true then 35 else 46]) h3 (by simp; simp at ha; omega)
      have er : rowBytes (b :: bs) = (if b = true then 35 else 46) :: rowBytes bs := rfl
      refine Ev.next1 hq fun k hk => ?_
      simp only [impl_DigText.l1, e2]
      rw [if_pos (by omega), if_pos (by omega), if_pos (by omega), wrap_succ h1 (by omega), er]
      rw [List.append_assoc] at hk
      cases b with
      | true => rw [if_pos rfl, if_pos (by simp at ha; omega)]; exact hk
      | false => rw [if_neg (by simp), if_pos (by simp at ha; omega)]; exact hk
theorem wrap_nat (n : Nat) (h : n ≤ 1000) : wrap64 (n : Int) = n := wrap_id (by omega) (by omega)
theorem digText_step (d : List Bool) (X : Int) (Y : Int) (v : List Int) (w y : Nat) (acc : List Int) (r : ByteArray × Bool) (hX : X = (w : Int)) (q1 : y * w ≤ 1000) (q2 : y * w + w ≤ 1000) (q3 : y + 1 ≤ 1000) (q4 : y * w + w ≤ d.length) (ho : (y + 1) * w = y * w + w)
    (h1 : Ev (fun k => impl_DigText.l1 k d acc y ((d.drop (y * w)).take w) (((d.drop (y * w)).take w).length : Int) ((0 : Nat) : Int) X Y v) r) : Ev (fun k => impl_DigText.l0 k d acc (((y + 1 : Nat) : Int) - 1) X Y v) r := by
  have p1 : (0 : Int) ≤ ((y * w : Nat) : Int) := Int.natCast_nonneg _
  have p2 : ((y * w : Nat) : Int) ≤ ((y * w + w : Nat) : Int) := Int.ofNat_le.2 (Nat.le_add_right _ _)
  have p3 : ((y * w + w : Nat) : Int) ≤ (d.length : Int) := Int.ofNat_le.2 q4
  have p7 : ((y + 1 : Nat) : Int) - 1 = (y : Int) := by clear q1 q2 q4 ho h1; omega
  have p8 : (y : Int) ≥ 0 := Int.natCast_nonneg _
  have e3 : (d.take (((y * w + w : Nat) : Int)).toNat).drop (((y * w : Nat) : Int)).toNat = (d.drop (y * w)).take w := by
    rw [Int.toNat_natCast, Int.toNat_natCast, List.drop_take, Nat.add_sub_cancel_left]
  have p4 := wrap_nat (y * w) q1
  have p5 := wrap_nat (y * w + w) q2
  have p6 := wrap_nat (y + 1) q3
  have e1 : wrap64 ((y : Int) * X) = ((y * w : Nat) : Int) := by
    rw [hX, ← Int.natCast_mul]; exact p4
  have e2 : wrap64 (wrap64 ((y : Int) + 1) * X) = ((y * w + w : Nat) : Int) := by
    rw [show ((y : Int) + 1) = ((y + 1 : Nat) : Int) from (Int.natCast_add y 1).symm, p6, hX, ← Int.natCast_mul, ho]; exact p5
  refine Ev.next1 h1 fun k hk => ?_
  simp only [impl_DigText.l0]
  rw [p7, if_pos p8, e1, e2, if_pos p1, if_pos p2, if_pos p3, e3]
  exact hk
theorem impl_DigText_l0 (d : List Bool) (X : Int) (Y : Int) (v : List Int) (w n : Nat) (hX : X = (w : Int)) (hw : 1 ≤ w ∧ w ≤ 8) (hd : d.length = n) (hn : n ≤ 48) :
    ∀ (y : Nat) (acc : List Int), y ≤ 6 → y * w ≤ n → acc.length + 10 * y ≤ 800 → Ev (fun k => impl_DigText.l0 k d acc ((y : Int) - 1) X Y v) (strOfNums (acc ++ digBytes d w y), true)
  | 0, acc, hy, hyn, ha => Ev.next0 fun k => by
      simp only [impl_DigText.l0]
      rw [if_neg (by omega)]; simp [digBytes]
  | y + 1, acc, hy, hyn, ha => by
      have hg := grid_row hw (show y < 6 by omega) hyn (by omega)
      have hl : ((d.drop (y * w)).take w).length = w := by rw [List.length_take, List.length_drop]; omega
      have h1 := impl_DigText_l1 d X Y v w y ((d.drop (y * w)).take w) (by omega) (fun acc ha => impl_DigText_l0 d X Y v w n hX hw hd hn y acc (by omega) (by omega) ha) (by omega) ((d.drop (y * w)).take w) 0 acc rfl (by omega)
      exact digText_step d X Y v w y acc _ hX (by omega) (by omega) (by omega) (by omega) hg.2.1 h1
theorem impl_DigText_ev (x y : Int) (l : List Int) (d : List Bool) (hn : l.length ≤ 9223372036854775807) : Ev (fun k => impl_DigText.f k x y l d) (digText x y l d) := by
  by_cases h : benchOk x y l = true ∧ d.length = l.length
  · have hb := bench_len h.1
    have hyx : y.toNat * x.toNat = l.length := by
      have e : ((y.toNat * x.toNat : Nat) : Int) = x * y := by
        rw [Int.natCast_mul, Int.toNat_of_nonneg (by omega), Int.toNat_of_nonneg (by omega), Int.mul_comm]
      omega
    have h0 := impl_DigText_l0 d x y l x.toNat l.length (by omega) (by omega) h.2 (by omega) y.toNat [] (by omega) (by omega) (by simp; omega)
    refine (ev_and (impl_isDug_ev x y l d hn) <| ev_one h0).ev fun k ⟨h1, h2⟩ => ?_
    simp only [impl_DigText.f, h1, Option.bind_some]
    rw [if_pos (by simpa using h), digText, if_pos h, wrap_id (by omega) (by omega)]
    rw [show ((y.toNat : Nat) : Int) = y by omega] at h2
    exact h2
  · refine (ev_one (impl_isDug_ev x y l d hn)).ev fun k h1 => ?_
    simp only [impl_DigText.f, h1, Option.bind_some]
    rw [if_neg (by simpa using h), digText, if_neg h]
theorem impl_IsDug_ev (x y : Int) (l : List Int) (d : List Bool) (hn : l.length ≤ 9223372036854775807) : Ev (fun k => impl_IsDug.f k x y l d) (if benchOk x y l = true then ((d.length : Int) == (l.length : Int), true) else (false, false)) :=
  Ev.of1 (impl_IsBench_ev x y l hn) fun k hk => by
    simp only [impl_IsDug.f, hk, Option.bind_some]
    by_cases h : benchOk x y l = true
    · rw [if_pos h, if_pos h]
    · rw [if_neg h, if_neg h]
theorem spec_IsDug_ev (x y : Int) (l : List Int) (d : List Bool) (hn : l.length ≤ 9223372036854775807) : Ev (fun k => spec_IsDug.f k x y l d) (if benchOk x y l = true then ((d.length : Int) == (l.length : Int), true) else (false, false)) :=
  Ev.of1 (spec_dgGood_ev x y l hn) fun k hk => by
    simp only [spec_IsDug.f, hk, Option.bind_some]
    by_cases h : benchOk x y l = true
    · rw [if_pos h, if_pos h]
    · rw [if_neg h, if_neg h]
theorem laws_pSameBools_l0 (l : List Bool) (hn : l.length ≤ 1048576) : ∀ (ys : List Bool) (i : Nat), l.drop i = ys → Ev (fun k => laws_pSameBools.l0 k l l (l.length : Int) i) true
  | [], i, h => Ev.next0 fun k => by
      have h0 := drop_nil h
      simp only [laws_pSameBools.l0]
      rw [if_neg (by omega)]
  | y :: ys, i, h => by
      obtain ⟨h1, h2, h3⟩ := drop_cons h
      refine Ev.next1 (laws_pSameBools_l0 l hn ys (i + 1) h3) fun k hk => ?_
      simp only [laws_pSameBools.l0]
      rw [if_pos (by omega), if_pos (by omega), if_pos (by omega), if_pos (by omega), if_neg (by simp), wrap_succ h1 (by omega)]
      exact hk
theorem laws_pSameBools_ev (l : List Bool) (hn : l.length ≤ 1048576) : Ev (fun k => laws_pSameBools.f k l l) true :=
  Ev.of1 (laws_pSameBools_l0 l hn l 0 rfl) fun k hk => by
    simp only [laws_pSameBools.f]
    rw [if_pos trivial]
    exact hk
theorem laws_pCount_l0 (l : List Bool) (hn : l.length ≤ 1048576) : ∀ (ys : List Bool) (i : Nat) (a : Int), l.drop i = ys → 0 ≤ a → a ≤ (i : Int) → Ev (fun k => laws_pCount.l0 k a l (l.length : Int) i) (a + (ys.count true : Int))
  | [], i, a, h, h0, ha => Ev.next0 fun k => by
      have := drop_nil h
      simp only [laws_pCount.l0]
      rw [if_neg (by omega)]; simp
  | true :: ys, i, a, h, h0, ha => by
      obtain ⟨h1, h2, h3⟩ := drop_cons h
      refine Ev.next1 (laws_pCount_l0 l hn ys (i + 1) (a + 1) h3 (by omega) (by omega)) fun k hk => ?_
      simp only [laws_pCount.l0]
      rw [if_pos (by omega), if_pos (by omega), if_pos (by omega), rdOf_drop h, if_pos rfl, wrap_succ h1 (by omega), wrap_id (by omega) (by omega), hk, List.count_cons]
      simp; omega
  | false :: ys, i, a, h, h0, ha => by
      obtain ⟨h1, h2, h3⟩ := drop_cons h
      refine Ev.next1 (laws_pCount_l0 l hn ys (i + 1) a h3 (by omega) (by omega)) fun k hk => ?_
      simp only [laws_pCount.l0]
      rw [if_pos (by omega), if_pos (by omega), if_pos (by omega), rdOf_drop h, if_neg (by simp), wrap_succ h1 (by omega), hk, List.count_cons]
      simp
theorem laws_pCount_ev (l : List Bool) (hn : l.length ≤ 1048576) : Ev (fun k => laws_pCount.f k l) (l.count true : Int) :=
  Ev.of1 (laws_pCount_l0 l hn l 0 0 rfl (by omega) (by omega)) fun k hk => by
    simp only [laws_pCount.f]
    refine hk.trans ?_
    rw [Int.zero_add]
-- needs: spec_EdgesOf spec_IslandsOf impl_IslandsOf sides_model bfs cells
/-! What the law on shapes says of edges and islands. -/
def sumN (f : Nat → Int) : Nat → Int
  | 0 => 0
  | n + 1 => sumN f n + f n
theorem sumN_add (f g : Nat → Int) : ∀ n, sumN (fun c => f c + g c) n = sumN f n + sumN g n
  | 0 => rfl
  | n + 1 => by simp only [sumN]; rw [sumN_add f g n]; omega
theorem sumN_congr {f g : Nat → Int} : ∀ n, (∀ c, c < n → f c = g c) → sumN f n = sumN g n
  | 0, _ => rfl
  | n + 1, h => by simp only [sumN]; rw [sumN_congr n (fun c hc => h c (by omega)), h n (by omega)]
theorem sumN_le {f g : Nat → Int} : ∀ n, (∀ c, c < n → f c ≤ g c) → sumN f n ≤ sumN g n
  | 0, _ => Int.le_refl _
  | n + 1, h => by have a := sumN_le n (fun c hc => h c (by omega)); have b := h n (by omega); simp only [sumN]; omega
theorem sumN_shift (f : Nat → Int) (k : Nat) : ∀ n, sumN (fun c => f (c + k)) n = sumN f (n + k) - sumN f k
  | 0 => by simp [sumN]
  | n + 1 => by
    have e : n + 1 + k = (n + k) + 1 := by omega
    simp only [sumN]; rw [sumN_shift f k n, e]; simp only [sumN]; omega
theorem sumN_zero {f : Nat → Int} : ∀ n, (∀ c, c < n → f c = 0) → sumN f n = 0
  | 0, _ => rfl
  | n + 1, h => by simp only [sumN]; rw [sumN_zero n (fun c hc => h c (by omega)), h n (by omega)]; rfl
theorem sumN_tail (f : Nat → Int) (n : Nat) : ∀ k, (∀ c, n ≤ c → f c = 0) → sumN f (n + k) = sumN f n
  | 0, _ => rfl
  | k + 1, h => by
    have e : n + (k + 1) = (n + k) + 1 := by omega
    rw [e]; simp only [sumN]; rw [sumN_tail f n k h, h (n + k) (by omega)]; omega
/-- A sum that is moved by k: the same, if nothing stands below k and from n on. -/
theorem sumN_move (f : Nat → Int) (k n : Nat) (h0 : ∀ c, c < k → f c = 0) (h1 : ∀ c, n ≤ c → f c = 0) : sumN (fun c => f (c + k)) n = sumN f n := by
  rw [sumN_shift, sumN_tail f n k h1, sumN_zero k h0]; omega
def b01 (b : Bool) : Int := if b = true then 1 else 0
theorem b01_bd (b : Bool) : 0 ≤ b01 b ∧ b01 b ≤ 1 := by cases b <;> decide
def dugAt (d : List Bool) (c : Nat) : Bool := d.getD c false
theorem dug_rd (d : List Bool) (c : Nat) : rdOf false d (c : Int) = dugAt d c := rfl
theorem dug_out (d : List Bool) (c : Nat) (h : d.length ≤ c) : dugAt d c = false := by
  unfold dugAt
  rw [List.getD_eq_getElem?_getD, List.getElem?_eq_none h]; rfl
/-- A dug cell that has a dug one to its left, or ahead of it. -/
def hasL (d : List Bool) (w c : Nat) : Bool := dugAt d c && (decide (0 < c % w) && dugAt d (c - 1))
def hasU (d : List Bool) (w c : Nat) : Bool := dugAt d c && (decide (w ≤ c) && dugAt d (c - w))
def openL (d : List Bool) (w c : Nat) : Bool := dugAt d c && !hasL d w c
def openU (d : List Bool) (w c : Nat) : Bool := dugAt d c && !hasU d w c
theorem open_has (d : List Bool) (w c : Nat) : b01 (openL d w c) = b01 (dugAt d c) - b01 (hasL d w c) ∧ b01 (openU d w c) = b01 (dugAt d c) - b01 (hasU d w c) := by
  unfold openL openU hasL hasU b01
  generalize (decide (0 < c % w) && dugAt d (c - 1)) = p
  generalize (decide (w ≤ c) && dugAt d (c - w)) = q
  generalize dugAt d c = r
  cases p <;> cases q <;> cases r <;> decide
theorem mod_next {c w : Nat} (hw : 1 ≤ w) : 0 < (c + 1) % w ↔ c % w + 1 < w := by
  have h := Nat.add_mod c 1 w
  have hl := Nat.mod_lt c hw
  by_cases e : w = 1
  · subst e; omega
  · rw [Nat.mod_eq_of_lt (show 1 < w by omega)] at h
    by_cases q : c % w + 1 < w
    · rw [Nat.mod_eq_of_lt q] at h; omega
    · have q : c % w + 1 = w := by omega
      rw [q, Nat.mod_self] at h; omega
/-- The open sides of a dug cell: those to the left and ahead, and those of the cells to the right and behind. -/
theorem cell_edges (d : List Bool) (w h : Int) (hw : 1 ≤ w ∧ w ≤ 8) (hh : 1 ≤ h ∧ h ≤ 6) (hd : (d.length : Int) = w * h) (c : Nat) (hc : c < d.length) (hb : dugAt d c = true) :
    4 - dugCount_ d (besideOf w h (c : Int)) = 4 - b01 (hasL d w.toNat c) - b01 (hasU d w.toNat c) - b01 (hasL d w.toNat (c + 1)) - b01 (hasU d w.toNat (c + w.toNat)) := by
  obtain ⟨W, rfl⟩ := Int.eq_ofNat_of_zero_le (show 0 ≤ w by omega)
  obtain ⟨H, rfl⟩ := Int.eq_ofNat_of_zero_le (show 0 ≤ h by omega)
  have hl : d.length = W * H := by exact_mod_cast hd
  have W1 : 1 ≤ W := by omega
  have q1 : (c : Int) / (W : Int) = ((c / W : Nat) : Int) := by omega
  have q2 : (c : Int) % (W : Int) = ((c % W : Nat) : Int) := by omega
  have mn := mod_next (c := c) W1
  have dm := Nat.div_add_mod c W
  have ml := Nat.mod_lt c W1
  have up : 0 < c / W ↔ W ≤ c := by
    constructor
    · intro g; exact Nat.le_of_not_lt fun l => by rw [Nat.div_eq_of_lt l] at g; omega
    · intro g; exact Nat.div_pos g W1
  have dn : c / W + 1 < H ∨ ¬ (c / W + 1 < H) := by omega
  have dnl : ¬ (c / W + 1 < H) → d.length ≤ c + W := fun g => by
    rw [hl]
    have : W * H ≤ W * (c / W + 1) := Nat.mul_le_mul_left W (by omega)
    rw [Nat.mul_add] at this
    omega
  have e1 : rdOf false d ((c : Int) - (W : Int)) = dugAt d (c - W) := by
    show d.getD ((c : Int) - (W : Int)).toNat false = _
    rw [show ((c : Int) - (W : Int)).toNat = c - W by omega]; rfl
  have e2 : rdOf false d ((c : Int) - 1) = dugAt d (c - 1) := by
    show d.getD ((c : Int) - 1).toNat false = _
    rw [show ((c : Int) - 1).toNat = c - 1 by omega]; rfl
  have e3 : rdOf false d ((c : Int) + 1) = dugAt d (c + 1) := rfl
  have e4 : rdOf false d ((c : Int) + (W : Int)) = dugAt d (c + W) := rfl
  have x4 : ¬ (c / W + 1 < H) → dugAt d (c + W) = false := fun g => dug_out d _ (dnl g)
  unfold besideOf hasL hasU
  simp only [Int.toNat_natCast, hb, Bool.true_and, Nat.add_sub_cancel, q1, q2]
  have c1 : (((c / W : Nat) : Int) > 0) ↔ W ≤ c := by rw [← up]; omega
  have c2 : (((c % W : Nat) : Int) > 0) ↔ 0 < c % W := by omega
  have c3 : (((c % W : Nat) : Int) + 1 < (W : Int)) ↔ 0 < (c + 1) % W := by rw [mn]; omega
  have c4 : (((c / W : Nat) : Int) + 1 < (H : Int)) ↔ c / W + 1 < H := by omega
  by_cases a1 : W ≤ c <;> by_cases a2 : 0 < c % W <;> by_cases a3 : 0 < (c + 1) % W <;> by_cases a4 : c / W + 1 < H <;>
    simp only [c1, c2, c3, c4, a1, a2, a3, a4, if_true, if_false, List.nil_append, List.cons_append, List.append_nil, dugCount_, e1, e2, e3, e4, decide_true, decide_false, Bool.true_and, Bool.false_and, Bool.and_true, Bool.and_false, b01, Nat.le_add_left, x4, not_true_eq_false, not_false_eq_true] <;>
    (cases dugAt d (c - W) <;> cases dugAt d (c - 1) <;> cases dugAt d (c + 1) <;> cases dugAt d (c + W) <;> simp_all)
/-- The edges, as a sum over the cells. -/
def edgeAt (d : List Bool) (w h : Int) (c : Nat) : Int := if dugAt d c = true then 4 - dugCount_ d (besideOf w h (c : Int)) else 0
theorem edges_sum (d : List Bool) (w h : Int) : ∀ (bs : List Bool) (i : Nat) (e : Int), d.drop i = bs → edges d w h bs i e = e + (sumN (edgeAt d w h) d.length - sumN (edgeAt d w h) i)
  | [], i, e, hi => by
    have g := drop_nil hi
    have z := sumN_tail (edgeAt d w h) d.length (i - d.length) (fun c hc => by unfold edgeAt; rw [dug_out d c hc, if_neg (by simp)])
    rw [show d.length + (i - d.length) = i by omega] at z
    simp only [edges]; rw [z]; omega
  | b :: bs, i, e, hi => by
    obtain ⟨h1, h2, h3⟩ := drop_cons hi
    have db : dugAt d i = b := by unfold dugAt; rw [List.getD_eq_getElem?_getD, h2]; rfl
    simp only [edges]
    rw [edges_sum d w h bs (i + 1) _ h3]
    simp only [sumN, edgeAt, db]
    split <;> omega
theorem edges_open (d : List Bool) (w h : Int) (hw : 1 ≤ w ∧ w ≤ 8) (hh : 1 ≤ h ∧ h ≤ 6) (hd : (d.length : Int) = w * h) :
    edges d w h d 0 0 = 2 * sumN (fun c => b01 (openL d w.toNat c)) d.length + 2 * sumN (fun c => b01 (openU d w.toNat c)) d.length := by
  rw [edges_sum d w h d 0 0 rfl]
  have k : ∀ c, c < d.length → edgeAt d w h c = (b01 (openL d w.toNat c) + b01 (openU d w.toNat c)) + ((b01 (dugAt d c) - b01 (hasL d w.toNat (c + 1))) + (b01 (dugAt d c) - b01 (hasU d w.toNat (c + w.toNat)))) := fun c hc => by
    have o := open_has d w.toNat c
    unfold edgeAt
    by_cases q : dugAt d c = true
    · rw [if_pos q, cell_edges d w h hw hh hd c hc q, o.1, o.2, q]
      simp only [b01, if_true]; omega
    · have q : dugAt d c = false := by simpa using q
      have z1 : hasL d w.toNat c = false := by simp [hasL, q]
      have z2 : hasU d w.toNat c = false := by simp [hasU, q]
      have z3 : hasL d w.toNat (c + 1) = false := by simp [hasL, q]
      have z4 : hasU d w.toNat (c + w.toNat) = false := by simp [hasU, q]
      rw [if_neg (by simp [q]), o.1, o.2, z1, z2, z3, z4, q]
      simp [b01]
  have s1 : sumN (fun c => b01 (hasL d w.toNat (c + 1))) d.length = sumN (fun c => b01 (hasL d w.toNat c)) d.length :=
    sumN_move (fun c => b01 (hasL d w.toNat c)) 1 d.length (fun c hc => by
      have : c = 0 := by omega
      subst this
      simp [hasL, b01]) (fun c hc => by simp [hasL, dug_out d c hc, b01])
  have s2 : sumN (fun c => b01 (hasU d w.toNat (c + w.toNat))) d.length = sumN (fun c => b01 (hasU d w.toNat c)) d.length :=
    sumN_move (fun c => b01 (hasU d w.toNat c)) w.toNat d.length (fun c hc => by
      have : ¬ w.toNat ≤ c := by omega
      simp [hasU, this, b01]) (fun c hc => by simp [hasU, dug_out d c hc, b01])
  have t1 : sumN (fun c => b01 (openL d w.toNat c)) d.length + sumN (fun c => b01 (hasL d w.toNat c)) d.length = sumN (fun c => b01 (dugAt d c)) d.length := by
    rw [← sumN_add]; exact sumN_congr _ fun c _ => by have := (open_has d w.toNat c).1; omega
  have t2 : sumN (fun c => b01 (openU d w.toNat c)) d.length + sumN (fun c => b01 (hasU d w.toNat c)) d.length = sumN (fun c => b01 (dugAt d c)) d.length := by
    rw [← sumN_add]; exact sumN_congr _ fun c _ => by have := (open_has d w.toNat c).2; omega
  have t3 : sumN (fun c => b01 (dugAt d c) - b01 (hasL d w.toNat (c + 1))) d.length + sumN (fun c => b01 (hasL d w.toNat (c + 1))) d.length = sumN (fun c => b01 (dugAt d c)) d.length := by
    rw [← sumN_add]; exact sumN_congr _ fun c _ => by omega
  have t4 : sumN (fun c => b01 (dugAt d c) - b01 (hasU d w.toNat (c + w.toNat))) d.length + sumN (fun c => b01 (hasU d w.toNat (c + w.toNat))) d.length = sumN (fun c => b01 (dugAt d c)) d.length := by
    rw [← sumN_add]; exact sumN_congr _ fun c _ => by omega
  have m := sumN_congr d.length k
  rw [sumN_add, sumN_add, sumN_add] at m
  simp only [sumN] at *
  omega
theorem edges_le (d : List Bool) (w h : Int) (hw : 1 ≤ w ∧ w ≤ 8) (hh : 1 ≤ h ∧ h ≤ 6) (hd : (d.length : Int) = w * h) : edges d w h d 0 0 ≤ 4 * sumN (fun c => b01 (dugAt d c)) d.length := by
  rw [edges_open d w h hw hh hd]
  have a := sumN_le (f := fun c => b01 (openL d w.toNat c)) (g := fun c => b01 (dugAt d c)) d.length (fun c _ => by have := (open_has d w.toNat c).1; have := b01_bd (hasL d w.toNat c); omega)
  have b := sumN_le (f := fun c => b01 (openU d w.toNat c)) (g := fun c => b01 (dugAt d c)) d.length (fun c _ => by have := (open_has d w.toNat c).2; have := b01_bd (hasU d w.toNat c); omega)
  omega
theorem sumN_nn {f : Nat → Int} (h : ∀ c, 0 ≤ f c) : ∀ n, 0 ≤ sumN f n
  | 0 => Int.le_refl _
  | n + 1 => by have := sumN_nn h n; have := h n; simp only [sumN]; omega
theorem sumN_mono {f : Nat → Int} (h : ∀ c, 0 ≤ f c) : ∀ {m n : Nat}, m ≤ n → sumN f m ≤ sumN f n
  | m, 0, hm => by obtain rfl : m = 0 := by omega
                   exact Int.le_refl _
  | m, n + 1, hm => by
    by_cases e : m = n + 1
    · subst e; exact Int.le_refl _
    · have := sumN_mono h (show m ≤ n by omega); have := h n; simp only [sumN]; omega
/-- Where a cell is dug, some cell up to it is open to the left. -/
theorem open_some (d : List Bool) (w : Nat) : ∀ c, dugAt d c = true → 1 ≤ sumN (fun c => b01 (openL d w c)) (c + 1)
  | 0, h => by simp [sumN, openL, hasL, h, b01]
  | c + 1, h => by
    have nn := sumN_nn (f := fun c => b01 (openL d w c)) (fun c => (b01_bd _).1) (c + 1)
    by_cases g : openL d w (c + 1) = true
    · rw [sumN]; simp only [g]; simp only [b01, if_true] at *; omega
    · have g : hasL d w (c + 1) = true := by
        cases e : hasL d w (c + 1)
        · exact absurd (by simp [openL, h, e]) g
        · rfl
      have dc : dugAt d c = true := by
        simp only [hasL, Bool.and_eq_true, Nat.add_sub_cancel] at g
        exact g.2.2
      have ih := open_some d w c dc
      have b := b01_bd (openL d w (c + 1))
      rw [sumN]; omega
theorem cells_none (d : List Bool) (w h : Int) (hw : 1 ≤ w ∧ w ≤ 8) (hh : 1 ≤ h ∧ h ≤ 6) (hd : (d.length : Int) = w * h) : edges d w h d 0 0 = 0 ↔ sumN (fun c => b01 (dugAt d c)) d.length = 0 := by
  have e := edges_open d w h hw hh hd
  have le := edges_le d w h hw hh hd
  have n1 := sumN_nn (f := fun c => b01 (openL d w.toNat c)) (fun c => (b01_bd _).1) d.length
  have n2 := sumN_nn (f := fun c => b01 (openU d w.toNat c)) (fun c => (b01_bd _).1) d.length
  have n3 := sumN_nn (f := fun c => b01 (dugAt d c)) (fun c => (b01_bd _).1) d.length
  refine ⟨fun q => ?_, fun q => by omega⟩
  refine sumN_zero _ fun c hc => ?_
  cases g : dugAt d c
  · rfl
  · have o := open_some d w.toNat c g
    have m := sumN_mono (f := fun c => b01 (openL d w.toNat c)) (fun c => (b01_bd _).1) (show c + 1 ≤ d.length by omega)
    omega
theorem dug_count : ∀ (d : List Bool), sumN (fun c => b01 (dugAt d c)) d.length = (d.count true : Int) := by
  intro d
  suffices h : ∀ n, n ≤ d.length → sumN (fun c => b01 (dugAt d c)) n = ((d.take n).count true : Int) by
    rw [h d.length (Nat.le_refl _), List.take_length]
  intro n
  induction n with
  | zero => intro _; rfl
  | succ n ih =>
    intro hn
    have g : d[n]? = some d[n] := List.getElem?_eq_getElem (by omega)
    have db : dugAt d n = d[n] := by unfold dugAt; rw [List.getD_eq_getElem?_getD, g]; rfl
    rw [sumN, ih (by omega), List.take_succ_eq_append_getElem (by omega), List.count_append, db]
    cases d[n] <;> simp [b01]
/-- What is known of the marks when the islands are counted, from cell i on. -/
structure Marks (adj : Int → List Int) (n : Int) (d s : List Bool) (i : Nat) : Prop where
  len : (s.length : Int) = n
  done : ∀ c : Nat, c < i → dugAt d c = true → rdOf false s (c : Int) = true
  shut : ∀ c : Int, 0 ≤ c → c < n → rdOf false s c = true → ∀ t ∈ adj c, rdOf false d t = true → rdOf false s t = true
theorem Marks.skip {adj : Int → List Int} {n : Int} {d s : List Bool} {i : Nat} (h : Marks adj n d s i) (q : rdOf false d (i : Int) = false ∨ rdOf false s (i : Int) = true) : Marks adj n d s (i + 1) :=
  ⟨h.len, fun c hc hd => by
    by_cases e : c = i
    · subst e
      rcases q with q | q
      · rw [dug_rd, hd] at q; cases q
      · exact q
    · exact h.done c (by omega) hd, h.shut⟩
theorem Marks.take {adj : Int → List Int} {n : Int} {d s F : List Bool} {i : Nat} (h : Marks adj n d s i) (r : Reach adj n d s i F) : Marks adj n d F (i + 1) :=
  ⟨r.len, fun c hc hd => by
    by_cases e : c = i
    · subst e; exact r.closed.2.1
    · exact r.closed.1 c (by omega) (h.done c (by omega) hd), fun c c0 c1 hc t ht hd => by
    cases e : rdOf false s c
    · exact r.closed.2.2 c c0 c1 hc e t ht hd
    · have ts := h.shut c c0 c1 e t ht hd
      by_cases t0 : 0 ≤ t
      · exact r.closed.1 t t0 ts
      · have z : ∀ l : List Bool, rdOf false l t = rdOf false l 0 := fun l => by show l.getD t.toNat false = l.getD (0 : Int).toNat false; rw [show t.toNat = (0 : Int).toNat by omega]
        rw [z] at ts ⊢
        exact r.closed.1 0 (Int.le_refl _) ts⟩
theorem Marks.open {w h : Int} {d s : List Bool} {i : Nat} (hw : 1 ≤ w ∧ w ≤ 8) (hh : 1 ≤ h ∧ h ≤ 6) (hd : (d.length : Int) = w * h) (hi : i < d.length) (m : Marks (besideOf w h) (w * h) d s i) (h1 : rdOf false d (i : Int) = true) (h2 : rdOf false s (i : Int) = false) :
    openL d w.toNat i = true ∧ openU d w.toNat i = true := by
  have h1' : dugAt d i = true := h1
  have cb := cells_bd (i := (i : Int)) hw hh (by omega)
  obtain ⟨W, rfl⟩ := Int.eq_ofNat_of_zero_le (show 0 ≤ w by omega)
  have q1 : (i : Int) / (W : Int) = ((i / W : Nat) : Int) := by omega
  have q2 : (i : Int) % (W : Int) = ((i % W : Nat) : Int) := by omega
  constructor
  · unfold openL
    rw [h1', Bool.true_and, Bool.not_eq_true']
    cases e : hasL d ((W : Int)).toNat i
    · rfl
    · exfalso
      simp only [hasL, Int.toNat_natCast, Bool.and_eq_true, decide_eq_true_eq] at e
      obtain ⟨_, e1, e2⟩ := e
      have ipos : 1 ≤ i := by
        rcases Nat.eq_zero_or_pos i with z | z
        · subst z; simp at e1
        · exact z
      have s1 := m.done (i - 1) (by omega) e2
      have cb' := cells_bd (w := (W : Int)) (i := ((i - 1 : Nat) : Int)) hw hh (by omega)
      have nx := mod_next (c := i - 1) (w := W) (by omega)
      rw [show i - 1 + 1 = i by omega] at nx
      have g : ((i - 1 : Nat) : Int) % (W : Int) + 1 < (W : Int) := by have := nx.1 e1; omega
      have mem : ((i : Nat) : Int) ∈ besideOf (W : Int) h ((i - 1 : Nat) : Int) := by
        unfold besideOf
        rw [if_pos g]
        simp only [List.mem_append, List.mem_singleton]
        right; right; left; omega
      have := m.shut _ (by omega) (by omega) s1 _ mem h1
      rw [h2] at this; cases this
  · unfold openU
    rw [h1', Bool.true_and, Bool.not_eq_true']
    cases e : hasU d ((W : Int)).toNat i
    · rfl
    · exfalso
      simp only [hasU, Int.toNat_natCast, Bool.and_eq_true, decide_eq_true_eq] at e
      obtain ⟨_, e1, e2⟩ := e
      have s1 := m.done (i - W) (by omega) e2
      have g : ((i - W : Nat) : Int) / (W : Int) + 1 < h := by
        have z : (i : Int) < (W : Int) * h := by omega
        have y : (i : Int) / (W : Int) < h := Int.ediv_lt_of_lt_mul (by omega) (by rw [Int.mul_comm]; exact z)
        have x : ((i - W : Nat) : Int) = (i : Int) - (W : Int) := by omega
        have v : ((i : Int) - (W : Int)) / (W : Int) = (i : Int) / (W : Int) - 1 := by
          have := Int.sub_ediv_of_dvd (i : Int) (Int.dvd_refl (W : Int))
          rw [Int.ediv_self (by omega)] at this
          exact this
        rw [x, v]; omega
      have mem : ((i : Nat) : Int) ∈ besideOf (W : Int) h ((i - W : Nat) : Int) := by
        unfold besideOf
        rw [if_pos g]
        simp only [List.mem_append, List.mem_singleton]
        right; right; right; omega
      have := m.shut _ (by omega) (by omega) s1 _ mem h1
      rw [h2] at this; cases this
theorem islands_bd (d : List Bool) (w h : Int) (v : List Int) (hw : 1 ≤ w ∧ w ≤ 8) (hh : 1 ≤ h ∧ h ≤ 6) (hd : (d.length : Int) = w * h) (hn : d.length ≤ 48) : ∀ (bs : List Bool) (i : Nat) (s : List Bool) (cnt : Int), d.drop i = bs → Marks (besideOf w h) (w * h) d s i → 0 ≤ cnt ∧ cnt ≤ (i : Int) → cnt ≤ sumN (fun c => b01 (openL d w.toNat c)) i → cnt ≤ sumN (fun c => b01 (openU d w.toNat c)) i →
    ∃ m : Int, Ev (fun k => spec_IslandsOf.l0 k d s cnt d (d.length : Int) i w h v) (m, true) ∧ Ev (fun k => impl_IslandsOf.l0 k d s cnt (d.length : Int) i w h v) (m, true) ∧ 0 ≤ m ∧ m ≤ sumN (fun c => b01 (openL d w.toNat c)) d.length ∧ m ≤ sumN (fun c => b01 (openU d w.toNat c)) d.length
  | [], i, s, cnt, hi, hs, hc, l1, l2 => by
      have h0 := drop_nil hi
      have z1 := sumN_tail (fun c => b01 (openL d w.toNat c)) d.length (i - d.length) (fun c hc => by simp [openL, dug_out d c hc, b01])
      have z2 := sumN_tail (fun c => b01 (openU d w.toNat c)) d.length (i - d.length) (fun c hc => by simp [openU, dug_out d c hc, b01])
      rw [show d.length + (i - d.length) = i by omega] at z1 z2
      refine ⟨cnt, Ev.next0 fun k => ?_, Ev.next0 fun k => ?_, hc.1, by omega, by omega⟩
      · simp only [spec_IslandsOf.l0]; rw [if_neg (by omega)]
      · simp only [impl_IslandsOf.l0]; rw [if_neg (by omega)]
  | b :: bs, i, s, cnt, hi, hs, hc, l1, l2 => by
      obtain ⟨h1, h2, h3⟩ := drop_cons hi
      have sl : s.length = d.length := by have := hs.len; omega
      have n1 := b01_bd (openL d w.toNat i)
      have n2 := b01_bd (openU d w.toNat i)
      by_cases hq : rdOf false d (i : Int) = true ∧ rdOf false s (i : Int) = false
      · obtain ⟨F, f1, f2⟩ := spec_IslandsOf_take d w h v hw hh hd hn s sl cnt (by omega) i h1 hq.1 hq.2
        obtain ⟨G, g1, g2⟩ := impl_IslandsOf_take d w h v hw hh hd hn s sl cnt (by omega) i h1 hq.1 hq.2
        obtain rfl := f1.uniq g1
        have op := hs.open hw hh hd h1 hq.1 hq.2
        obtain ⟨m, r1, r2, r3, r4, r5⟩ := islands_bd d w h v hw hh hd hn bs (i + 1) F (cnt + 1) h3 (hs.take f1) (by omega) (by rw [sumN, op.1]; simp only [b01, if_true]; simp only [b01] at l1; omega) (by rw [sumN, op.2]; simp only [b01, if_true]; simp only [b01] at l2; omega)
        exact ⟨m, f2 _ r1, g2 _ r2, r3, r4, r5⟩
      · have hq' : rdOf false d (i : Int) = false ∨ rdOf false s (i : Int) = true := by
          cases e1 : rdOf false d (i : Int)
          · exact Or.inl rfl
          · right
            cases e2 : rdOf false s (i : Int)
            · exact absurd ⟨e1, e2⟩ hq
            · rfl
        obtain ⟨m, r1, r2, r3, r4, r5⟩ := islands_bd d w h v hw hh hd hn bs (i + 1) s cnt h3 (hs.skip hq') (by omega) (by rw [sumN]; omega) (by rw [sumN]; omega)
        exact ⟨m, spec_IslandsOf_skip d w h v s cnt i h1 (by omega) (hq'.imp id fun q => ⟨sl, q⟩) _ r1, impl_IslandsOf_skip d w h v s cnt i h1 (by omega) (hq'.imp id fun q => ⟨sl, q⟩) _ r2, r3, r4, r5⟩
theorem islands_law (x y : Int) (l : List Int) (d : List Bool) (hn : l.length ≤ 9223372036854775807) (h : benchOk x y l = true ∧ d.length = l.length) : ∃ m : Int, Ev (fun k => spec_IslandsOf.f k x y l d) (m, true) ∧ Ev (fun k => impl_IslandsOf.f k x y l d) (m, true) ∧ 0 ≤ m ∧ m ≤ (d.count true : Int) ∧ 4 * m ≤ edges d x y d 0 0 := by
  have hb := bench_len h.1
  have rep : ∀ c : Int, rdOf false (List.replicate ((d.length : Int)).toNat false) c = false := fun c => by
    show (List.replicate ((d.length : Int)).toNat false).getD c.toNat false = false
    rw [List.getD_eq_getElem?_getD, List.getElem?_replicate]
    split <;> rfl
  obtain ⟨m, r1, r2, r3, r4, r5⟩ := islands_bd d x y l hb.1 hb.2.1 (by omega) (by omega) d 0 (List.replicate ((d.length : Int)).toNat false) 0 rfl
    ⟨by simp; omega, fun c hc => by omega, fun c _ _ hc => by rw [rep] at hc; cases hc⟩ (by omega) (by simp [sumN]) (by simp [sumN])
  have eo := edges_open d x y hb.1 hb.2.1 (by omega)
  have ol := sumN_le (f := fun c => b01 (openL d x.toNat c)) (g := fun c => b01 (dugAt d c)) d.length (fun c _ => by have := (open_has d x.toNat c).1; have := b01_bd (hasL d x.toNat c); omega)
  rw [dug_count] at ol
  refine ⟨m, (ev_and (spec_dgBoth_ev x y l d hn) <| ev_one r1).ev fun k ⟨h1, h2⟩ => ?_, (ev_and (impl_isDug_ev x y l d hn) <| ev_one r2).ev fun k ⟨h1, h2⟩ => ?_, r3, by omega, by omega⟩
  · simp only [spec_IslandsOf.f, h1, Option.bind_some]
    rw [if_pos (by simpa using h), if_pos (by omega), if_pos (by omega)]; exact h2
  · simp only [impl_IslandsOf.f, h1, Option.bind_some]
    rw [if_pos (by simpa using h), if_pos (by omega), if_pos (by omega)]; exact h2
/-- The sides of cells see each other. -/
theorem sides_sym {w h i s : Int} (hw : 1 ≤ w ∧ w ≤ 8) (hh : 1 ≤ h ∧ h ≤ 6) (hi : 0 ≤ i ∧ i < w * h) (hs : s ∈ sidesOf w h i) (h0 : 0 ≤ s) : i ∈ sidesOf w h s := by
  have hb := cells_bd hw hh hi
  unfold sidesOf at *
  simp only [List.mem_cons, List.not_mem_nil, or_false] at *
  rcases (by omega : w = 1 ∨ w = 2 ∨ w = 3 ∨ w = 4 ∨ w = 5 ∨ w = 6 ∨ w = 7 ∨ w = 8) with rfl | rfl | rfl | rfl | rfl | rfl | rfl | rfl <;>
    (rcases hs with hs | hs | hs | hs <;> split at hs <;> first | omega | (subst hs; repeat' split) <;> omega)
-- needs: shapes_props
theorem laws_l1 (b d : List Bool) (hb : b.length = d.length) (hd : d.length ≤ 1000) (hk : ∀ i : Nat, dugAt d i = true → dugAt b i = true) : ∀ (ys : List Bool) (i : Nat), d.drop i = ys → Ev (fun k => laws_FnShapes.l1 k b d (d.length : Int) i) true
  | [], i, h => Ev.next0 fun k => by
      have g := drop_nil h
      simp only [laws_FnShapes.l1]
      rw [if_neg (by omega)]
  | y :: ys, i, h => by
      obtain ⟨h1, h2, h3⟩ := drop_cons h
      refine Ev.next1 (laws_l1 b d hb hd hk ys (i + 1) h3) fun k hk' => ?_
      simp only [laws_FnShapes.l1]
      rw [if_pos (by omega), if_pos (by omega), if_pos (by omega), wrap_succ h1 (by omega)]
      by_cases c : rdOf false d (i : Int) = true
      · rw [if_pos c, if_pos (by omega), if_pos (show rdOf false b (i : Int) = true from hk i c)]
        exact hk'
      · rw [if_neg c]
        exact hk'
theorem cells_dug (f : Bool → List Int → Bool) (w h : Int) (d : List Bool) (i : Nat) (hi : i < d.length) : dugAt (cellsOf f w h d 0) i = f (dugAt d i) (sidesOf w h (i : Int)) := by
  have g : d[i]? = some d[i] := List.getElem?_eq_getElem hi
  unfold dugAt
  rw [List.getD_eq_getElem?_getD, List.getD_eq_getElem?_getD, cellsOf_get, g]
  simp
theorem grown_keeps (w h : Int) (d : List Bool) (i : Nat) (hi : i < d.length) (hd : dugAt d i = true) : dugAt (cellsOf (gro d) w h d 0) i = true := by
  rw [cells_dug _ w h d i hi, hd]
  exact (gro_iff d _ _).2 (.inl rfl)
theorem shrunk_in (w h : Int) (d : List Bool) (i : Nat) (hi : i < d.length) (hd : dugAt (cellsOf (shr d) w h d 0) i = true) : dugAt d i = true := by
  rw [cells_dug _ w h d i hi] at hd
  exact ((shr_iff d _ _).1 hd).1
theorem back_keeps (w h : Int) (hw : 1 ≤ w ∧ w ≤ 8) (hh : 1 ≤ h ∧ h ≤ 6) (d : List Bool) (hd : (d.length : Int) = w * h) (i : Nat) (hi : dugAt d i = true) : dugAt (cellsOf (shr (cellsOf (gro d) w h d 0)) w h (cellsOf (gro d) w h d 0) 0) i = true := by
  have il : i < d.length := Nat.lt_of_not_le fun q => by rw [dug_out d i q] at hi; cases hi
  have gl : (cellsOf (gro d) w h d 0).length = d.length := cellsOf_length _ w h d 0
  rw [cells_dug _ w h _ i (by omega)]
  refine (shr_iff _ _ _).2 ⟨grown_keeps w h d i il hi, fun s hs h0 => ?_⟩
  have sl := sides_mem hw hh (i := (i : Int)) (by omega) s hs
  obtain ⟨S, rfl⟩ := Int.eq_ofNat_of_zero_le h0
  have z : rdOf false (cellsOf (gro d) w h d 0) (S : Int) = dugAt (cellsOf (gro d) w h d 0) S := rfl
  rw [z, cells_dug _ w h d S (by omega)]
  exact (gro_iff d _ _).2 (.inr ⟨(i : Int), sides_sym hw hh (by omega) hs h0, by omega, hi⟩)
theorem laws_j2 (b d : List Bool) (hb : b.length = d.length) (hd : d.length ≤ 1000) (hk : ∀ i : Nat, dugAt d i = true → dugAt b i = true) : Ev (fun k => laws_FnShapes.j2 k d b false) true :=
  Ev.next1 (laws_l1 b d hb hd hk d 0 rfl) fun k h => by
    simp only [laws_FnShapes.j2]
    rw [if_neg (by simp)]
    exact h
theorem laws_l0 (x y : Int) (l : List Int) (d : List Bool) (hb : benchOk x y l = true ∧ d.length = l.length) (m : Int) (hm : 0 ≤ m ∧ m ≤ (d.count true : Int) ∧ 4 * m ≤ edges d x y d 0 0) : ∀ (ys : List Bool) (i : Nat), d.drop i = ys →
    Ev (fun k => laws_FnShapes.l0 k d (cellsOf (gro d) x y d 0) (cellsOf (gro d) x y d 0) (cellsOf (shr d) x y d 0) m (edges d x y d 0 0) d (d.length : Int) i x y l) true
  | [], i, h => by
      have g := drop_nil h
      have bl := bench_len hb.1
      have gl : (cellsOf (gro d) x y d 0).length = d.length := cellsOf_length _ x y d 0
      have sl : (cellsOf (shr (cellsOf (gro d) x y d 0)) x y (cellsOf (gro d) x y d 0) 0).length = (cellsOf (gro d) x y d 0).length := cellsOf_length _ x y _ 0
      have a1 := impl_ShrinkDug_ev x y l (cellsOf (gro d) x y d 0) (by omega)
      rw [cellsRes, if_pos ⟨hb.1, by omega⟩] at a1
      have ct : d.count true ≤ d.length := List.count_le_length
      have el := edges_le d x y bl.1 bl.2.1 (by omega)
      have en := cells_none d x y bl.1 bl.2.1 (by omega)
      rw [dug_count] at el en
      refine (ev_and a1 <| ev_and (laws_pCount_ev d (by omega)) <| ev_one (laws_j2 _ d (by omega) (by omega) (back_keeps x y bl.1 bl.2.1 d (by omega)))).next fun k ⟨h1, h2, h3⟩ => ?_
      simp only [laws_FnShapes.l0]
      rw [if_neg (by omega), h1, Option.bind_some, h2, Option.bind_some, if_pos rfl, if_pos (by simp only; omega), if_neg (by omega), wrap_id (by omega) (by omega), if_neg (by omega)]
      have q : ((edges d x y d 0 0 == 0) != ((d.count true : Int) == 0)) = false := by
        by_cases z : edges d x y d 0 0 = 0
        · rw [z, en.1 z]; rfl
        · have z2 : ¬ (d.count true : Int) = 0 := fun e => z (en.2 e)
          simp [z, beq_eq_false_iff_ne.2 z2]
      rw [if_neg (by rw [q]; simp), wrap_id (by omega) (by omega), decide_eq_false (by omega)]
      exact h3
  | b :: ys, i, h => by
      obtain ⟨h1, h2, h3⟩ := drop_cons h
      have bl := bench_len hb.1
      have gl : (cellsOf (gro d) x y d 0).length = d.length := cellsOf_length _ x y d 0
      have sl : (cellsOf (shr d) x y d 0).length = d.length := cellsOf_length _ x y d 0
      refine Ev.next1 (laws_l0 x y l d hb m hm ys (i + 1) h3) fun k hk => ?_
      simp only [laws_FnShapes.l0]
      rw [if_pos (by omega), if_pos (by omega), if_pos (by omega), wrap_succ h1 (by omega)]
      by_cases c : rdOf false d (i : Int) = true
      · rw [if_pos c, if_pos (by omega), if_pos (show rdOf false (cellsOf (gro d) x y d 0) (i : Int) = true from grown_keeps x y d i h1 c), if_pos (by omega)]
        by_cases e : rdOf false (cellsOf (shr d) x y d 0) (i : Int) = true
        · rw [if_pos e]; exact hk
        · rw [if_neg e]; exact hk
      · rw [if_neg c, if_pos (by omega), if_neg (show ¬ rdOf false (cellsOf (shr d) x y d 0) (i : Int) = true from fun e => c (shrunk_in x y d i h1 e))]
        exact hk
theorem laws_j0 (x y : Int) (l : List Int) (d : List Bool) (m : Int) (hm : (benchOk x y l = true ∧ d.length = l.length) → 0 ≤ m ∧ m ≤ (d.count true : Int) ∧ 4 * m ≤ edges d x y d 0 0) :
    Ev (fun k => laws_FnShapes.j0 k d (cellsRes gro x y l d).1 (cellsRes gro x y l d).2 (cellsRes gro x y l d).1 (cellsRes shr x y l d).1 m (edgesOf x y l d).1 false x y l) true := by
  unfold cellsRes edgesOf
  by_cases h : benchOk x y l = true ∧ d.length = l.length
  · rw [if_pos h, if_pos h, if_pos h]
    refine Ev.next1 (laws_l0 x y l d h m (hm h) d 0 rfl) fun k hk => ?_
    simp only [laws_FnShapes.j0]
    rw [if_neg (by simp), if_pos trivial]
    exact hk
  · rw [if_neg h, if_neg h, if_neg h]
    exact Ev.next0 fun k => by
      simp only [laws_FnShapes.j0]
      rw [if_neg (by simp), if_neg (by simp)]
theorem FnShapes : Stat.FnShapes := by
  intro l0 l1 h0 h1
  refine Ev.rounds ?_
  obtain ⟨b, hb⟩ := laws_big_eq l0 l1
  by_cases hg : b = true
  · refine Ev.all fun k => ?_
    simp only [laws_FnShapes.f, hb, Option.bind_some]
    rw [if_pos hg]
  · obtain ⟨x, y, v, d, d1, m1, m2⟩ := spec_DrawGrowDug_some l0 (fun x hx => wf_u8 (h0.2 x hx)) h0.1
    have w1 := cellsRes_len gro x y v d
    have w2 := cellsRes_len shr x y v d
    obtain ⟨m, q, r1, r2, hm⟩ : ∃ (m : Int) (q : Bool), Ev (fun k => spec_IslandsOf.f k x y v d) (m, q) ∧ Ev (fun k => impl_IslandsOf.f k x y v d) (m, q) ∧ ((benchOk x y v = true ∧ d.length = v.length) → 0 ≤ m ∧ m ≤ (d.count true : Int) ∧ 4 * m ≤ edges d x y d 0 0) := by
      by_cases h : benchOk x y v = true ∧ d.length = v.length
      · obtain ⟨m, r1, r2, r3⟩ := islands_law x y v d (by omega) h
        exact ⟨m, true, r1, r2, fun _ => r3⟩
      · obtain ⟨⟨m, q⟩, r1, r2⟩ := islands_both x y v d (by omega)
        exact ⟨m, q, r1, r2, fun g => absurd g h⟩
    have e9 : (cellsRes gro x y v d).2 = (if benchOk x y v = true then ((d.length : Int) == (v.length : Int), true) else (false, false)).1 := by
      unfold cellsRes
      by_cases h : benchOk x y v = true
      · rw [if_pos h]
        by_cases g : d.length = v.length
        · rw [if_pos ⟨h, g⟩, g]; simp
        · rw [if_neg (fun q => g q.2)]; simp; omega
      · rw [if_neg h, if_neg (fun q => h q.1)]
    refine (ev_and d1 <| ev_and (impl_GrowDug_ev x y v d (by omega)) <| ev_and (spec_GrowDug_ev x y v d (by omega)) <| ev_and (impl_ShrinkDug_ev x y v d (by omega)) <| ev_and (spec_ShrinkDug_ev x y v d (by omega)) <| ev_and r2 <| ev_and r1 <| ev_and (impl_EdgesOf_ev x y v d (by omega)) <| ev_and (spec_EdgesOf_ev x y v d (by omega)) <| ev_and (impl_DigText_ev x y v d (by omega)) <| ev_and (spec_DigText_ev x y v d (by omega)) <| ev_and (impl_IsDug_ev x y v d (by omega)) <| ev_and (spec_IsDug_ev x y v d (by omega)) <|
      ev_and (laws_pSameBools_ev (cellsRes gro x y v d).1 (by omega)) <| ev_and (laws_pSameBools_ev (cellsRes shr x y v d).1 (by omega)) <| ev_one (laws_j0 x y v d m hm)).ev fun k ⟨e1, e2, e3, e4, e5, e6, e7, e8, e10, e11, e12, e13, e14, e15, e16, e17⟩ => ?_
    simp only [laws_FnShapes.f, hb, e1, e2, e3, e4, e5, e6, e7, e8, e10, e11, e12, e13, e14, e15, e16, Option.bind_some]
    rw [if_neg hg, if_neg (by simp), if_pos trivial, if_neg (by simp), if_pos trivial, if_neg (by simp), if_pos trivial, if_neg (by simp), if_pos trivial, if_neg (by simp), if_pos trivial, if_neg (by simp), if_neg (by simp), ← e9, bne_self_eq_false]
    exact e17
end Go.Proofs.Ytinfalmpncfneaa.PureFnShapes
namespace Go.Proofs.Ytinfalmpncfneaa.Pure
theorem FnShapes : Stat.FnShapes := PureFnShapes.FnShapes
end Go.Proofs.Ytinfalmpncfneaa.Pure
