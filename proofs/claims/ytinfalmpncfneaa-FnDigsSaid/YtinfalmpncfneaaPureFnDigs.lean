/- The law FnDigs over numbers and lists: it is true of every input. -/
import Derived.Test.YtinfalmpncfneaaStatFnDigs
import Derived.Test.YtinfalmpncfneaaWMore
set_option linter.unusedVariables false
set_option linter.unusedSimpArgs false
namespace Go.Proofs.Ytinfalmpncfneaa.Kit
open Go.RowKit Go.Proofs.YtinfalmpncfneaaW.PrintWords Go.Proofs.YtinfalmpncfneaaW.PrintMore

/-! ### Rounds -/
theorem Ev.all {α : Type} {g : Nat → Option α} {r : α} (h : ∀ k, g k = some r) : Ev g r := ⟨0, fun k _ => h k⟩
theorem Ev.of1 {α β : Type} {g : Nat → Option α} {f : Nat → Option β} {r : α} {b : β} (h : Ev f b) (k : ∀ k, f k = some b → g k = some r) : Ev g r := by
  obtain ⟨K, h⟩ := h; exact ⟨K, fun n hn => k n (h n hn)⟩
theorem Ev.of2 {α β γ : Type} {g : Nat → Option α} {f : Nat → Option β} {f' : Nat → Option γ} {r : α} {b : β} {c : γ} (h : Ev f b) (h' : Ev f' c) (k : ∀ k, f k = some b → f' k = some c → g k = some r) : Ev g r := by
  obtain ⟨K, h⟩ := h; obtain ⟨K', h'⟩ := h'; exact ⟨K + K', fun n hn => k n (h n (by omega)) (h' n (by omega))⟩
theorem Ev.next0 {α : Type} {g : Nat → Option α} {r : α} (h : ∀ k, g (k + 1) = some r) : Ev g r :=
  ⟨1, fun n hn => by obtain ⟨m, rfl⟩ : ∃ m, n = m + 1 := ⟨n - 1, by omega⟩; exact h m⟩
theorem Ev.next1 {α β : Type} {g : Nat → Option α} {f : Nat → Option β} {r : α} {b : β} (h : Ev f b) (k : ∀ k, f k = some b → g (k + 1) = some r) : Ev g r := by
  obtain ⟨K, h⟩ := h
  exact ⟨K + 1, fun n hn => by obtain ⟨m, rfl⟩ : ∃ m, n = m + 1 := ⟨n - 1, by omega⟩; exact k m (h m (by omega))⟩
theorem Ev.next2 {α β γ : Type} {g : Nat → Option α} {f : Nat → Option β} {f' : Nat → Option γ} {r : α} {b : β} {c : γ} (h : Ev f b) (h' : Ev f' c) (k : ∀ k, f k = some b → f' k = some c → g (k + 1) = some r) : Ev g r := by
  obtain ⟨K, h⟩ := h; obtain ⟨K', h'⟩ := h'
  exact ⟨K + K' + 1, fun n hn => by obtain ⟨m, rfl⟩ : ∃ m, n = m + 1 := ⟨n - 1, by omega⟩; exact k m (h m (by omega)) (h' m (by omega))⟩
/-- From some number of rounds on. -/
def Evt (p : Nat → Prop) : Prop := ∃ K, ∀ k, K ≤ k → p k
theorem ev_one {α : Type} {f : Nat → Option α} {a : α} (h : Ev f a) : Evt (fun k => f k = some a) := h
theorem ev_and {α : Type} {f : Nat → Option α} {a : α} {p : Nat → Prop} (h : Ev f a) (h' : Evt p) : Evt (fun k => f k = some a ∧ p k) := by
  obtain ⟨K, h⟩ := h; obtain ⟨K', h'⟩ := h'; exact ⟨K + K', fun n hn => ⟨h n (by omega), h' n (by omega)⟩⟩
theorem Evt.ev {α : Type} {g : Nat → Option α} {r : α} {p : Nat → Prop} (h : Evt p) (k : ∀ k, p k → g k = some r) : Ev g r := by
  obtain ⟨K, h⟩ := h; exact ⟨K, fun n hn => k n (h n hn)⟩
theorem Evt.next {α : Type} {g : Nat → Option α} {r : α} {p : Nat → Prop} (h : Evt p) (k : ∀ k, p k → g (k + 1) = some r) : Ev g r := by
  obtain ⟨K, h⟩ := h
  exact ⟨K + 1, fun n hn => by obtain ⟨m, rfl⟩ : ∃ m, n = m + 1 := ⟨n - 1, by omega⟩; exact k m (h m (by omega))⟩

/-! ### Whole numbers -/
theorem wrap_id {x : Int} (h0 : -9223372036854775808 ≤ x) (h1 : x ≤ 9223372036854775807) : wrap64 x = x := by unfold wrap64; omega
theorem wrap_succ {i n : Nat} (h : i < n) (hn : n ≤ 9223372036854775807) : wrap64 ((i : Int) + 1) = ((i + 1 : Nat) : Int) := by unfold wrap64; omega
theorem toNat_cast (i : Nat) : ((i : Int)).toNat = i := by omega

theorem mx_eq (a b : Int) : mx a b = max a b := by unfold mx; split <;> omega
/-! ### Lists from an index on -/
theorem drop_cons {α : Type} {xs ys : List α} {y : α} {i : Nat} (h : xs.drop i = y :: ys) : i < xs.length ∧ xs[i]? = some y ∧ xs.drop (i + 1) = ys := by
  have hlt : i < xs.length := by
    by_cases hlt : i < xs.length
    · exact hlt
    · rw [List.drop_of_length_le (by omega)] at h; cases h
  rw [List.drop_eq_getElem_cons hlt] at h
  injection h with h1 h2
  exact ⟨hlt, by rw [List.getElem?_eq_getElem hlt, h1], h2⟩
theorem drop_nil {α : Type} {xs : List α} {i : Nat} (h : xs.drop i = []) : xs.length ≤ i := by simpa using h
theorem getD_drop {α : Type} {xs ys : List α} {y d : α} {i : Nat} (h : xs.drop i = y :: ys) : xs.getD ((i : Int)).toNat d = y := by
  rw [toNat_cast, List.getD_eq_getElem?_getD, (drop_cons h).2.1]; rfl
theorem rd_drop {xs ys : List Int} {y : Int} {i : Nat} (h : xs.drop i = y :: ys) : rd xs (i : Int) = y := getD_drop h
theorem rdOf_drop {α : Type} {xs ys : List α} {y d : α} {i : Nat} (h : xs.drop i = y :: ys) : rdOf d xs (i : Int) = y := getD_drop h
theorem getD_get {α : Type} {xs : List α} {y d : α} {i : Nat} (h : xs[i]? = some y) : xs.getD ((i : Int)).toNat d = y := by
  rw [toNat_cast, List.getD_eq_getElem?_getD, h]; rfl
theorem rd_get {xs : List Int} {y : Int} {i : Nat} (h : xs[i]? = some y) : rd xs (i : Int) = y := getD_get h
theorem rdOf_get {α : Type} {xs : List α} {y d : α} {i : Nat} (h : xs[i]? = some y) : rdOf d xs (i : Int) = y := getD_get h
/-! ### A list that is copied, element for element -/
/-! ### Strictly increasing lists of 0..n-1 -/
/-! ### Numbers marked and held -/
end Go.Proofs.Ytinfalmpncfneaa.Kit
namespace Go.Proofs.Ytinfalmpncfneaa.Model
open Go.RowKit Go.Proofs.YtinfalmpncfneaaW.PrintWords Go.Proofs.Ytinfalmpncfneaa.Kit

/-- Numbers within bounds, all of them. -/
def allIn (lo hi : Int) : List Int → Bool
  | [] => true
  | y :: ys => decide (lo ≤ y ∧ y ≤ hi) && allIn lo hi ys
theorem allIn_mem {lo hi : Int} : ∀ {ys : List Int}, allIn lo hi ys = true → ∀ y ∈ ys, lo ≤ y ∧ y ≤ hi
  | [], _, y, hy => by cases hy
  | z :: zs, h, y, hy => by
    simp only [allIn, Bool.and_eq_true, decide_eq_true_eq] at h
    rcases List.mem_cons.1 hy with rfl | hy
    · exact h.1
    · exact allIn_mem h.2 y hy
theorem allIn_get {lo hi : Int} {ys : List Int} (h : allIn lo hi ys = true) {i : Nat} {y : Int} (hy : ys[i]? = some y) : lo ≤ y ∧ y ≤ hi := allIn_mem h y (List.mem_of_getElem? hy)
theorem allIn_of {lo hi : Int} : ∀ {ys : List Int}, (∀ y ∈ ys, lo ≤ y ∧ y ≤ hi) → allIn lo hi ys = true
  | [], _ => rfl
  | z :: zs, h => by simp only [allIn, Bool.and_eq_true, decide_eq_true_eq]; exact ⟨h z (by simp), allIn_of fun y hy => h y (by simp [hy])⟩

def benchOk (x y : Int) (l : List Int) : Bool := decide (1 ≤ x ∧ x ≤ 8 ∧ 1 ≤ y ∧ y ≤ 6 ∧ (l.length : Int) = x * y) && allIn (-1000000) 1000000 l
theorem bench_prod {x y : Int} (hx : 1 ≤ x ∧ x ≤ 8) (hy : 1 ≤ y ∧ y ≤ 6) : 1 ≤ x * y ∧ x * y ≤ 48 := by
  rcases (by omega : x = 1 ∨ x = 2 ∨ x = 3 ∨ x = 4 ∨ x = 5 ∨ x = 6 ∨ x = 7 ∨ x = 8) with rfl | rfl | rfl | rfl | rfl | rfl | rfl | rfl <;> omega
theorem bench_len {x y : Int} {l : List Int} (h : benchOk x y l = true) : (1 ≤ x ∧ x ≤ 8) ∧ (1 ≤ y ∧ y ≤ 6) ∧ (l.length : Int) = x * y ∧ 1 ≤ l.length ∧ l.length ≤ 48 := by
  simp only [benchOk, Bool.and_eq_true, decide_eq_true_eq] at h
  have := bench_prod (x := x) (y := y) (by omega) (by omega)
  omega
theorem bench_vals {x y : Int} {l : List Int} (h : benchOk x y l = true) : allIn (-1000000) 1000000 l = true := by
  simp only [benchOk, Bool.and_eq_true] at h; exact h.2
/-- Tonnes and losses of a bench. -/
def lossWaste : List Int → List Bool → Int → Int → Int × Int
  | v :: vs, b :: bs, l, w => if b = true then lossWaste vs bs l (w + max 0 (-v)) else lossWaste vs bs (l + max 0 v) w
  | _, _, l, w => (l, w)
def dugSum : List Int → List Bool → Int → Int
  | v :: vs, b :: bs, s => dugSum vs bs (if b = true then s + v else s)
  | _, _, s => s
theorem grid_row {w y : Nat} {n : Nat} (hw : 1 ≤ w ∧ w ≤ 8) (hy : y < 6) (hn : (y + 1) * w ≤ n) (h48 : n ≤ 48) : y * w ≤ 48 ∧ (y + 1) * w = y * w + w ∧ y * w + w ≤ n := by
  rw [Nat.add_mul, Nat.one_mul] at hn ⊢; omega
end Go.Proofs.Ytinfalmpncfneaa.Model
namespace Go.Proofs.Ytinfalmpncfneaa.PureFnDigs
open Go.RowKit Go.Proofs.Ytinfalmpncfneaa.PFnDigs Go.Proofs.YtinfalmpncfneaaW.PrintWords Go.Proofs.YtinfalmpncfneaaW.PrintLast Go.Proofs.YtinfalmpncfneaaW.PrintMore Go.Proofs.Ytinfalmpncfneaa.Kit Go.Proofs.Ytinfalmpncfneaa.Model
theorem laws_big_eq (l m : List Int) : ∃ b, laws_big.f l m = some b := by
  simp only [laws_big.f]
  split <;> exact ⟨_, rfl⟩
theorem wf_u8 {n : Int} (h : (Lit.int .u8 n).wf = true) : 0 ≤ n ∧ n ≤ 255 := by
  simp [Lit.wf, IntKind.min, IntKind.max, IntKind.signed, IntKind.bits] at h
  omega
theorem laws_pSameBools_l0 (l : List Bool) (hn : l.length ≤ 1048576) : ∀ (ys : List Bool) (i : Nat), l.drop i = ys → Ev (fun k => laws_pSameBools.l0 k l l (l.length : Int) i) true
  | [], i, h => Ev.next0 fun k => by
      have h0 := drop_nil h
      simp only [laws_pSameBools.l0]
      rw [if_neg (by omega)]
  | y :: ys, i, h => by
      obtain ⟨h1, h2, h3⟩ := drop_cons h
      refine Ev.next1 (laws_pSameBools_l0 l hn ys (i + 1) h3) fun k hk => ?_
      simp only [laws_pSameBools.l0]
      rw [if_pos (by omega), if_pos (by omega), if_pos (by omega), if_pos (by omega), if_neg (by simp), wrap_succ h1 (by omega)]
      exact hk
theorem laws_pSameBools_ev (l : List Bool) (hn : l.length ≤ 1048576) : Ev (fun k => laws_pSameBools.f k l l) true :=
  Ev.of1 (laws_pSameBools_l0 l hn l 0 rfl) fun k hk => by
    simp only [laws_pSameBools.f]
    rw [if_pos trivial]
    exact hk
theorem laws_pCount_l0 (l : List Bool) (hn : l.length ≤ 1048576) : ∀ (ys : List Bool) (i : Nat) (a : Int), l.drop i = ys → 0 ≤ a → a ≤ (i : Int) → Ev (fun k => laws_pCount.l0 k a l (l.length : Int) i) (a + (ys.count true : Int))
  | [], i, a, h, h0, ha => Ev.next0 fun k => by
      have := drop_nil h
      simp only [laws_pCount.l0]
      rw [if_neg (by omega)]; simp
  | true :: ys, i, a, h, h0, ha => by
      obtain ⟨h1, h2, h3⟩ := drop_cons h
      refine Ev.next1 (laws_pCount_l0 l hn ys (i + 1) (a + 1) h3 (by omega) (by omega)) fun k hk => ?_
      simp only [laws_pCount.l0]
      rw [if_pos (by omega), if_pos (by omega), if_pos (by omega), rdOf_drop h, if_pos rfl, wrap_succ h1 (by omega), wrap_id (by omega) (by omega), hk, List.count_cons]
      simp; omega
  | false :: ys, i, a, h, h0, ha => by
      obtain ⟨h1, h2, h3⟩ := drop_cons h
      refine Ev.next1 (laws_pCount_l0 l hn ys (i + 1) a h3 (by omega) (by omega)) fun k hk => ?_
      simp only [laws_pCount.l0]
      rw [if_pos (by omega), if_pos (by omega), if_pos (by omega), rdOf_drop h, if_neg (by simp), wrap_succ h1 (by omega), hk, List.count_cons]
      simp
theorem laws_pCount_ev (l : List Bool) (hn : l.length ≤ 1048576) : Ev (fun k => laws_pCount.f k l) (l.count true : Int) :=
  Ev.of1 (laws_pCount_l0 l hn l 0 0 rfl (by omega) (by omega)) fun k hk => by
    simp only [laws_pCount.f]
    refine hk.trans ?_
    rw [Int.zero_add]
theorem wrap_u64' (n : Int) : IntKind.u64.wrap n = n % 18446744073709551616 := by simp [IntKind.wrap, IntKind.bits, IntKind.signed]
theorem and255 (x : Int) (h0 : 0 ≤ x) (h1 : x < 16777216) : Go.bits .and .u64 x 255 = x % 256 := bits_mask .u64 24 (by decide) (fun n a b => by rw [wrap_u64']; omega) 8 (by decide) x h0 h1
theorem tail_bd (y : Int) : 0 ≤ wrap64 (Go.bits .and .u64 (IntKind.u64.wrap y / 1099511627776) 255) ∧ wrap64 (Go.bits .and .u64 (IntKind.u64.wrap y / 1099511627776) 255) ≤ 255 := by
  rw [wrap_u64', and255 _ (by omega) (by omega), wrap_id (by omega) (by omega)]
  omega
theorem byte_bd {l : List Int} (hl : ∀ x ∈ l, 0 ≤ x ∧ x ≤ 255) {p : Int} (h0 : 0 ≤ p) (h1 : p < (l.length : Int)) : 0 ≤ rd l p ∧ rd l p ≤ 255 := by
  obtain ⟨i, rfl⟩ := Int.eq_ofNat_of_zero_le h0
  have hi : i < l.length := by omega
  have e : l[i]? = some l[i] := List.getElem?_eq_getElem hi
  have r : rd l ((i : Nat) : Int) = l[i] := rd_get e
  show 0 ≤ rd l ((i : Nat) : Int) ∧ rd l ((i : Nat) : Int) ≤ 255
  rw [r]
  exact hl _ (List.getElem_mem hi)
theorem spec_l1Cur_next_some (l : List Int) (hl : ∀ x ∈ l, 0 ≤ x ∧ x ≤ 255) (hn : l.length ≤ 9223372036854775807) (p s : Int) (h0 : 0 ≤ p) (h1 : p ≤ 1000000) : ∃ r s', spec_l1Cur_next.f l p s = some (r, p + 1, s') ∧ 0 ≤ r ∧ r ≤ 255 := by
  have ew : wrap64 (p + 1) = p + 1 := wrap_id (by omega) (by omega)
  simp only [spec_l1Cur_next.f, ew]
  by_cases c : p < (l.length : Int)
  · rw [if_pos c, if_pos h0, if_pos (by omega)]
    have b := byte_bd hl h0 c
    exact ⟨_, _, rfl, by rw [wrap_id (by omega) (by omega)]; exact b⟩
  · rw [if_neg c, if_neg (by omega)]
    exact ⟨_, _, rfl, tail_bd _⟩
theorem spec_l1Cur_pick_some (l : List Int) (hl : ∀ x ∈ l, 0 ≤ x ∧ x ≤ 255) (hn : l.length ≤ 9223372036854775807) (p s : Int) (h0 : 0 ≤ p) (h1 : p ≤ 900000) (n : Int) : ∃ r p' s', spec_l1Cur_pick.f l p s n = some (r, p', s') ∧ (0 ≤ r ∧ (1 ≤ n → r < n)) ∧ p ≤ p' ∧ p' ≤ p + 2 := by
  by_cases c : n ≤ 1
  · refine ⟨0, p, s, ?_, by omega, by omega, by omega⟩
    simp only [spec_l1Cur_pick.f]
    rw [if_pos c]
  · obtain ⟨x, s1, e1, b1⟩ := spec_l1Cur_next_some l hl hn p s h0 (by omega)
    have tm : ∀ v : Int, 0 ≤ v → 0 ≤ Int.tmod v n ∧ Int.tmod v n < n := fun v hv => by
      rw [Int.tmod_eq_emod_of_nonneg hv]
      exact ⟨Int.emod_nonneg v (by omega), Int.emod_lt_of_pos v (by omega)⟩
    by_cases d : n > 200
    · obtain ⟨y, s2, e2, b2⟩ := spec_l1Cur_next_some l hl hn (p + 1) s1 (by omega) (by omega)
      have t := tm (x * 256 + y) (by omega)
      refine ⟨Int.tmod (x * 256 + y) n, p + 1 + 1, s2, ?_, ⟨t.1, fun _ => t.2⟩, by omega, by omega⟩
      simp only [spec_l1Cur_pick.f, e1, e2, Option.bind_some]
      rw [if_neg c, if_pos d, if_neg (by omega), wrap_id (x := x * 256) (by omega) (by omega), wrap_id (x := x * 256 + y) (by omega) (by omega)]
    · have t := tm x b1.1
      refine ⟨Int.tmod x n, p + 1, s1, ?_, ⟨t.1, fun _ => t.2⟩, by omega, by omega⟩
      simp only [spec_l1Cur_pick.f, e1, Option.bind_some]
      rw [if_neg c, if_neg d, if_neg (by omega)]
theorem spec_l1Cur_among_some (l : List Int) (hl : ∀ x ∈ l, 0 ≤ x ∧ x ≤ 255) (hn : l.length ≤ 9223372036854775807) (p s : Int) (h0 : 0 ≤ p) (h1 : p ≤ 900000) (xs : List Int) (hx : 1 ≤ xs.length) : ∃ r p' s', spec_l1Cur_among.f l p s xs = some (r, p', s') ∧ p ≤ p' ∧ p' ≤ p + 2 := by
  obtain ⟨r, p', s', e, b, c⟩ := spec_l1Cur_pick_some l hl hn p s h0 h1 (xs.length : Int)
  have d := b.2 (by omega)
  refine ⟨rd xs r, p', s', ?_, c⟩
  simp only [spec_l1Cur_among.f, e, Option.bind_some]
  rw [if_pos b.1, if_pos d]
theorem spec_l1Cur_one_some (l : List Int) (hl : ∀ x ∈ l, 0 ≤ x ∧ x ≤ 255) (hn : l.length ≤ 9223372036854775807) (p s : Int) (h0 : 0 ≤ p) (h1 : p ≤ 900000) (n : Int) : ∃ r p' s', spec_l1Cur_one.f l p s n = some (r, p', s') ∧ p ≤ p' ∧ p' ≤ p + 2 := by
  obtain ⟨r, p', s', e, _, c⟩ := spec_l1Cur_pick_some l hl hn p s h0 h1 n
  exact ⟨(r == 0), p', s', by simp only [spec_l1Cur_one.f, e, Option.bind_some], c⟩
theorem spec_l1Cur_bench_l0 (l : List Int) (hl : ∀ x ∈ l, 0 ≤ x ∧ x ≤ 255) (hn : l.length ≤ 9223372036854775807) (x y : Int) (hx : 1 ≤ x ∧ x ≤ 8) (hy : 1 ≤ y ∧ y ≤ 6) : ∀ (d : Nat) (v : List Int) (p s : Int), v.length + d ≤ 48 → 1 ≤ v.length + d → 0 ≤ p → p + 4 * (d : Int) ≤ 700000 → ∃ x' y' v' p' s', Ev (fun k => spec_l1Cur_bench.l0 k (d : Int) l p s x y v) (x', y', v', p', s') ∧ v'.length ≤ 48 ∧ p ≤ p' ∧ p' ≤ p + 4 * (d : Int) + 4
  | 0, v, p, s, h1, h2, h3, h4 => by
      obtain ⟨q, p1, s1, e1, _, b1⟩ := spec_l1Cur_pick_some l hl hn p s h3 (by omega) 30
      by_cases c0 : q = 0
      · obtain ⟨r, p2, s2, e2, b2⟩ := spec_l1Cur_among_some l hl hn p1 s1 (by omega) (by omega) [0, 9, wrap64 (x + 1)] (by simp)
        refine ⟨r, y, v, p2, s2, Ev.next0 fun k => ?_, by omega, by omega, by omega⟩
        simp only [spec_l1Cur_bench.l0, e1, e2, Option.bind_some]
        rw [if_neg (by omega), if_pos c0]
      by_cases c1 : q = 1
      · obtain ⟨r, p2, s2, e2, b2⟩ := spec_l1Cur_among_some l hl hn p1 s1 (by omega) (by omega) [0, 7] (by simp)
        refine ⟨x, r, v, p2, s2, Ev.next0 fun k => ?_, by omega, by omega, by omega⟩
        simp only [spec_l1Cur_bench.l0, e1, e2, Option.bind_some]
        rw [if_neg (by omega), if_neg c0, if_pos c1]
      by_cases c2 : q = 2
      · obtain ⟨r, p2, s2, e2, b2⟩ := spec_l1Cur_among_some l hl hn p1 s1 (by omega) (by omega) [(-1000000), 1000000, 1000001, (-1000001)] (by simp)
        refine ⟨x, y, v.set (0 : Int).toNat r, p2, s2, Ev.next0 fun k => ?_, by rw [List.length_set]; omega, by omega, by omega⟩
        simp only [spec_l1Cur_bench.l0, e1, e2, Option.bind_some]
        rw [if_neg (by omega), if_neg c0, if_neg c1, if_pos c2, if_pos (by omega)]
      by_cases c3 : q = 3
      · refine ⟨9, 1, List.replicate 9 0, p1, s1, Ev.next0 fun k => ?_, by simp, by omega, by omega⟩
        simp only [spec_l1Cur_bench.l0, e1, Option.bind_some]
        rw [if_neg (by omega), if_neg c0, if_neg c1, if_neg c2, if_pos c3, if_pos (by decide)]
      by_cases c4 : q = 4
      · refine ⟨1, 7, List.replicate 7 0, p1, s1, Ev.next0 fun k => ?_, by simp, by omega, by omega⟩
        simp only [spec_l1Cur_bench.l0, e1, Option.bind_some]
        rw [if_neg (by omega), if_neg c0, if_neg c1, if_neg c2, if_neg c3, if_pos c4, if_pos (by decide)]
      · refine ⟨x, y, v, p1, s1, Ev.next0 fun k => ?_, by omega, by omega, by omega⟩
        simp only [spec_l1Cur_bench.l0, e1, Option.bind_some]
        rw [if_neg (by omega), if_neg c0, if_neg c1, if_neg c2, if_neg c3, if_neg c4]
  | d + 1, v, p, s, h1, h2, h3, h4 => by
      obtain ⟨q, p1, s1, e1, _, b1⟩ := spec_l1Cur_pick_some l hl hn p s h3 (by omega) 40
      obtain ⟨r, p2, s2, e2, b2⟩ := spec_l1Cur_among_some l hl hn p1 s1 (by omega) (by omega) [(-3), (-2), (-1), 0, 1, 2, 5, wrap64 (q - 20)] (by simp)
      obtain ⟨x', y', v', p', s', h, g1, g2, g3⟩ := spec_l1Cur_bench_l0 l hl hn x y hx hy d (v ++ [r]) p2 s2 (by simp; omega) (by simp; omega) (by omega) (by push_cast at h4; omega)
      refine ⟨x', y', v', p', s', Ev.next1 h fun k hk => ?_, g1, by omega, by push_cast; omega⟩
      simp only [spec_l1Cur_bench.l0, e1, e2, Option.bind_some]
      rw [if_pos (by omega), if_pos (by omega), wrap_id (x := ((d + 1 : Nat) : Int) - 1) (by omega) (by omega), show ((d + 1 : Nat) : Int) - 1 = (d : Int) by omega]
      exact hk
theorem spec_l1Cur_bench_some (l : List Int) (hl : ∀ x ∈ l, 0 ≤ x ∧ x ≤ 255) (hn : l.length ≤ 9223372036854775807) (p s : Int) (h0 : 0 ≤ p) (h1 : p ≤ 500000) : ∃ x y v p' s', Ev (fun k => spec_l1Cur_bench.f k l p s) (x, y, v, p', s') ∧ v.length ≤ 48 ∧ p ≤ p' ∧ p' ≤ p + 300 := by
  obtain ⟨a, p1, s1, e1, c1, b1⟩ := spec_l1Cur_pick_some l hl hn p s h0 (by omega) 6
  obtain ⟨b, p2, s2, e2, c2, b2⟩ := spec_l1Cur_pick_some l hl hn p1 s1 (by omega) (by omega) 3
  obtain ⟨o, p3, s3, e3, b3⟩ := spec_l1Cur_one_some l hl hn p2 s2 (by omega) (by omega) 24
  have c1' := c1.2 (by omega)
  have c2' := c2.2 (by omega)
  have main : ∀ x y : Int, (1 ≤ x ∧ x ≤ 8) → (1 ≤ y ∧ y ≤ 6) → ∃ x' y' v p' s', Ev (fun k => spec_l1Cur_bench.j0 k l p3 s3 x y) (x', y', v, p', s') ∧ v.length ≤ 48 ∧ p3 ≤ p' ∧ p' ≤ p3 + 200 := fun x y hx hy => by
    have m0 : 1 ≤ x * y := Int.mul_pos (by omega) (by omega)
    have m1 : x * y ≤ 8 * 6 := Int.mul_le_mul hx.2 hy.2 (by omega) (by omega)
    obtain ⟨d, hd⟩ := Int.eq_ofNat_of_zero_le (show 0 ≤ x * y by omega)
    obtain ⟨x', y', v, p', s', h, g1, g2, g3⟩ := spec_l1Cur_bench_l0 l hl hn x y hx hy d [] p3 s3 (by simp; omega) (by simp; omega) (by omega) (by omega)
    refine ⟨x', y', v, p', s', Ev.next1 h fun k hk => ?_, g1, by omega, by omega⟩
    simp only [spec_l1Cur_bench.j0]
    rw [hd, wrap_id (by omega) (by omega)]
    exact hk
  by_cases c : o = true
  · obtain ⟨x, y, v, p', s', h, g1, g2, g3⟩ := main 8 6 (by omega) (by omega)
    refine ⟨x, y, v, p', s', Ev.of1 h fun k hk => ?_, g1, by omega, by omega⟩
    simp only [spec_l1Cur_bench.f, e1, e2, e3, Option.bind_some]
    rw [if_pos c]
    exact hk
  · obtain ⟨x, y, v, p', s', h, g1, g2, g3⟩ := main (1 + a) (1 + b) (by omega) (by omega)
    refine ⟨x, y, v, p', s', Ev.of1 h fun k hk => ?_, g1, by omega, by omega⟩
    simp only [spec_l1Cur_bench.f, e1, e2, e3, Option.bind_some]
    rw [if_neg c, wrap_id (x := 1 + a) (by omega) (by omega), wrap_id (x := 1 + b) (by omega) (by omega)]
    exact hk
theorem spec_DrawBestDig_some (l : List Int) (hl : ∀ x ∈ l, 0 ≤ x ∧ x ≤ 255) (hn : l.length ≤ 9223372036854775807) : ∃ x y v w, Ev (fun k => spec_DrawBestDig.f k l) (x, y, v, w) ∧ v.length ≤ 48 ∧ (0 ≤ w ∧ w ≤ 9) := by
  obtain ⟨x, y, v, p, s, h, hv, b1, b2⟩ := spec_l1Cur_bench_some l hl hn 0 0 (by omega) (by omega)
  obtain ⟨i, p2, s2, e, c, b3⟩ := spec_l1Cur_pick_some l hl hn p s (by omega) (by omega) 8
  have c' := c.2 (by omega)
  have e2 : spec_l1Cur_among.f l p s [1, 2, 2, 3, 4, 8, 9, 0] = some (rd [1, 2, 2, 3, 4, 8, 9, 0] i, p2, s2) := by
    have e' : spec_l1Cur_pick.f l p s (([1, 2, 2, 3, 4, 8, 9, 0] : List Int).length : Int) = some (i, p2, s2) := e
    simp only [spec_l1Cur_among.f, e', Option.bind_some]
    rw [if_pos c.1, if_pos (show i < (([1, 2, 2, 3, 4, 8, 9, 0] : List Int).length : Int) from c')]
  refine ⟨x, y, v, rd [1, 2, 2, 3, 4, 8, 9, 0] i, Ev.of1 h fun k hk => ?_, hv, ?_⟩
  · simp only [spec_DrawBestDig.f, hk, e2, Option.bind_some]
  · rcases (by omega : i = 0 ∨ i = 1 ∨ i = 2 ∨ i = 3 ∨ i = 4 ∨ i = 5 ∨ i = 6 ∨ i = 7) with rfl | rfl | rfl | rfl | rfl | rfl | rfl | rfl <;> decide
theorem impl_goodValues_l0 (l : List Int) (hn : l.length ≤ 9223372036854775807) : ∀ (ys : List Int) (i : Nat), l.drop i = ys → Ev (fun k => impl_goodValues.l0 k l (l.length : Int) i) (allIn (-1000000) 1000000 ys)
  | [], i, h => Ev.next0 fun k => by
      have h0 := drop_nil h
      simp only [impl_goodValues.l0, allIn]
      rw [if_neg (by omega)]
  | y :: ys, i, h => by
      obtain ⟨h1, h2, h3⟩ := drop_cons h
      refine Ev.next1 (impl_goodValues_l0 l hn ys (i + 1) h3) fun k hk => ?_
      have e := rd_drop h
      simp only [impl_goodValues.l0, e]
      rw [if_pos (by omega), if_pos (by omega), if_pos (by omega), wrap_succ h1 hn]
      by_cases hy : -1000000 ≤ y
      · rw [if_neg (by omega)]
        by_cases hz : y ≤ 1000000
        · rw [if_neg (by omega), hk]; simp [allIn, hy, hz]
        · rw [if_pos (by omega)]; simp [allIn, hz]
      · rw [if_pos (by omega)]; simp [allIn, hy]
theorem impl_goodValues_ev (l : List Int) (hn : l.length ≤ 9223372036854775807) : Ev (fun k => impl_goodValues.f k l) (decide (1 ≤ l.length ∧ l.length ≤ 120) && allIn (-1000000) 1000000 l) := by
  by_cases h : 1 ≤ l.length ∧ l.length ≤ 120
  · have h1 : Ev (fun k => impl_goodValues.j0 k l false) (allIn (-1000000) 1000000 l) := Ev.next1 (impl_goodValues_l0 l hn l 0 rfl) fun k hk => by
      simp only [impl_goodValues.j0]; rw [if_neg (by simp)]; exact hk
    refine Ev.of1 h1 fun k hk => ?_
    have e : decide ((l.length : Int) > 120) = false := by simp; omega
    simp only [impl_goodValues.f]
    rw [if_neg (by omega), e, hk]; simp [h]
  · have h1 : Ev (fun k => impl_goodValues.j0 k l true) false := Ev.next0 fun k => by simp [impl_goodValues.j0]
    refine Ev.of1 h1 fun k hk => ?_
    simp only [impl_goodValues.f]
    by_cases h2 : l.length < 1
    · rw [if_pos (by omega), hk]; simp; omega
    · have e : decide ((l.length : Int) > 120) = true := by simp; omega
      rw [if_neg (by omega), e, hk]; simp; omega
theorem impl_IsBench_ev (x y : Int) (l : List Int) (hn : l.length ≤ 9223372036854775807) : Ev (fun k => impl_IsBench.f k x y l) (benchOk x y l) := by
  refine Ev.of1 (impl_goodValues_ev l hn) fun k hk => ?_
  simp only [impl_IsBench.f, hk, Option.bind_some, benchOk]
  by_cases hx : 1 ≤ x ∧ x ≤ 8
  · rw [if_neg (by omega), if_neg (by omega)]
    by_cases hy : 1 ≤ y ∧ y ≤ 6
    · have hp := bench_prod hx hy
      rw [if_neg (by omega), if_neg (by omega), wrap_id (by omega) (by omega)]
      by_cases hl : (l.length : Int) = x * y
      · rw [if_pos hl]; congr 1
        rw [decide_eq_true (show 1 ≤ l.length ∧ l.length ≤ 120 by omega)]
        simp [hx, hy, hl]
      · rw [if_neg hl]; congr 1; symm; simp [hl]
    · have e : decide (1 ≤ x ∧ x ≤ 8 ∧ 1 ≤ y ∧ y ≤ 6 ∧ (l.length : Int) = x * y) = false := by simp; omega
      rw [e]; split
      · simp
      · rw [if_pos (by omega)]; simp
  · have e : decide (1 ≤ x ∧ x ≤ 8 ∧ 1 ≤ y ∧ y ≤ 6 ∧ (l.length : Int) = x * y) = false := by simp; omega
    rw [e]; split
    · simp
    · rw [if_pos (by omega)]; simp
theorem wrap_nat (n : Nat) (h : n ≤ 1000) : wrap64 (n : Int) = n := wrap_id (by omega) (by omega)
/-- The cut of row y out of a bench of rows of w. -/
theorem row_cut (d : List Bool) (X : Int) (w y : Nat) (hX : X = (w : Int)) (q1 : y * w ≤ 1000) (q2 : y * w + w ≤ 1000) (q3 : y + 1 ≤ 1000) (q4 : y * w + w ≤ d.length) (ho : (y + 1) * w = y * w + w) :
    0 ≤ wrap64 ((y : Int) * X) ∧ wrap64 ((y : Int) * X) ≤ wrap64 (wrap64 ((y : Int) + 1) * X) ∧ wrap64 (wrap64 ((y : Int) + 1) * X) ≤ (d.length : Int) ∧
      (d.take (wrap64 (wrap64 ((y : Int) + 1) * X)).toNat).drop (wrap64 ((y : Int) * X)).toNat = (d.drop (y * w)).take w ∧ wrap64 ((y : Int) + 1) = ((y + 1 : Nat) : Int) := by
  have p1 : (0 : Int) ≤ ((y * w : Nat) : Int) := Int.natCast_nonneg _
  have p2 : ((y * w : Nat) : Int) ≤ ((y * w + w : Nat) : Int) := Int.ofNat_le.2 (Nat.le_add_right _ _)
  have p3 : ((y * w + w : Nat) : Int) ≤ (d.length : Int) := Int.ofNat_le.2 q4
  have e3 : (d.take (((y * w + w : Nat) : Int)).toNat).drop (((y * w : Nat) : Int)).toNat = (d.drop (y * w)).take w := by
    rw [Int.toNat_natCast, Int.toNat_natCast, List.drop_take, Nat.add_sub_cancel_left]
  have p4 := wrap_nat (y * w) q1
  have p5 := wrap_nat (y * w + w) q2
  have p6 := wrap_nat (y + 1) q3
  have p7 : ((y : Int) + 1) = ((y + 1 : Nat) : Int) := (Int.natCast_add y 1).symm
  have e1 : wrap64 ((y : Int) * X) = ((y * w : Nat) : Int) := by
    rw [hX, ← Int.natCast_mul]; exact p4
  have e2 : wrap64 (wrap64 ((y : Int) + 1) * X) = ((y * w + w : Nat) : Int) := by
    rw [p7, p6, hX, ← Int.natCast_mul, ho]; exact p5
  rw [e1, e2]
  refine ⟨p1, p2, p3, e3, ?_⟩
  rw [p7]; exact p6
/-- The lengths of a row's runs of 'true'; n: of the run under way. -/
def runs : List Bool → Int → List Int
  | [], _ => []
  | b :: bs, n => if b = true then (if bs = [] then [n + 1] else runs bs (n + 1)) else (if n > 0 then n :: runs bs 0 else runs bs 0)
theorem runs_pos : ∀ (bs : List Bool) (n : Int), 0 ≤ n → ∀ r ∈ runs bs n, 0 < r
  | [], n, h, r, hr => by cases hr
  | b :: bs, n, h, r, hr => by
    simp only [runs] at hr
    split at hr
    · split at hr
      · simp at hr; omega
      · exact runs_pos bs (n + 1) (by omega) r hr
    · split at hr
      · rcases List.mem_cons.1 hr with rfl | hr
        · omega
        · exact runs_pos bs 0 (by omega) r hr
      · exact runs_pos bs 0 (by omega) r hr
theorem runs_length : ∀ (bs : List Bool) (n : Int), (runs bs n).length ≤ bs.length
  | [], n => Nat.le_refl _
  | b :: bs, n => by
    have a := runs_length bs (n + 1); have c := runs_length bs 0
    simp only [runs]; repeat' split
    all_goals simp <;> omega
theorem spec_dgRuns_l0 (row : List Bool) (hn : row.length ≤ 1048576) : ∀ (bs : List Bool) (j : Nat) (acc : List Int) (n : Int), row.drop j = bs → acc.length ≤ j → 0 ≤ n ∧ n ≤ j →
    Ev (fun k => spec_dgRuns.l0 k row acc n row (row.length : Int) j) (acc ++ runs bs n)
  | [], j, acc, n, h, ha, hm => Ev.next0 fun k => by
      have h0 := drop_nil h
      simp only [spec_dgRuns.l0, runs, List.append_nil]
      rw [if_neg (by omega)]
  | b :: bs, j, acc, n, h, ha, hm => by
      obtain ⟨h1, h2, h3⟩ := drop_cons h
      have e := rdOf_drop (d := false) h
      cases b with
      | true =>
        by_cases hl : bs = []
        · have hj : j + 1 = row.length := by have := drop_nil (hl ▸ h3); omega
          refine Ev.next1 (spec_dgRuns_l0 row hn bs (j + 1) (acc ++ [n + 1]) 0 h3 (by simp; omega) (by omega)) fun k hk => ?_
          simp only [spec_dgRuns.l0, e, runs, if_true, if_pos hl]
          rw [if_pos (by omega), if_pos (by omega), if_pos (by omega), wrap_id (x := n + 1) (by omega) (by omega), wrap_id (x := (row.length : Int) - 1) (by omega) (by omega), if_pos (by omega), if_pos (by omega), if_pos (by omega), wrap_succ h1 (by omega)]
          have e0 : runs bs 0 = [] := by rw [hl]; rfl
          rw [e0, List.append_nil] at hk; exact hk
        · have hj : j + 1 ≠ row.length := fun q => hl (by rw [← h3, List.drop_of_length_le (by omega)])
          refine Ev.next1 (spec_dgRuns_l0 row hn bs (j + 1) acc (n + 1) h3 (by omega) (by omega)) fun k hk => ?_
          simp only [spec_dgRuns.l0, e, runs, if_true, if_neg hl]
          rw [if_pos (by omega), if_pos (by omega), if_pos (by omega), wrap_id (x := n + 1) (by omega) (by omega), wrap_id (x := (row.length : Int) - 1) (by omega) (by omega), if_pos (by omega), if_neg (by omega), wrap_succ h1 (by omega)]
          exact hk
      | false =>
        by_cases hp : n > 0
        · refine Ev.next1 (spec_dgRuns_l0 row hn bs (j + 1) (acc ++ [n]) 0 h3 (by simp; omega) (by omega)) fun k hk => ?_
          simp only [spec_dgRuns.l0, e, runs, Bool.false_eq_true, if_false, if_pos hp]
          rw [if_pos (by omega), if_pos (by omega), if_pos (by omega), if_pos (by omega), wrap_succ h1 (by omega)]
          rw [List.append_assoc] at hk; exact hk
        · obtain rfl : n = 0 := by omega
          refine Ev.next1 (spec_dgRuns_l0 row hn bs (j + 1) acc 0 h3 (by omega) (by omega)) fun k hk => ?_
          simp only [spec_dgRuns.l0, e, runs, Bool.false_eq_true, if_false, if_neg hp]
          rw [if_pos (by omega), if_pos (by omega), if_pos (by omega), wrap_succ h1 (by omega)]
          exact hk
theorem spec_dgRuns_ev (row : List Bool) (hn : row.length ≤ 1048576) : Ev (fun k => spec_dgRuns.f k row) (runs row 0) :=
  Ev.of1 (spec_dgRuns_l0 row hn row 0 [] 0 rfl (by simp) (by omega)) fun k hk => by simp only [spec_dgRuns.f]; exact hk
/-- The smaller of what was found (0: nothing yet) and r. -/
def less (b r : Int) : Int := if b = 0 then r else if r < b then r else b
def lessAll (b : Int) : List Int → Int
  | [] => b
  | r :: rs => lessAll (less b r) rs
def comb (b m : Int) : Int := if m > 0 then less b m else b
theorem lessAll_pos : ∀ (rs : List Int) (b : Int), 0 ≤ b → (∀ r ∈ rs, 0 < r) → 0 ≤ lessAll b rs
  | [], b, hb, _ => hb
  | r :: rs, b, hb, hr => by
    have h1 := hr r (by simp)
    refine lessAll_pos rs (less b r) ?_ (fun x hx => hr x (by simp [hx]))
    unfold less; split; omega; split <;> omega
theorem lessAll_comb : ∀ (rs : List Int) (b : Int), 0 ≤ b → (∀ r ∈ rs, 0 < r) → lessAll b rs = comb b (lessAll 0 rs)
  | [], b, hb, _ => by simp [lessAll, comb]
  | r :: rs, b, hb, hr => by
    have h1 := hr r (by simp)
    have hr' : ∀ x ∈ rs, 0 < x := fun x hx => hr x (by simp [hx])
    have e1 := lessAll_comb rs (less b r) (by unfold less; split; omega; split <;> omega) hr'
    have e2 := lessAll_comb rs (less 0 r) (by unfold less; split; omega; split <;> omega) hr'
    have hp := lessAll_pos rs 0 (by omega) hr'
    simp only [lessAll]
    rw [e1, e2]
    generalize lessAll 0 rs = m at hp
    unfold comb less
    repeat' split
    all_goals omega
-- needs: spec_dgRuns
theorem impl_shortestRun_j2t (row : List Bool) (x3 x4 : Int) (j : Nat) (r : Int) (hj : j < row.length) (hn : row.length ≤ 1048576) (h : Ev (fun k => impl_shortestRun.l0 k row (less x3 x4) 0 row (row.length : Int) ((j + 1 : Nat) : Int)) r) :
    Ev (fun k => impl_shortestRun.j2 k row x3 x4 row (row.length : Int) j true) r :=
  Ev.next1 h fun k hk => by
    simp only [impl_shortestRun.j2, if_true]
    rw [wrap_succ hj (by omega)]
    unfold less at hk
    by_cases h0 : x3 = 0
    · rw [if_pos h0] at hk ⊢; exact hk
    · rw [if_neg h0] at hk ⊢
      by_cases h4 : x4 < x3
      · rw [if_pos h4] at hk ⊢; exact hk
      · rw [if_neg h4] at hk ⊢; exact hk
theorem impl_shortestRun_j2f (row : List Bool) (x3 x4 : Int) (j : Nat) (r : Int) (hj : j < row.length) (hn : row.length ≤ 1048576) (h : Ev (fun k => impl_shortestRun.l0 k row x3 x4 row (row.length : Int) ((j + 1 : Nat) : Int)) r) :
    Ev (fun k => impl_shortestRun.j2 k row x3 x4 row (row.length : Int) j false) r :=
  Ev.next1 h fun k hk => by
    simp only [impl_shortestRun.j2, Bool.false_eq_true, if_false]
    rw [wrap_succ hj (by omega)]
    exact hk
theorem impl_shortestRun_l0 (row : List Bool) (hn : row.length ≤ 1048576) : ∀ (bs : List Bool) (j : Nat) (b n : Int), row.drop j = bs → 0 ≤ n ∧ n ≤ j →
    Ev (fun k => impl_shortestRun.l0 k row b n row (row.length : Int) j) (lessAll b (runs bs n))
  | [], j, b, n, h, hm => Ev.next0 fun k => by
      have h0 := drop_nil h
      simp only [impl_shortestRun.l0, runs, lessAll]
      rw [if_neg (by omega)]
  | c :: bs, j, b, n, h, hm => by
      obtain ⟨h1, h2, h3⟩ := drop_cons h
      have e := rdOf_drop (d := false) h
      cases c with
      | true =>
        by_cases hl : bs = []
        · have hj : j + 1 = row.length := by have := drop_nil (hl ▸ h3); omega
          have i0 := impl_shortestRun_l0 row hn bs (j + 1) (less b (n + 1)) 0 h3 (by omega)
          have i1 := impl_shortestRun_j2t row b (n + 1) j _ h1 hn i0
          have i2 : Ev (fun k => impl_shortestRun.j1 k row b (n + 1) j true row (row.length : Int) j) (lessAll (less b (n + 1)) (runs bs 0)) :=
            Ev.next1 i1 fun k hk => by
              simp only [impl_shortestRun.j1]
              rw [if_pos (by omega), if_pos trivial, wrap_id (x := (row.length : Int) - 1) (by omega) (by omega), show (((j : Int)) == (row.length : Int) - 1) = true by simp; omega]
              exact hk
          refine Ev.next1 i2 fun k hk => ?_
          simp only [impl_shortestRun.l0, e, runs, if_true, if_pos hl]
          rw [if_pos (by omega), if_pos (by omega), if_pos (by omega), wrap_id (x := n + 1) (by omega) (by omega)]
          have e0 : runs bs 0 = [] := by rw [hl]; rfl
          rw [e0] at hk; exact hk
        · have hj : j + 1 ≠ row.length := fun q => hl (by rw [← h3, List.drop_of_length_le (by omega)])
          have i0 := impl_shortestRun_l0 row hn bs (j + 1) b (n + 1) h3 (by omega)
          have i1 := impl_shortestRun_j2f row b (n + 1) j _ h1 hn i0
          have i2 : Ev (fun k => impl_shortestRun.j1 k row b (n + 1) j true row (row.length : Int) j) (lessAll b (runs bs (n + 1))) :=
            Ev.next1 i1 fun k hk => by
              simp only [impl_shortestRun.j1]
              rw [if_pos (by omega), if_pos trivial, wrap_id (x := (row.length : Int) - 1) (by omega) (by omega), show (((j : Int)) == (row.length : Int) - 1) = false by simp; omega]
              exact hk
          refine Ev.next1 i2 fun k hk => ?_
          simp only [impl_shortestRun.l0, e, runs, if_true, if_neg hl]
          rw [if_pos (by omega), if_pos (by omega), if_pos (by omega), wrap_id (x := n + 1) (by omega) (by omega)]
          exact hk
      | false =>
        by_cases hp : n > 0
        · have i0 := impl_shortestRun_l0 row hn bs (j + 1) (less b n) 0 h3 (by omega)
          have i1 := impl_shortestRun_j2t row b n j _ h1 hn i0
          have i2 : Ev (fun k => impl_shortestRun.j1 k row b n j false row (row.length : Int) j) (lessAll (less b n) (runs bs 0)) :=
            Ev.next1 i1 fun k hk => by
              simp only [impl_shortestRun.j1]
              rw [if_pos (by omega), if_neg (by simp)]
              exact hk
          refine Ev.next1 i2 fun k hk => ?_
          simp only [impl_shortestRun.l0, e, runs, Bool.false_eq_true, if_false, if_pos hp, lessAll]
          rw [if_pos (by omega), if_pos (by omega), if_pos (by omega)]
          exact hk
        · obtain rfl : n = 0 := by omega
          have i0 := impl_shortestRun_l0 row hn bs (j + 1) b 0 h3 (by omega)
          have i1 := impl_shortestRun_j2f row b 0 j _ h1 hn i0
          have i2 : Ev (fun k => impl_shortestRun.j1 k row b 0 j false row (row.length : Int) j) (lessAll b (runs bs 0)) :=
            Ev.next1 i1 fun k hk => by
              simp only [impl_shortestRun.j1]
              rw [if_neg (by omega)]
              exact hk
          refine Ev.next1 i2 fun k hk => ?_
          simp only [impl_shortestRun.l0, e, runs, Bool.false_eq_true, if_false, if_neg hp]
          rw [if_pos (by omega), if_pos (by omega), if_pos (by omega)]
          exact hk
theorem impl_shortestRun_ev (row : List Bool) (hn : row.length ≤ 1048576) : Ev (fun k => impl_shortestRun.f k row) (lessAll 0 (runs row 0)) :=
  Ev.of1 (impl_shortestRun_l0 row hn row 0 0 0 rfl (by omega)) fun k hk => by simp only [impl_shortestRun.f]; exact hk
def dugCount : List Bool → Int → Int
  | [], n => n
  | b :: bs, n => dugCount bs (if b = true then n + 1 else n)
theorem spec_dgSum_l0 (l : List Int) (d : List Bool) (hn : l.length ≤ 1000) (hd : d.length = l.length) (hv : allIn (-1000000) 1000000 l = true) : ∀ (bs : List Bool) (ys : List Int) (i : Nat) (a n : Int), d.drop i = bs → l.drop i = ys → -(1000000 * i) ≤ a ∧ a ≤ 1000000 * i → 0 ≤ n ∧ n ≤ i → Ev (fun k => spec_dgSum.l0 k l a n d (d.length : Int) i) (dugSum ys bs a, dugCount bs n)
  | [], ys, i, a, n, h, hb, ha, hc => Ev.next0 fun k => by
      have h0 := drop_nil h
      have h1 : ys = [] := by rw [← hb]; exact List.drop_of_length_le (by omega)
      subst h1
      simp only [spec_dgSum.l0, dugSum, dugCount]
      rw [if_neg (by omega)]
  | b :: bs, [], i, a, n, h, hb, ha, hc => by
      have h1 := (drop_cons h).1
      have h2 := drop_nil hb
      omega
  | b :: bs, y :: ys, i, a, n, h, hb, ha, hc => by
      obtain ⟨h1, h2, h3⟩ := drop_cons h
      obtain ⟨g1, g2, g3⟩ := drop_cons hb
      have hy := allIn_get hv g2
      have e := rd_drop hb
      have e2 := rdOf_drop (d := false) h
      cases b with
      | true =>
        refine Ev.next1 (spec_dgSum_l0 l d hn hd hv bs ys (i + 1) (a + y) (n + 1) h3 g3 (by push_cast; omega) (by push_cast; omega)) fun k hk => ?_
        simp only [spec_dgSum.l0, e, e2, dugSum, dugCount]
        rw [if_pos (by omega), if_pos (by omega), if_pos (by omega), if_pos (by simp), if_pos (by omega), wrap_succ h1 (by omega), wrap_id (x := a + y) (by omega) (by omega), wrap_id (by omega) (by omega), if_pos (by simp), if_pos (by simp)]
        exact hk
      | false =>
        refine Ev.next1 (spec_dgSum_l0 l d hn hd hv bs ys (i + 1) a n h3 g3 (by push_cast; omega) (by push_cast; omega)) fun k hk => ?_
        simp only [spec_dgSum.l0, e, e2, dugSum, dugCount]
        rw [if_pos (by omega), if_pos (by omega), if_pos (by omega), if_neg (by simp), wrap_succ h1 (by omega), if_neg (by simp), if_neg (by simp)]
        exact hk
theorem spec_dgSum_ev (l : List Int) (d : List Bool) (hn : l.length ≤ 1000) (hd : d.length = l.length) (hv : allIn (-1000000) 1000000 l = true) : Ev (fun k => spec_dgSum.f k l d) (dugSum l d 0, dugCount d 0) :=
  Ev.of1 (spec_dgSum_l0 l d hn hd hv d l 0 0 0 rfl rfl (by omega) (by omega)) fun k hk => by simp only [spec_dgSum.f]; exact hk
def allWide (w : Int) : List Int → Bool
  | [] => true
  | r :: rs => if r < w then false else allWide w rs
theorem spec_dgWide_l0 (w : Int) (I : List Int) (hI : I.length ≤ 1048576) : ∀ (rs : List Int) (j : Nat), I.drop j = rs → Ev (fun k => spec_dgWide.l0 k w I (I.length : Int) j) (allWide w rs)
  | [], j, h => Ev.next0 fun k => by
      have h0 := drop_nil h
      simp only [spec_dgWide.l0, allWide]
      rw [if_neg (by omega)]
  | r :: rs, j, h => by
      obtain ⟨h1, h2, h3⟩ := drop_cons h
      have e := rd_drop h
      refine Ev.next1 (spec_dgWide_l0 w I hI rs (j + 1) h3) fun k hk => ?_
      simp only [spec_dgWide.l0, e, allWide]
      rw [if_pos (by omega), if_pos (by omega), if_pos (by omega), wrap_succ h1 (by omega)]
      by_cases hr : r < w
      · rw [if_pos hr, if_pos hr]
      · rw [if_neg hr, if_neg hr]; exact hk
theorem spec_dgWide_ev (row : List Bool) (w : Int) (hn : row.length ≤ 1048576) : Ev (fun k => spec_dgWide.f k row w) (allWide w (runs row 0)) := by
  have hr := runs_length row 0
  refine (ev_and (spec_dgRuns_ev row hn) <| ev_one (spec_dgWide_l0 w (runs row 0) (by omega) (runs row 0) 0 rfl)).ev fun k ⟨h1, h2⟩ => ?_
  simp only [spec_dgWide.f, h1, Option.bind_some]
  exact h2
/-- The shortest of some runs is wide enough just when all are. -/
theorem allWide_less (w : Int) : ∀ (rs : List Int) (b : Int), 1 ≤ w → 0 < b → (∀ r ∈ rs, 0 < r) → (lessAll b rs ≥ w ↔ (b ≥ w ∧ allWide w rs = true))
  | [], b, hw, hb, _ => by simp [lessAll, allWide]
  | r :: rs, b, hw, hb, hr => by
    have h1 := hr r (by simp)
    have ih := allWide_less w rs (less b r) hw (by unfold less; split; omega; split <;> omega) (fun x hx => hr x (by simp [hx]))
    simp only [lessAll, allWide]
    rw [ih]
    unfold less
    rw [if_neg (by omega)]
    by_cases h2 : r < w
    · rw [if_pos h2]
      constructor
      · intro q; exfalso; have := q.1; split at this <;> omega
      · intro q; cases q.2
    · rw [if_neg h2]
      constructor
      · intro q; refine ⟨?_, q.2⟩; have := q.1; split at this <;> omega
      · intro q; refine ⟨?_, q.2⟩; split <;> omega
theorem wide_less (w : Int) (rs : List Int) (hw : 1 ≤ w) (hr : ∀ r ∈ rs, 0 < r) (hne : rs ≠ []) : (lessAll 0 rs ≥ w ↔ allWide w rs = true) := by
  cases rs with
  | nil => exact absurd rfl hne
  | cons r rs =>
    have h1 := hr r (by simp)
    have := allWide_less w rs r hw h1 (fun x hx => hr x (by simp [hx]))
    simp only [lessAll, allWide]
    rw [show less 0 r = r from if_pos rfl, this]
    by_cases h2 : r < w
    · rw [if_pos h2]; constructor
      · intro q; exfalso; omega
      · intro q; cases q
    · rw [if_neg h2]; constructor
      · intro q; exact q.2
      · intro q; exact ⟨by omega, q⟩
/-- A row without a run is all 'false'. -/
theorem runs_nil : ∀ (bs : List Bool) (n : Int), 0 ≤ n → runs bs n = [] → (n = 0 ∨ bs = []) ∧ ∀ b ∈ bs, b = false
  | [], n, _, _ => ⟨Or.inr rfl, by simp⟩
  | b :: bs, n, hn, h => by
    simp only [runs] at h
    cases b with
    | true =>
      simp only [if_true] at h
      by_cases hb : bs = []
      · rw [if_pos hb] at h; cases h
      · rw [if_neg hb] at h
        have := (runs_nil bs (n + 1) (by omega) h).1
        rcases this with q | q
        · omega
        · exact absurd q hb
    | false =>
      simp only [Bool.false_eq_true, if_false] at h
      by_cases hp : n > 0
      · rw [if_pos hp] at h; cases h
      · rw [if_neg hp] at h
        refine ⟨Or.inl (by omega), fun x hx => ?_⟩
        rcases List.mem_cons.1 hx with rfl | hx
        · rfl
        · exact (runs_nil bs 0 (by omega) h).2 x hx
theorem none_sum : ∀ (bs : List Bool) (l : List Int) (a n : Int), (∀ b ∈ bs, b = false) → dugSum l bs a = a ∧ dugCount bs n = n
  | [], l, a, n, _ => by cases l <;> simp [dugSum, dugCount]
  | b :: bs, [], a, n, h => by
    have h0 := h b (by simp); subst h0
    refine ⟨rfl, ?_⟩
    simp only [dugCount, Bool.false_eq_true, if_false]
    exact (none_sum bs [] a n (fun x hx => h x (by simp [hx]))).2
  | b :: bs, y :: l, a, n, h => by
    have h0 := h b (by simp); subst h0
    simp only [dugSum, dugCount, Bool.false_eq_true, if_false]
    exact none_sum bs l a n (fun x hx => h x (by simp [hx]))
theorem u64_id {x : Int} (h0 : 0 ≤ x) (h1 : x ≤ 1000) : IntKind.u64.wrap x = x := by
  simp only [IntKind.wrap, IntKind.bits, IntKind.signed, Bool.false_and, Bool.false_eq_true, if_false]; omega
def bitAt (m p : Int) : Bool := (Go.bits .and .i64 (shr .i64 m p) 1) == 1
/-- The row of a number's last n bits. -/
def rowOf (m : Int) : Nat → List Bool
  | 0 => []
  | p + 1 => bitAt m (p : Int) :: rowOf m p
theorem rowOf_length (m : Int) : ∀ n, (rowOf m n).length = n
  | 0 => rfl
  | n + 1 => by simp [rowOf, rowOf_length m n]
theorem spec_dgRow_l0 (m : Int) : ∀ (n : Nat) (acc : List Bool), n ≤ 100 → acc.length + n ≤ 1000 → Ev (fun k => spec_dgRow.l0 k m acc ((n : Int) - 1)) (acc ++ rowOf m n)
  | 0, acc, hn, ha => Ev.next0 fun k => by
      simp only [spec_dgRow.l0, rowOf, List.append_nil]
      rw [if_neg (by omega)]
  | n + 1, acc, hn, ha => by
      refine Ev.next1 (spec_dgRow_l0 m n (acc ++ [bitAt m (n : Int)]) (by omega) (by simp; omega)) fun k hk => ?_
      have e : ((n + 1 : Nat) : Int) - 1 = (n : Int) := by omega
      simp only [spec_dgRow.l0, e]
      rw [if_pos (by omega), u64_id (by omega) (by omega), if_pos (by omega), if_pos (by omega), wrap_id (x := (n : Int) - 1) (by omega) (by omega)]
      rw [List.append_assoc] at hk; exact hk
theorem spec_dgRow_ev (m : Int) (n : Nat) (hn : n ≤ 100) : Ev (fun k => spec_dgRow.f k m (n : Int)) (rowOf m n) :=
  Ev.of1 (spec_dgRow_l0 m n [] hn (by simp; omega)) fun k hk => by
    simp only [spec_dgRow.f]
    rw [wrap_id (by omega) (by omega)]; exact hk
theorem dugSum_bd : ∀ (l : List Int) (bs : List Bool) (a : Int) (i : Nat), allIn (-1000000) 1000000 l = true → -(1000000 * (i : Int)) ≤ a ∧ a ≤ 1000000 * (i : Int) → -(1000000 * ((i : Int) + bs.length)) ≤ dugSum l bs a ∧ dugSum l bs a ≤ 1000000 * ((i : Int) + bs.length)
  | l, [], a, i, h, ha => by cases l <;> (simp only [dugSum, List.length_nil]; omega)
  | [], b :: bs, a, i, h, ha => by simp only [dugSum, List.length_cons]; push_cast; omega
  | y :: l, b :: bs, a, i, h, ha => by
    simp only [allIn, Bool.and_eq_true, decide_eq_true_eq] at h
    have := dugSum_bd l bs (if b = true then a + y else a) (i + 1) h.2 (by split <;> (push_cast; omega))
    simp only [dugSum, List.length_cons]; push_cast at this ⊢; omega
theorem dugCount_bd' : ∀ (bs : List Bool) (n : Int), n ≤ dugCount bs n ∧ dugCount bs n ≤ n + bs.length
  | [], n => by simp [dugCount]
  | b :: bs, n => by
    have h1 := dugCount_bd' bs (n + 1); have h2 := dugCount_bd' bs n
    cases b <;> simp only [dugCount, Bool.false_eq_true, if_true, if_false, List.length_cons] <;> (push_cast; omega)
/-- The better of what was found and the row of number m. -/
def better (l : List Int) (w m : Int) (B : List Bool × Int × Int) : List Bool × Int × Int :=
  if allWide w (runs (rowOf m l.length) 0) = true ∧ (dugSum l (rowOf m l.length) 0 > B.2.1 ∨ (dugSum l (rowOf m l.length) 0 = B.2.1 ∧ dugCount (rowOf m l.length) 0 < B.2.2)) then (rowOf m l.length, dugSum l (rowOf m l.length) 0, dugCount (rowOf m l.length) 0) else B
def bestFrom (l : List Int) (w : Int) : Nat → Int → List Bool × Int × Int → List Bool × Int × Int
  | 0, _, B => B
  | n + 1, m, B => bestFrom l w n (m + 1) (better l w m B)
theorem better_bd {l : List Int} {w m : Int} {B : List Bool × Int × Int} (h : 0 ≤ B.2.1 ∧ 0 ≤ B.2.2 ∧ (B.2.1 = 0 → B.2.2 = 0)) : 0 ≤ (better l w m B).2.1 ∧ 0 ≤ (better l w m B).2.2 ∧ ((better l w m B).2.1 = 0 → (better l w m B).2.2 = 0) := by
  unfold better
  split
  · rename_i q
    have := (dugCount_bd' (rowOf m l.length) 0).1
    rcases q.2 with q | q <;> (simp only; omega)
  · exact h
theorem better_len {l : List Int} {w m : Int} {B : List Bool × Int × Int} (h : B.1.length = l.length) : (better l w m B).1.length = l.length := by
  unfold better
  split
  · exact rowOf_length m l.length
  · exact h
theorem best_len (l : List Int) (w : Int) : ∀ (n : Nat) (m : Int) (B : List Bool × Int × Int), B.1.length = l.length → (bestFrom l w n m B).1.length = l.length
  | 0, _, _, h => h
  | n + 1, m, B, h => best_len l w n (m + 1) _ (better_len h)
def bestRow (l : List Int) (w : Int) : List Bool × Int × Bool :=
  if (1 ≤ l.length ∧ l.length ≤ 8) ∧ allIn (-1000000) 1000000 l = true ∧ (1 ≤ w ∧ w ≤ 8) then ((bestFrom l w (2 ^ l.length - 1) 1 (List.replicate l.length false, 0, 0)).1, (bestFrom l w (2 ^ l.length - 1) 1 (List.replicate l.length false, 0, 0)).2.1, true) else ([], 0, false)
theorem bestRow_len (l : List Int) (w : Int) : (bestRow l w).1.length ≤ 8 := by
  unfold bestRow
  split
  · rename_i h
    have := best_len l w (2 ^ l.length - 1) 1 (List.replicate l.length false, 0, 0) (by simp)
    simp only; omega
  · simp
theorem shl_pow {n : Nat} (h : 1 ≤ n ∧ n ≤ 8) : shl .i64 1 (n : Int) = ((2 ^ n : Nat) : Int) ∧ 2 ≤ 2 ^ n ∧ 2 ^ n ≤ 256 := by
  rcases (by omega : n = 1 ∨ n = 2 ∨ n = 3 ∨ n = 4 ∨ n = 5 ∨ n = 6 ∨ n = 7 ∨ n = 8) with rfl | rfl | rfl | rfl | rfl | rfl | rfl | rfl <;> exact ⟨by decide, by decide, by decide⟩
-- needs: best_model impl_shortestRun
/-- The end of a round: the row is weighed. -/
theorem impl_bestRow_weigh (l : List Int) (w m : Int) (n : Int) (B : List Bool × Int × Int) (hw : 1 ≤ w) (hl : l.length ≤ 8) (hB : 0 ≤ B.2.1 ∧ 0 ≤ B.2.2 ∧ (B.2.1 = 0 → B.2.2 = 0)) (hm : 1 ≤ m ∧ m ≤ 1000) (r : List Bool × Int) (h : Ev (fun k => impl_bestRow.l0 k l w n (better l w m B).1 (better l w m B).2.1 (better l w m B).2.2 (m + 1)) r) :
    Ev (fun k => impl_bestRow.l1 k l w n B.1 B.2.1 B.2.2 m (rowOf m l.length) (dugSum l (rowOf m l.length) 0) (dugCount (rowOf m l.length) 0) (l.length : Int) (l.length : Int)) r := by
  have hlen := rowOf_length m l.length
  refine (ev_and (impl_shortestRun_ev (rowOf m l.length) (by omega)) <| ev_one h).next fun k ⟨h1, h2⟩ => ?_
  simp only [impl_bestRow.l1]
  rw [if_neg (by omega), h1, Option.bind_some, wrap_id (x := m + 1) (by omega) (by omega)]
  refine Eq.trans ?_ h2
  have hp := runs_pos (rowOf m l.length) 0 (by omega)
  unfold better
  by_cases he : runs (rowOf m l.length) 0 = []
  · obtain ⟨e1, e2⟩ := none_sum (rowOf m l.length) l 0 0 (runs_nil _ 0 (by omega) he).2
    rw [e1, e2, he, if_neg (show ¬ lessAll 0 [] ≥ w by simp [lessAll]; omega), if_neg (fun q => by rcases q.2 with q | q <;> omega)]
  · have hq := wide_less w _ hw hp he
    generalize dugSum l (rowOf m l.length) 0 = S
    generalize dugCount (rowOf m l.length) 0 = C
    by_cases hw : allWide w (runs (rowOf m l.length) 0) = true
    · rw [if_pos (hq.2 hw)]
      by_cases hs : S > B.2.1
      · rw [if_pos hs, if_pos ⟨hw, Or.inl hs⟩]
      · rw [if_neg hs]
        by_cases he : S = B.2.1
        · rw [if_pos he]
          by_cases hc : C < B.2.2
          · rw [if_pos hc, if_pos ⟨hw, Or.inr ⟨he, hc⟩⟩]
          · rw [if_neg hc, if_neg (fun q => by rcases q.2 with q | q; exact hs q; exact hc q.2)]
        · rw [if_neg he, if_neg (fun q => by rcases q.2 with q | q; exact hs q; exact he q.1)]
    · rw [if_neg (fun q => hw (hq.1 q)), if_neg (fun q => hw q.1)]
/-- A row's bits, written one by one: p bits are still to come; pre: those that stand. -/
theorem impl_bestRow_l1 (l : List Int) (w m : Int) (B : List Bool × Int × Int) (hl : l.length ≤ 8) (hv : allIn (-1000000) 1000000 l = true) (r : List Bool × Int)
    (hr : Ev (fun k => impl_bestRow.l1 k l w (l.length : Int) B.1 B.2.1 B.2.2 m (rowOf m l.length) (dugSum l (rowOf m l.length) 0) (dugCount (rowOf m l.length) 0) (l.length : Int) (l.length : Int)) r) :
    ∀ (p j : Nat) (pre : List Bool) (ys : List Int) (S C : Int), j + p = l.length → pre.length = j → l.drop j = ys → pre ++ rowOf m p = rowOf m l.length → dugSum ys (rowOf m p) S = dugSum l (rowOf m l.length) 0 → dugCount (rowOf m p) C = dugCount (rowOf m l.length) 0 →
      (-(1000000 * (j : Int)) ≤ S ∧ S ≤ 1000000 * (j : Int)) → (0 ≤ C ∧ C ≤ j) →
      Ev (fun k => impl_bestRow.l1 k l w (l.length : Int) B.1 B.2.1 B.2.2 m (pre ++ List.replicate p false) S C (l.length : Int) j) r
  | 0, j, pre, ys, S, C, hj, hp, hy, h1, h2, h3, hS, hC => by
      have e1 : pre ++ List.replicate 0 false = rowOf m l.length := by simpa [rowOf] using h1
      have e2 : S = dugSum l (rowOf m l.length) 0 := by rw [← h2]; cases ys <;> rfl
      have e3 : C = dugCount (rowOf m l.length) 0 := h3
      rw [e1, e2, e3, show j = l.length by omega]
      exact hr
  | p + 1, j, pre, [], S, C, hj, hp, hy, h1, h2, h3, hS, hC => by
      have := drop_nil hy; omega
  | p + 1, j, pre, y :: ys, S, C, hj, hp, hy, h1, h2, h3, hS, hC => by
      obtain ⟨d1, d2, d3⟩ := drop_cons hy
      have hyb := allIn_get hv d2
      have e := rd_drop hy
      have hb : rowOf m (p + 1) = bitAt m (p : Int) :: rowOf m p := rfl
      rw [hb] at h1 h2 h3
      have eset : (pre ++ List.replicate (p + 1) false).set j (bitAt m (p : Int)) = (pre ++ [bitAt m (p : Int)]) ++ List.replicate p false := by
        rw [List.replicate_succ, List.set_append_right _ _ (by omega), hp, Nat.sub_self, List.append_assoc]; rfl
      have erd : rdOf false ((pre ++ [bitAt m (p : Int)]) ++ List.replicate p false) (j : Int) = bitAt m (p : Int) := rdOf_get (by
        rw [List.append_assoc, ← hp, List.getElem?_append_right (Nat.le_refl _), Nat.sub_self]; rfl)
      have ep : wrap64 (wrap64 ((l.length : Int) - 1) - (j : Int)) = (p : Int) := by
        rw [wrap_id (x := (l.length : Int) - 1) (by omega) (by omega), wrap_id (by omega) (by omega)]; omega
      have ih := impl_bestRow_l1 l w m B hl hv r hr p (j + 1) (pre ++ [bitAt m (p : Int)]) ys (if bitAt m (p : Int) = true then S + y else S) (if bitAt m (p : Int) = true then C + 1 else C) (by omega) (by simp [hp]) d3 (by rw [List.append_assoc]; exact h1) h2 h3 (by split <;> (push_cast; omega)) (by split <;> (push_cast; omega))
      refine Ev.next1 ih fun k hk => ?_
      have ebit : ((Go.bits .and .i64 (shr .i64 m (p : Int)) 1) == 1) = bitAt m (p : Int) := rfl
      simp only [impl_bestRow.l1, ep, ebit, toNat_cast, eset, erd, e, Option.bind_some]
      rw [if_pos (by omega), if_pos (by omega), if_pos (by omega), if_pos (by simp; omega), wrap_succ d1 (by omega)]
      by_cases hq : bitAt m (p : Int) = true
      · rw [if_pos hq, if_pos (by omega), wrap_id (x := S + y) (by omega) (by omega), wrap_id (x := C + 1) (by omega) (by omega)]
        rw [if_pos hq, if_pos hq] at hk; exact hk
      · rw [if_neg hq]
        rw [if_neg hq, if_neg hq] at hk; exact hk
theorem impl_bestRow_l0 (l : List Int) (w : Int) (hw : 1 ≤ w) (hl : 1 ≤ l.length ∧ l.length ≤ 8) (hv : allIn (-1000000) 1000000 l = true) : ∀ (n : Nat) (m : Int) (B : List Bool × Int × Int), 1 ≤ m → m + n = ((2 ^ l.length : Nat) : Int) → 0 ≤ B.2.1 ∧ 0 ≤ B.2.2 ∧ (B.2.1 = 0 → B.2.2 = 0) →
    Ev (fun k => impl_bestRow.l0 k l w (l.length : Int) B.1 B.2.1 B.2.2 m) ((bestFrom l w n m B).1, (bestFrom l w n m B).2.1)
  | 0, m, B, hm, hn, hB => Ev.next0 fun k => by
      have hp := shl_pow hl
      simp only [impl_bestRow.l0, bestFrom, hp.1]
      rw [if_pos (by omega), if_neg (by omega)]
  | n + 1, m, B, hm, hn, hB => by
      have hp := shl_pow hl
      have i0 := impl_bestRow_l0 l w hw hl hv n (m + 1) (better l w m B) (by omega) (by omega) (better_bd hB)
      have i1 := impl_bestRow_weigh l w m (l.length : Int) B hw hl.2 hB (by omega) _ i0
      have i2 := impl_bestRow_l1 l w m B hl.2 hv _ i1 l.length 0 [] l 0 0 (by omega) rfl rfl rfl rfl rfl (by omega) (by omega)
      refine Ev.next1 i2 fun k hk => ?_
      simp only [impl_bestRow.l0, hp.1, bestFrom, Option.bind_some]
      rw [if_pos (by omega), if_pos (by omega), if_pos (by omega), toNat_cast, List.length_replicate]
      exact hk
theorem impl_bestRow_ev (l : List Int) (w : Int) (hw : 1 ≤ w) (hl : 1 ≤ l.length ∧ l.length ≤ 8) (hv : allIn (-1000000) 1000000 l = true) : Ev (fun k => impl_bestRow.f k l w) ((bestFrom l w (2 ^ l.length - 1) 1 (List.replicate l.length false, 0, 0)).1, (bestFrom l w (2 ^ l.length - 1) 1 (List.replicate l.length false, 0, 0)).2.1) := by
  have hp := shl_pow hl
  refine Ev.of1 (impl_bestRow_l0 l w hw hl hv (2 ^ l.length - 1) 1 (List.replicate l.length false, 0, 0) (by omega) (by omega) (by simp)) fun k hk => ?_
  simp only [impl_bestRow.f]
  rw [if_pos (by omega), if_pos (by omega), toNat_cast]
  exact hk
-- needs: best_model
theorem spec_dgBest_l0 (l : List Int) (w : Int) (hl : 1 ≤ l.length ∧ l.length ≤ 8) (hv : allIn (-1000000) 1000000 l = true) : ∀ (n : Nat) (m : Int) (B : List Bool × Int × Int), 1 ≤ m → m + n = ((2 ^ l.length : Nat) : Int) →
    Ev (fun k => spec_dgBest.l0 k l w B.1 B.2.1 B.2.2 m) ((bestFrom l w n m B).1, (bestFrom l w n m B).2.1)
  | 0, m, B, hm, hn => Ev.next0 fun k => by
      have hp := shl_pow hl
      simp only [spec_dgBest.l0, bestFrom, u64_id (show (0 : Int) ≤ (l.length : Int) by omega) (by omega), hp.1]
      rw [if_pos (by omega), if_neg (by omega)]
  | n + 1, m, B, hm, hn => by
      have hp := shl_pow hl
      have hlen := rowOf_length m l.length
      have i0 := spec_dgBest_l0 l w hl hv n (m + 1) (better l w m B) (by omega) (by omega)
      refine (ev_and (spec_dgRow_ev m l.length (by omega)) <| ev_and (spec_dgSum_ev l (rowOf m l.length) (by omega) hlen hv) <| ev_and (spec_dgWide_ev (rowOf m l.length) w (by omega)) <| ev_one i0).next fun k ⟨h1, h2, h3, h4⟩ => ?_
      simp only [spec_dgBest.l0, u64_id (show (0 : Int) ≤ (l.length : Int) by omega) (by omega), hp.1, h1, h2, h3, Option.bind_some, bestFrom]
      rw [if_pos (by omega), if_pos (by omega), wrap_id (x := m + 1) (by omega) (by omega)]
      refine Eq.trans ?_ h4
      unfold better
      generalize dugSum l (rowOf m l.length) 0 = S
      generalize dugCount (rowOf m l.length) 0 = C
      by_cases hw : allWide w (runs (rowOf m l.length) 0) = true
      · rw [if_pos hw]
        by_cases hs : S > B.2.1
        · rw [if_pos hs, if_pos ⟨hw, Or.inl hs⟩]
        · rw [if_neg hs]
          by_cases he : S = B.2.1
          · rw [if_pos he]
            by_cases hc : C < B.2.2
            · rw [if_pos hc, if_pos ⟨hw, Or.inr ⟨he, hc⟩⟩]
            · rw [if_neg hc, if_neg (fun q => by rcases q.2 with q | q; exact hs q; exact hc q.2)]
          · rw [if_neg he, if_neg (fun q => by rcases q.2 with q | q; exact hs q; exact he q.1)]
      · rw [if_neg hw, if_neg (fun q => hw q.1)]
theorem spec_dgBest_ev (l : List Int) (w : Int) (hl : 1 ≤ l.length ∧ l.length ≤ 8) (hv : allIn (-1000000) 1000000 l = true) : Ev (fun k => spec_dgBest.f k l w) ((bestFrom l w (2 ^ l.length - 1) 1 (List.replicate l.length false, 0, 0)).1, (bestFrom l w (2 ^ l.length - 1) 1 (List.replicate l.length false, 0, 0)).2.1) := by
  have hp := shl_pow hl
  refine Ev.of1 (spec_dgBest_l0 l w hl hv (2 ^ l.length - 1) 1 (List.replicate l.length false, 0, 0) (by omega) (by omega)) fun k hk => ?_
  simp only [spec_dgBest.f]
  rw [if_pos (by omega), if_pos (by omega), toNat_cast]
  exact hk
theorem spec_l1In_eq (a lo hi : Int) : spec_l1In.f a lo hi = some (decide (lo ≤ a ∧ a ≤ hi)) := by
  unfold spec_l1In.f
  split
  · congr 1; simp; omega
  · congr 1; simp; omega
theorem spec_l1All_l0 (lo hi : Int) (l : List Int) (hn : l.length ≤ 9223372036854775807) : ∀ (ys : List Int) (i : Nat), l.drop i = ys → Ev (fun k => spec_l1All.l0 k lo hi l (l.length : Int) i) (allIn lo hi ys)
  | [], i, h => Ev.next0 fun k => by
      have h0 := drop_nil h
      simp only [spec_l1All.l0, allIn]
      rw [if_neg (by omega)]
  | y :: ys, i, h => by
      obtain ⟨h1, h2, h3⟩ := drop_cons h
      refine Ev.next1 (spec_l1All_l0 lo hi l hn ys (i + 1) h3) fun k hk => ?_
      have e := rd_drop h
      simp only [spec_l1All.l0, e, spec_l1In_eq, Option.bind_some]
      rw [if_pos (by omega), if_pos (by omega), if_pos (by omega), wrap_succ h1 hn]
      by_cases hy : lo ≤ y ∧ y ≤ hi
      · rw [if_pos (decide_eq_true hy), hk]; simp [allIn, hy]
      · rw [if_neg (by simp; omega)]; simp [allIn, hy]
theorem spec_l1All_ev (l : List Int) (lo hi : Int) (hn : l.length ≤ 9223372036854775807) : Ev (fun k => spec_l1All.f k l lo hi) (allIn lo hi l) :=
  Ev.of1 (spec_l1All_l0 lo hi l hn l 0 rfl) fun k hk => by simp only [spec_l1All.f]; exact hk
theorem spec_dgGood_ev (x y : Int) (l : List Int) (hn : l.length ≤ 9223372036854775807) : Ev (fun k => spec_dgGood.f k x y l) (benchOk x y l) := by
  refine Ev.of1 (spec_l1All_ev l (-1000000) 1000000 hn) fun k hk => ?_
  simp only [spec_dgGood.f, spec_l1In_eq, hk, Option.bind_some, benchOk, decide_eq_true_eq]
  by_cases hx : 1 ≤ x ∧ x ≤ 8
  · rw [if_pos hx]
    by_cases hy : 1 ≤ y ∧ y ≤ 6
    · have hp := bench_prod hx hy
      rw [if_pos hy, wrap_id (by omega) (by omega)]
      by_cases hl : (l.length : Int) = x * y
      · rw [if_pos hl]; congr 1; simp [hx, hy, hl]
      · rw [if_neg hl]; congr 1; symm; simp [hl]
    · rw [if_neg hy]; congr 1; symm; simp; omega
  · rw [if_neg hx]; congr 1; symm; simp; omega
-- needs: best_model spec_dgRuns
theorem row_cutI (d : List Int) (X : Int) (w y : Nat) (hX : X = (w : Int)) (q1 : y * w ≤ 1000) (q2 : y * w + w ≤ 1000) (q3 : y + 1 ≤ 1000) (q4 : y * w + w ≤ d.length) (ho : (y + 1) * w = y * w + w) :
    0 ≤ wrap64 ((y : Int) * X) ∧ wrap64 ((y : Int) * X) ≤ wrap64 (wrap64 ((y : Int) + 1) * X) ∧ wrap64 (wrap64 ((y : Int) + 1) * X) ≤ (d.length : Int) ∧
      (d.take (wrap64 (wrap64 ((y : Int) + 1) * X)).toNat).drop (wrap64 ((y : Int) * X)).toNat = (d.drop (y * w)).take w ∧ wrap64 ((y : Int) + 1) = ((y + 1 : Nat) : Int) := by
  have p1 : (0 : Int) ≤ ((y * w : Nat) : Int) := Int.natCast_nonneg _
  have p2 : ((y * w : Nat) : Int) ≤ ((y * w + w : Nat) : Int) := Int.ofNat_le.2 (Nat.le_add_right _ _)
  have p3 : ((y * w + w : Nat) : Int) ≤ (d.length : Int) := Int.ofNat_le.2 q4
  have e3 : (d.take (((y * w + w : Nat) : Int)).toNat).drop (((y * w : Nat) : Int)).toNat = (d.drop (y * w)).take w := by
    rw [Int.toNat_natCast, Int.toNat_natCast, List.drop_take, Nat.add_sub_cancel_left]
  have p4 := wrap_nat (y * w) q1
  have p5 := wrap_nat (y * w + w) q2
  have p6 := wrap_nat (y + 1) q3
  have p7 : ((y : Int) + 1) = ((y + 1 : Nat) : Int) := (Int.natCast_add y 1).symm
  have e1 : wrap64 ((y : Int) * X) = ((y * w : Nat) : Int) := by
    rw [hX, ← Int.natCast_mul]; exact p4
  have e2 : wrap64 (wrap64 ((y : Int) + 1) * X) = ((y * w + w : Nat) : Int) := by
    rw [p7, p6, hX, ← Int.natCast_mul, ho]; exact p5
  rw [e1, e2]
  refine ⟨p1, p2, p3, e3, ?_⟩
  rw [p7]; exact p6
theorem best_bd (l : List Int) (w : Int) (hl : l.length ≤ 8) (hv : allIn (-1000000) 1000000 l = true) : ∀ (n : Nat) (m : Int) (B : List Bool × Int × Int), (0 ≤ B.2.1 ∧ B.2.1 ≤ 100000000) → 0 ≤ (bestFrom l w n m B).2.1 ∧ (bestFrom l w n m B).2.1 ≤ 100000000
  | 0, _, _, h => h
  | n + 1, m, B, h => by
    refine best_bd l w hl hv n (m + 1) _ ?_
    have hs := dugSum_bd l (rowOf m l.length) 0 0 hv (by omega)
    have hr := rowOf_length m l.length
    unfold better
    split
    · rename_i q
      simp only
      rcases q.2 with q | q <;> omega
    · exact h
theorem best_sum_bd (l : List Int) (w : Int) (hl : l.length ≤ 8) (hv : allIn (-1000000) 1000000 l = true) : 0 ≤ (bestFrom l w (2 ^ l.length - 1) 1 (List.replicate l.length false, 0, 0)).2.1 ∧ (bestFrom l w (2 ^ l.length - 1) 1 (List.replicate l.length false, 0, 0)).2.1 ≤ 100000000 :=
  best_bd l w hl hv _ _ _ (by simp)
def rowBest (wd : Int) (r : List Int) : List Bool × Int := ((bestFrom r wd (2 ^ r.length - 1) 1 (List.replicate r.length false, 0, 0)).1, (bestFrom r wd (2 ^ r.length - 1) 1 (List.replicate r.length false, 0, 0)).2.1)
theorem rowBest_facts (wd : Int) (r : List Int) (hr : 1 ≤ r.length ∧ r.length ≤ 8) (hv : allIn (-1000000) 1000000 r = true) : (rowBest wd r).1.length = r.length ∧ (0 ≤ (rowBest wd r).2 ∧ (rowBest wd r).2 ≤ 100000000) :=
  ⟨best_len r wd _ 1 _ (by simp), best_sum_bd r wd hr.2 hv⟩
theorem rowBest_len (wd : Int) (r : List Int) : (rowBest wd r).1.length = r.length := best_len r wd _ 1 _ (by simp)
/-- The best rows of m rows, from row y on. -/
def digRows (RB : List Int → List Bool × Int) (l : List Int) (w : Nat) : Nat → Nat → List Bool × Int
  | 0, _ => ([], 0)
  | m + 1, y => ((RB ((l.drop (y * w)).take w)).1 ++ (digRows RB l w m (y + 1)).1, (RB ((l.drop (y * w)).take w)).2 + (digRows RB l w m (y + 1)).2)
theorem digRows_len (RB : List Int → List Bool × Int) (hRB : ∀ r, (RB r).1.length = r.length) (l : List Int) (w : Nat) (hw : w ≤ 8) : ∀ m y, (digRows RB l w m y).1.length ≤ 8 * m
  | 0, _ => by simp [digRows]
  | m + 1, y => by
    have h := digRows_len RB hRB l w hw m (y + 1)
    have hl : ((l.drop (y * w)).take w).length ≤ w := by rw [List.length_take]; omega
    have hb := hRB ((l.drop (y * w)).take w)
    simp only [digRows, List.length_append]; omega
def bestDig (x y : Int) (l : List Int) (wd : Int) : List Bool × Int × Bool := if benchOk x y l = true ∧ (1 ≤ wd ∧ wd ≤ 8) then ((digRows (rowBest wd) l x.toNat y.toNat 0).1, (digRows (rowBest wd) l x.toNat y.toNat 0).2, true) else ([], 0, false)
theorem bestDig_len (x y : Int) (l : List Int) (wd : Int) : (bestDig x y l wd).1.length ≤ 1000 := by
  unfold bestDig
  split
  · rename_i h
    have hb := bench_len h.1
    have := digRows_len (rowBest wd) (rowBest_len wd) l x.toNat (by omega) y.toNat 0
    simp only; omega
  · simp
theorem spec_BestDig_l0 (RB : List Int → List Bool × Int) (l : List Int) (X Y : Int) (wd : Int) (hRB : ∀ r : List Int, 1 ≤ r.length ∧ r.length ≤ 8 → allIn (-1000000) 1000000 r = true → (RB r).1.length = r.length ∧ (0 ≤ (RB r).2 ∧ (RB r).2 ≤ 100000000) ∧ Ev (fun k => spec_dgBest.f k r wd) (RB r)) (w n h : Nat) (hX : X = (w : Int)) (hY : Y = (h : Int)) (hw : 1 ≤ w ∧ w ≤ 8) (hh : h ≤ 6) (hd : l.length = n) (hn : n ≤ 48) (hwh : h * w = n) (hv : allIn (-1000000) 1000000 l = true) : ∀ (m y : Nat) (acc : List Bool) (s : Int), y + m = h → acc.length ≤ 8 * y → (0 ≤ s ∧ s ≤ 100000000 * (y : Int)) →
    Ev (fun k => spec_BestDig.l0 k wd acc s y X Y l) (acc ++ (digRows RB l w m y).1, s + (digRows RB l w m y).2, true)
  | 0, y, acc, s, hy, ha, hs => Ev.next0 fun k => by
      simp only [spec_BestDig.l0, digRows, List.append_nil, Int.add_zero]
      rw [if_neg (by omega)]
  | m + 1, y, acc, s, hy, ha, hs => by
      have hyn : (y + 1) * w ≤ n := by rw [← hwh]; exact Nat.mul_le_mul_right w (by omega)
      have hg := grid_row hw (show y < 6 by omega) hyn (by omega)
      have hl : ((l.drop (y * w)).take w).length = w := by rw [List.length_take, List.length_drop]; omega
      have hvr : allIn (-1000000) 1000000 ((l.drop (y * w)).take w) = true := allIn_of fun z hz => allIn_mem hv z (List.mem_of_mem_drop (List.mem_of_mem_take hz))
      obtain ⟨hbl, hb, i1⟩ := hRB ((l.drop (y * w)).take w) (by omega) hvr
      have hlt : (y : Int) < Y := by omega
      simp only [digRows]
      generalize hBe : RB ((l.drop (y * w)).take w) = B at hb hbl i1 ⊢
      have i0 := spec_BestDig_l0 RB l X Y wd hRB w n h hX hY hw hh hd hn hwh hv m (y + 1) (acc ++ B.1) (s + B.2) (by omega) (by simp; omega) (by push_cast; omega)
      have hal : acc.length + B.1.length ≤ 1000 := by omega
      have e3 : wrap64 (s + B.2) = s + B.2 := wrap_id (by omega) (by omega)
      have hc := row_cutI l X w y hX (by clear e3; omega) (by clear e3; omega) (by clear e3; omega) (by clear e3; omega) hg.2.1
      rw [List.append_assoc, Int.add_assoc] at i0
      refine Ev.next2 i1 i0 fun k h1 h2 => ?_
      simp only [spec_BestDig.l0]
      rw [if_pos hlt, if_pos hc.1, if_pos hc.2.1, if_pos hc.2.2.1, hc.2.2.2.1, h1, Option.bind_some]
      rw [if_pos (Nat.lt_of_le_of_lt hal (by decide)), hc.2.2.2.2, e3]
      exact h2
theorem spec_BestDig_no (x y : Int) (l : List Int) (wd : Int) : Ev (fun k => spec_BestDig.j0 k wd true x y l) ([], 0, false) := Ev.next0 fun k => by simp [spec_BestDig.j0]
theorem spec_BestDig_yes (x y : Int) (l : List Int) (wd : Int) (h : benchOk x y l = true) (hwd : 1 ≤ wd ∧ wd ≤ 8) : Ev (fun k => spec_BestDig.j0 k wd false x y l) (bestDig x y l wd) := by
  have hb := bench_len h
  have hyx : y.toNat * x.toNat = l.length := by
    have e : ((y.toNat * x.toNat : Nat) : Int) = x * y := by
      rw [Int.natCast_mul, Int.toNat_of_nonneg (by omega), Int.toNat_of_nonneg (by omega), Int.mul_comm]
    omega
  refine Ev.next1 (spec_BestDig_l0 (rowBest wd) l x y wd (fun r hr hv => ⟨(rowBest_facts wd r hr hv).1, (rowBest_facts wd r hr hv).2, spec_dgBest_ev r wd hr hv⟩) x.toNat l.length y.toNat (by omega) (by omega) (by omega) (by omega) rfl (by omega) hyx (bench_vals h) y.toNat 0 [] 0 (by omega) (by simp) (by omega)) fun k hk => ?_
  simp only [spec_BestDig.j0, Bool.false_eq_true, if_false]
  refine hk.trans ?_
  simp only [List.nil_append, Int.zero_add]
  rw [bestDig, if_pos ⟨h, hwd⟩]
theorem spec_BestDig_ev (x y : Int) (l : List Int) (wd : Int) (hn : l.length ≤ 9223372036854775807) : Ev (fun k => spec_BestDig.f k x y l wd) (bestDig x y l wd) := by
  by_cases h : benchOk x y l = true
  · by_cases hw : 1 ≤ wd ∧ wd ≤ 8
    · refine (ev_and (spec_dgGood_ev x y l hn) <| ev_one (spec_BestDig_yes x y l wd h hw)).ev fun k ⟨h1, h2⟩ => ?_
      simp only [spec_BestDig.f, spec_l1In_eq, h1, Option.bind_some]
      rw [if_pos h, show (!decide (1 ≤ wd ∧ wd ≤ 8)) = false by simp [hw]]; exact h2
    · refine (ev_and (spec_dgGood_ev x y l hn) <| ev_one (spec_BestDig_no x y l wd)).ev fun k ⟨h1, h2⟩ => ?_
      simp only [spec_BestDig.f, spec_l1In_eq, h1, Option.bind_some]
      rw [if_pos h, show (!decide (1 ≤ wd ∧ wd ≤ 8)) = true by rw [decide_eq_false hw]; rfl, bestDig, if_neg (fun q => hw q.2)]; exact h2
  · refine (ev_and (spec_dgGood_ev x y l hn) <| ev_one (spec_BestDig_no x y l wd)).ev fun k ⟨h1, h2⟩ => ?_
    simp only [spec_BestDig.f, h1, Option.bind_some]
    rw [if_neg h, bestDig, if_neg (fun q => h q.1)]; exact h2
-- needs: spec_BestDig
theorem impl_BestDig_l0 (RB : List Int → List Bool × Int) (l : List Int) (X Y : Int) (wd : Int) (hRB : ∀ r : List Int, 1 ≤ r.length ∧ r.length ≤ 8 → allIn (-1000000) 1000000 r = true → (RB r).1.length = r.length ∧ (0 ≤ (RB r).2 ∧ (RB r).2 ≤ 100000000) ∧ Ev (fun k => impl_bestRow.f k r wd) (RB r)) (w n h : Nat) (hX : X = (w : Int)) (hY : Y = (h : Int)) (hw : 1 ≤ w ∧ w ≤ 8) (hh : h ≤ 6) (hd : l.length = n) (hn : n ≤ 48) (hwh : h * w = n) (hv : allIn (-1000000) 1000000 l = true) : ∀ (m y : Nat) (acc : List Bool) (s : Int), y + m = h → acc.length ≤ 8 * y → (0 ≤ s ∧ s ≤ 100000000 * (y : Int)) →
    Ev (fun k => impl_BestDig.l0 k wd acc s y X Y l) (acc ++ (digRows RB l w m y).1, s + (digRows RB l w m y).2, true)
  | 0, y, acc, s, hy, ha, hs => Ev.next0 fun k => by
      simp only [impl_BestDig.l0, digRows, List.append_nil, Int.add_zero]
      rw [if_neg (by omega)]
  | m + 1, y, acc, s, hy, ha, hs => by
      have hyn : (y + 1) * w ≤ n := by rw [← hwh]; exact Nat.mul_le_mul_right w (by omega)
      have hg := grid_row hw (show y < 6 by omega) hyn (by omega)
      have hl : ((l.drop (y * w)).take w).length = w := by rw [List.length_take, List.length_drop]; omega
      have hvr : allIn (-1000000) 1000000 ((l.drop (y * w)).take w) = true := allIn_of fun z hz => allIn_mem hv z (List.mem_of_mem_drop (List.mem_of_mem_take hz))
      obtain ⟨hbl, hb, i1⟩ := hRB ((l.drop (y * w)).take w) (by omega) hvr
      have hlt : (y : Int) < Y := by omega
      simp only [digRows]
      generalize hBe : RB ((l.drop (y * w)).take w) = B at hb hbl i1 ⊢
      have i0 := impl_BestDig_l0 RB l X Y wd hRB w n h hX hY hw hh hd hn hwh hv m (y + 1) (acc ++ B.1) (s + B.2) (by omega) (by simp; omega) (by push_cast; omega)
      have hal : acc.length + B.1.length ≤ 1000 := by omega
      have e3 : wrap64 (s + B.2) = s + B.2 := wrap_id (by omega) (by omega)
      have hc := row_cutI l X w y hX (by clear e3; omega) (by clear e3; omega) (by clear e3; omega) (by clear e3; omega) hg.2.1
      rw [List.append_assoc, Int.add_assoc] at i0
      refine Ev.next2 i1 i0 fun k h1 h2 => ?_
      simp only [impl_BestDig.l0]
      rw [if_pos hlt, if_pos hc.1, if_pos hc.2.1, if_pos hc.2.2.1, hc.2.2.2.1, h1, Option.bind_some]
      rw [if_pos (Nat.lt_of_le_of_lt hal (by decide)), hc.2.2.2.2, e3]
      exact h2
theorem impl_BestDig_no (x y : Int) (l : List Int) (wd : Int) : Ev (fun k => impl_BestDig.j0 k wd true x y l) ([], 0, false) := Ev.next0 fun k => by simp [impl_BestDig.j0]
theorem impl_BestDig_yes (x y : Int) (l : List Int) (wd : Int) (h : benchOk x y l = true) (hwd : 1 ≤ wd ∧ wd ≤ 8) : Ev (fun k => impl_BestDig.j0 k wd false x y l) (bestDig x y l wd) := by
  have hb := bench_len h
  have hyx : y.toNat * x.toNat = l.length := by
    have e : ((y.toNat * x.toNat : Nat) : Int) = x * y := by
      rw [Int.natCast_mul, Int.toNat_of_nonneg (by omega), Int.toNat_of_nonneg (by omega), Int.mul_comm]
    omega
  refine Ev.next1 (impl_BestDig_l0 (rowBest wd) l x y wd (fun r hr hv => ⟨(rowBest_facts wd r hr hv).1, (rowBest_facts wd r hr hv).2, impl_bestRow_ev r wd hwd.1 hr hv⟩) x.toNat l.length y.toNat (by omega) (by omega) (by omega) (by omega) rfl (by omega) hyx (bench_vals h) y.toNat 0 [] 0 (by omega) (by simp) (by omega)) fun k hk => ?_
  simp only [impl_BestDig.j0, Bool.false_eq_true, if_false]
  refine hk.trans ?_
  simp only [List.nil_append, Int.zero_add]
  rw [bestDig, if_pos ⟨h, hwd⟩]
theorem impl_BestDig_ev (x y : Int) (l : List Int) (wd : Int) (hn : l.length ≤ 9223372036854775807) : Ev (fun k => impl_BestDig.f k x y l wd) (bestDig x y l wd) := by
  by_cases h : benchOk x y l = true
  · by_cases hw : 1 ≤ wd ∧ wd ≤ 8
    · refine (ev_and (impl_IsBench_ev x y l hn) <| ev_one (impl_BestDig_yes x y l wd h hw)).ev fun k ⟨h1, h2⟩ => ?_
      simp only [impl_BestDig.f, h1, Option.bind_some]
      rw [if_pos h, if_neg (by omega), show decide (wd > 8) = false by simp; omega]; exact h2
    · refine (ev_and (impl_IsBench_ev x y l hn) <| ev_one (impl_BestDig_no x y l wd)).ev fun k ⟨h1, h2⟩ => ?_
      simp only [impl_BestDig.f, h1, Option.bind_some]
      have e2 : ¬ (benchOk x y l = true ∧ (1 ≤ wd ∧ wd ≤ 8)) := fun q => hw q.2
      rw [if_pos h, bestDig]
      by_cases h4 : wd < 1
      · rw [if_pos h4, if_neg e2]; exact h2
      · rw [if_neg h4, show decide (wd > 8) = true by simp; omega, if_neg e2]; exact h2
  · refine (ev_and (impl_IsBench_ev x y l hn) <| ev_one (impl_BestDig_no x y l wd)).ev fun k ⟨h1, h2⟩ => ?_
    simp only [impl_BestDig.f, h1, Option.bind_some]
    rw [if_neg h, bestDig, if_neg (fun q => h q.1)]; exact h2
theorem spec_IsBench_ev (x y : Int) (l : List Int) (hn : l.length ≤ 9223372036854775807) : Ev (fun k => spec_IsBench.f k x y l) (benchOk x y l) :=
  Ev.of1 (spec_dgGood_ev x y l hn) fun k hk => by simp only [spec_IsBench.f, hk, Option.bind_some]
theorem impl_isDug_ev (x y : Int) (l : List Int) (d : List Bool) (hn : l.length ≤ 9223372036854775807) : Ev (fun k => impl_isDug.f k x y l d) (benchOk x y l && decide (d.length = l.length)) :=
  Ev.of1 (impl_IsBench_ev x y l hn) fun k hk => by
    simp only [impl_isDug.f, hk, Option.bind_some]
    by_cases h : benchOk x y l = true
    · rw [if_pos h, h]; congr 1; simp only [Bool.true_and]; rw [Bool.eq_iff_iff]; simp; omega
    · rw [if_neg h]; simp [h]
/-- The indices of what is marked, from i on. -/
def marked : List Bool → Nat → List Int
  | [], _ => []
  | b :: bs, i => if b = true then (i : Int) :: marked bs (i + 1) else marked bs (i + 1)
theorem marked_mem : ∀ {bs : List Bool} {i : Nat} {x : Int}, x ∈ marked bs i → ∃ j : Nat, x = (j : Int) ∧ i ≤ j ∧ j < i + bs.length ∧ bs[j - i]? = some true
  | b :: bs, i, x, h => by
    simp only [marked] at h
    have tail : x ∈ marked bs (i + 1) → ∃ j : Nat, x = (j : Int) ∧ i ≤ j ∧ j < i + (b :: bs).length ∧ (b :: bs)[j - i]? = some true := fun h => by
      obtain ⟨j, e, h1, h2, h3⟩ := marked_mem h
      refine ⟨j, e, by omega, by simp; omega, ?_⟩
      rw [show j - i = (j - (i + 1)) + 1 by omega, List.getElem?_cons_succ]; exact h3
    split at h
    · rename_i hb
      rcases List.mem_cons.1 h with rfl | h
      · exact ⟨i, rfl, by omega, by simp, by simp [hb]⟩
      · exact tail h
    · exact tail h
theorem marked_length : ∀ (bs : List Bool) (i : Nat), (marked bs i).length ≤ bs.length
  | [], _ => by simp [marked]
  | b :: bs, i => by simp only [marked]; have := marked_length bs (i + 1); split <;> simp <;> omega
theorem impl_listOf_l0 (d : List Bool) (hn : d.length ≤ 1048576) : ∀ (bs : List Bool) (i : Nat) (a : List Int), d.drop i = bs → a.length ≤ i → Ev (fun k => impl_listOf.l0 k a d (d.length : Int) i) (a ++ marked bs i)
  | [], i, a, h, ha => Ev.next0 fun k => by
      have h0 := drop_nil h
      simp only [impl_listOf.l0, marked, List.append_nil]
      rw [if_neg (by omega)]
  | b :: bs, i, a, h, ha => by
      obtain ⟨h1, h2, h3⟩ := drop_cons h
      have e2 := rdOf_drop (d := false) h
      cases b with
      | true =>
        refine Ev.next1 (impl_listOf_l0 d hn bs (i + 1) (a ++ [(i : Int)]) h3 (by simp; omega)) fun k hk => ?_
        simp only [impl_listOf.l0, e2, marked]
        rw [if_pos (by omega), if_pos (by omega), if_pos (by omega), if_pos (by simp), if_pos (by omega), wrap_succ h1 (by omega), if_pos (by simp)]
        rw [List.append_assoc] at hk; exact hk
      | false =>
        refine Ev.next1 (impl_listOf_l0 d hn bs (i + 1) a h3 (by omega)) fun k hk => ?_
        simp only [impl_listOf.l0, e2, marked]
        rw [if_pos (by omega), if_pos (by omega), if_pos (by omega), if_neg (by simp), wrap_succ h1 (by omega), if_neg (by simp)]
        exact hk
theorem impl_listOf_ev (d : List Bool) (hn : d.length ≤ 1048576) : Ev (fun k => impl_listOf.f k d) (marked d 0) :=
  Ev.of1 (impl_listOf_l0 d hn d 0 [] rfl (by simp)) fun k hk => by simp only [impl_listOf.f]; exact hk
def sumAt (l : List Int) : List Int → Int → Int
  | [], a => a
  | x :: xs, a => sumAt l xs (a + rd l x)
theorem impl_valueSum_l0 (l : List Int) (hv : allIn (-1000000) 1000000 l = true) (s : List Int) (hn : s.length ≤ 1000000) (hs : ∀ x ∈ s, 0 ≤ x ∧ x < (l.length : Int)) : ∀ (ys : List Int) (i : Nat) (a : Int), s.drop i = ys → -(1000000 * i) ≤ a ∧ a ≤ 1000000 * i → Ev (fun k => impl_valueSum.l0 k l a s (s.length : Int) i) (sumAt l ys a)
  | [], i, a, h, ha => Ev.next0 fun k => by
      have h0 := drop_nil h
      simp only [impl_valueSum.l0, sumAt]
      rw [if_neg (by omega)]
  | y :: ys, i, a, h, ha => by
      obtain ⟨h1, h2, h3⟩ := drop_cons h
      have hy := hs y (List.mem_of_getElem? h2)
      have e := rd_drop h
      have hg : l[y.toNat]? = some (l[y.toNat]'(by omega)) := List.getElem?_eq_getElem (by omega)
      have hr : -1000000 ≤ rd l y ∧ rd l y ≤ 1000000 := by
        have h5 := rd_get hg
        rw [show ((y.toNat : Nat) : Int) = y by omega] at h5
        rw [h5]; exact allIn_get hv hg
      refine Ev.next1 (impl_valueSum_l0 l hv s hn hs ys (i + 1) (a + rd l y) h3 (by push_cast; omega)) fun k hk => ?_
      simp only [impl_valueSum.l0, e, sumAt]
      rw [if_pos (by omega), if_pos (by omega), if_pos (by omega), if_pos (by omega), if_pos (by omega), wrap_succ h1 (by omega), wrap_id (by omega) (by omega)]
      exact hk
theorem impl_valueSum_ev (l : List Int) (hv : allIn (-1000000) 1000000 l = true) (s : List Int) (hn : s.length ≤ 1000000) (hs : ∀ x ∈ s, 0 ≤ x ∧ x < (l.length : Int)) : Ev (fun k => impl_valueSum.f k l s) (sumAt l s 0) :=
  Ev.of1 (impl_valueSum_l0 l hv s hn hs s 0 0 rfl (by omega)) fun k hk => by simp only [impl_valueSum.f]; exact hk
theorem sumAt_marked (l : List Int) : ∀ (bs : List Bool) (ys : List Int) (i : Nat) (a : Int), l.drop i = ys → bs.length = ys.length → sumAt l (marked bs i) a = dugSum ys bs a
  | [], ys, i, a, h, hl => by cases ys <;> simp [marked, sumAt, dugSum]
  | b :: bs, [], i, a, h, hl => by simp at hl
  | b :: bs, y :: ys, i, a, h, hl => by
      obtain ⟨h1, h2, h3⟩ := drop_cons h
      have hl' : bs.length = ys.length := by simpa using hl
      cases b with
      | true => simp only [marked, if_true, sumAt, dugSum]; rw [rd_drop h]; exact sumAt_marked l bs ys (i + 1) (a + y) h3 hl'
      | false => simp only [marked, sumAt, dugSum]; rw [if_neg (by simp), if_neg (by simp)]; exact sumAt_marked l bs ys (i + 1) a h3 hl'
theorem impl_DigValue_ev (x y : Int) (l : List Int) (d : List Bool) (hn : l.length ≤ 9223372036854775807) : Ev (fun k => impl_DigValue.f k x y l d) (if benchOk x y l = true ∧ d.length = l.length then (dugSum l d 0, true) else (0, false)) := by
  by_cases h : benchOk x y l = true ∧ d.length = l.length
  · have hb := bench_len h.1
    have hm := marked_length d 0
    refine (ev_and (impl_isDug_ev x y l d hn) <| ev_and (impl_listOf_ev d (by omega)) <| ev_one (impl_valueSum_ev l (bench_vals h.1) (marked d 0) (by omega) (fun x hx => by obtain ⟨j, rfl, _, hj, _⟩ := marked_mem hx; omega))).ev fun k ⟨h1, h2, h3⟩ => ?_
    simp only [impl_DigValue.f, h1, h2, h3, Option.bind_some]
    rw [if_pos (by simpa using h), if_pos h, sumAt_marked l d l 0 0 rfl h.2]
  · refine (ev_one (impl_isDug_ev x y l d hn)).ev fun k h1 => ?_
    simp only [impl_DigValue.f, h1, Option.bind_some]
    rw [if_neg (by simpa using h), if_neg h]
theorem spec_dgBoth_ev (x y : Int) (l : List Int) (d : List Bool) (hn : l.length ≤ 9223372036854775807) : Ev (fun k => spec_dgBoth.f k x y l d) (benchOk x y l && decide (d.length = l.length)) :=
  Ev.of1 (spec_dgGood_ev x y l hn) fun k hk => by
    simp only [spec_dgBoth.f, hk, Option.bind_some]
    by_cases h : benchOk x y l = true
    · rw [if_pos h, h]; congr 1; simp only [Bool.true_and]; rw [Bool.eq_iff_iff]; simp; omega
    · rw [if_neg h]; simp [h]
/-- The shortest run of m rows, from row y on. -/
def widths (d : List Bool) (w : Nat) : Nat → Nat → Int → Int
  | 0, _, b => b
  | m + 1, y, b => widths d w m (y + 1) (lessAll b (runs ((d.drop (y * w)).take w) 0))
def rowWidth (x y : Int) (l : List Int) (d : List Bool) : Int × Bool := if benchOk x y l = true ∧ d.length = l.length then (widths d x.toNat y.toNat 0 0, decide (widths d x.toNat y.toNat 0 0 > 0)) else (0, false)
theorem spec_RowWidth_l1 (d : List Bool) (X Y : Int) (v : List Int) (y : Nat) (I : List Int) (hI : I.length ≤ 1048576) (r : Int × Bool) : ∀ (rs : List Int) (j : Nat) (b : Int), I.drop j = rs → Ev (fun k => spec_RowWidth.l0 k d (lessAll b rs) (wrap64 ((y : Int) + 1)) X Y v) r →
    Ev (fun k => spec_RowWidth.l1 k d b y I (I.length : Int) j X Y v) r
  | [], j, b, h, hr => by
      have h0 := drop_nil h
      refine Ev.next1 hr fun k hk => ?_
      simp only [spec_RowWidth.l1]
      rw [if_neg (by omega)]; exact hk
  | q :: rs, j, b, h, hr => by
      obtain ⟨h1, h2, h3⟩ := drop_cons h
      have e : rd I j = q := rd_drop h
      refine Ev.next1 (spec_RowWidth_l1 d X Y v y I hI r rs (j + 1) (less b q) h3 hr) fun k hk => ?_
      simp only [spec_RowWidth.l1, e]
      rw [if_pos (by omega), if_pos (by omega), if_pos (by omega), wrap_succ h1 (by omega)]
      unfold less at hk
      by_cases h0 : b = 0
      · rw [if_pos h0] at hk ⊢; exact hk
      · rw [if_neg h0] at hk ⊢
        by_cases h4 : q < b
        · rw [if_pos h4] at hk ⊢; exact hk
        · rw [if_neg h4] at hk ⊢; exact hk
theorem spec_RowWidth_l0 (d : List Bool) (X Y : Int) (v : List Int) (w n h : Nat) (hX : X = (w : Int)) (hY : Y = (h : Int)) (hw : 1 ≤ w ∧ w ≤ 8) (hh : h ≤ 6) (hd : d.length = n) (hn : n ≤ 48) (hwh : h * w = n) : ∀ (m y : Nat) (b : Int), y + m = h →
    Ev (fun k => spec_RowWidth.l0 k d b y X Y v) (widths d w m y b, decide (widths d w m y b > 0))
  | 0, y, b, hy => Ev.next0 fun k => by
      simp only [spec_RowWidth.l0, widths]
      rw [if_neg (by omega)]
      try rfl
  | m + 1, y, b, hy => by
      have hyn : (y + 1) * w ≤ n := by rw [← hwh]; exact Nat.mul_le_mul_right w (by omega)
      have hg := grid_row hw (show y < 6 by omega) hyn (by omega)
      have hl : ((d.drop (y * w)).take w).length ≤ 1048576 := by rw [List.length_take]; omega
      have hc := row_cut d X w y hX (by omega) (by omega) (by omega) (by omega) hg.2.1
      have hr := runs_length ((d.drop (y * w)).take w) 0
      have i0 := spec_RowWidth_l0 d X Y v w n h hX hY hw hh hd hn hwh m (y + 1) (lessAll b (runs ((d.drop (y * w)).take w) 0)) (by omega)
      rw [← hc.2.2.2.2] at i0
      have i1 := spec_RowWidth_l1 d X Y v y (runs ((d.drop (y * w)).take w) 0) (by omega) _ (runs ((d.drop (y * w)).take w) 0) 0 b rfl i0
      have hlt : (y : Int) < Y := by omega
      clear hY hyn hg hwh hd hn hh hw
      refine Ev.next2 i1 (spec_dgRuns_ev ((d.drop (y * w)).take w) hl) fun k h1 h2 => ?_
      simp only [spec_RowWidth.l0]
      rw [if_pos hlt, if_pos hc.1, if_pos hc.2.1, if_pos hc.2.2.1, hc.2.2.2.1, h2, Option.bind_some]
      exact h1
theorem spec_RowWidth_ev (x y : Int) (l : List Int) (d : List Bool) (hn : l.length ≤ 9223372036854775807) : Ev (fun k => spec_RowWidth.f k x y l d) (rowWidth x y l d) := by
  by_cases h : benchOk x y l = true ∧ d.length = l.length
  · have hb := bench_len h.1
    have hyx : y.toNat * x.toNat = l.length := by
      have e : ((y.toNat * x.toNat : Nat) : Int) = x * y := by
        rw [Int.natCast_mul, Int.toNat_of_nonneg (by omega), Int.toNat_of_nonneg (by omega), Int.mul_comm]
      omega
    have h0 := spec_RowWidth_l0 d x y l x.toNat l.length y.toNat (by omega) (by omega) (by omega) (by omega) h.2 (by omega) hyx y.toNat 0 0 (by omega)
    refine (ev_and (spec_dgBoth_ev x y l d hn) <| ev_one h0).ev fun k ⟨h1, h2⟩ => ?_
    simp only [spec_RowWidth.f, h1, Option.bind_some]
    rw [if_pos (by simpa using h), rowWidth, if_pos h]
    exact h2
  · refine (ev_one (spec_dgBoth_ev x y l d hn)).ev fun k h1 => ?_
    simp only [spec_RowWidth.f, h1, Option.bind_some]
    rw [if_neg (by simpa using h), rowWidth, if_neg h]
-- needs: spec_RowWidth
theorem impl_RowWidth_l0 (d : List Bool) (X Y : Int) (v : List Int) (w n h : Nat) (hX : X = (w : Int)) (hY : Y = (h : Int)) (hw : 1 ≤ w ∧ w ≤ 8) (hh : h ≤ 6) (hd : d.length = n) (hn : n ≤ 48) (hwh : h * w = n) : ∀ (m y : Nat) (b : Int), y + m = h → 0 ≤ b →
    Ev (fun k => impl_RowWidth.l0 k d b y X Y v) (widths d w m y b, decide (widths d w m y b > 0))
  | 0, y, b, hy, hb => Ev.next0 fun k => by
      simp only [impl_RowWidth.l0, widths]
      rw [if_neg (by omega)]
      try rfl
  | m + 1, y, b, hy, hb => by
      have hyn : (y + 1) * w ≤ n := by rw [← hwh]; exact Nat.mul_le_mul_right w (by omega)
      have hg := grid_row hw (show y < 6 by omega) hyn (by omega)
      have hl : ((d.drop (y * w)).take w).length ≤ 1048576 := by rw [List.length_take]; omega
      have hc := row_cut d X w y hX (by omega) (by omega) (by omega) (by omega) hg.2.1
      have hp := runs_pos ((d.drop (y * w)).take w) 0 (by omega)
      have i0 := impl_RowWidth_l0 d X Y v w n h hX hY hw hh hd hn hwh m (y + 1) (lessAll b (runs ((d.drop (y * w)).take w) 0)) (by omega) (lessAll_pos _ b hb hp)
      rw [← hc.2.2.2.2] at i0
      have hlt : (y : Int) < Y := by omega
      have hm := lessAll_comb (runs ((d.drop (y * w)).take w) 0) b hb hp
      clear hY hyn hg hwh hd hn hh hw
      refine Ev.next2 i0 (impl_shortestRun_ev ((d.drop (y * w)).take w) hl) fun k h1 h2 => ?_
      simp only [impl_RowWidth.l0]
      rw [if_pos hlt, if_pos hc.1, if_pos hc.2.1, if_pos hc.2.2.1, hc.2.2.2.1, h2, Option.bind_some]
      refine Eq.trans ?_ h1
      rw [hm]
      generalize lessAll 0 (runs ((d.drop (y * w)).take w) 0) = q
      unfold comb less
      by_cases hq : q > 0
      · rw [if_pos hq, if_pos hq]
        by_cases h0 : b = 0
        · rw [if_pos h0, if_pos h0]
        · rw [if_neg h0, if_neg h0]
          by_cases h4 : q < b
          · rw [if_pos h4, if_pos h4]
          · rw [if_neg h4, if_neg h4]
      · rw [if_neg hq, if_neg hq]
theorem impl_RowWidth_ev (x y : Int) (l : List Int) (d : List Bool) (hn : l.length ≤ 9223372036854775807) : Ev (fun k => impl_RowWidth.f k x y l d) (rowWidth x y l d) := by
  by_cases h : benchOk x y l = true ∧ d.length = l.length
  · have hb := bench_len h.1
    have hyx : y.toNat * x.toNat = l.length := by
      have e : ((y.toNat * x.toNat : Nat) : Int) = x * y := by
        rw [Int.natCast_mul, Int.toNat_of_nonneg (by omega), Int.toNat_of_nonneg (by omega), Int.mul_comm]
      omega
    have h0 := impl_RowWidth_l0 d x y l x.toNat l.length y.toNat (by omega) (by omega) (by omega) (by omega) h.2 (by omega) hyx y.toNat 0 0 (by omega) (by omega)
    refine (ev_and (impl_isDug_ev x y l d hn) <| ev_one h0).ev fun k ⟨h1, h2⟩ => ?_
    simp only [impl_RowWidth.f, h1, Option.bind_some]
    rw [if_pos (by simpa using h), rowWidth, if_pos h]
    exact h2
  · refine (ev_one (impl_isDug_ev x y l d hn)).ev fun k h1 => ?_
    simp only [impl_RowWidth.f, h1, Option.bind_some]
    rw [if_neg (by simpa using h), rowWidth, if_neg h]
theorem spec_LossAndWaste_l0 (l : List Int) (d : List Bool) (hn : l.length ≤ 1000) (hd : d.length = l.length) (hv : allIn (-1000000) 1000000 l = true) : ∀ (ys : List Int) (bs : List Bool) (i : Nat) (a w : Int), l.drop i = ys → d.drop i = bs → 0 ≤ a ∧ a ≤ 1000000 * i → 0 ≤ w ∧ w ≤ 1000000 * i → Ev (fun k => spec_LossAndWaste.l0 k d a w l (l.length : Int) i) ((lossWaste ys bs a w).1, (lossWaste ys bs a w).2, true)
  | [], bs, i, a, w, h, hb, ha, hw => Ev.next0 fun k => by
      have h0 := drop_nil h
      simp only [spec_LossAndWaste.l0, lossWaste]
      rw [if_neg (by omega)]
  | y :: ys, [], i, a, w, h, hb, ha, hw => by
      have h1 := (drop_cons h).1
      have h2 := drop_nil hb
      omega
  | y :: ys, b :: bs, i, a, w, h, hb, ha, hw => by
      obtain ⟨h1, h2, h3⟩ := drop_cons h
      obtain ⟨g1, g2, g3⟩ := drop_cons hb
      have hy := allIn_get hv h2
      have e := rd_drop h
      have e2 := rdOf_drop (d := false) hb
      cases b with
      | true =>
        have hr := spec_LossAndWaste_l0 l d hn hd hv ys bs (i + 1) a (w + max 0 (-y)) h3 g3 (by push_cast; omega) (by push_cast; omega)
        have hj : Ev (fun k => spec_LossAndWaste.j1 k d a w i y l (l.length : Int) i false) ((lossWaste ys bs a (w + max 0 (-y))).1, (lossWaste ys bs a (w + max 0 (-y))).2, true) := by
          refine Ev.next1 hr fun k hk => ?_
          simp only [spec_LossAndWaste.j1, e2]
          rw [if_neg (by simp), if_pos (by omega), if_pos (by omega), if_pos (by simp), wrap_succ h1 (by omega)]
          by_cases hy0 : y < 0
          · rw [if_pos hy0, wrap_id (by omega) (by omega), show w - y = w + max 0 (-y) by omega]; exact hk
          · rw [if_neg hy0]
            have ew : w + max 0 (-y) = w := by omega
            rw [ew] at hk ⊢; exact hk
        refine Ev.next1 hj fun k hk => ?_
        simp only [spec_LossAndWaste.l0, e, e2, lossWaste]
        rw [if_pos (by omega), if_pos (by omega), if_pos (by omega), if_pos (by omega), if_pos (by simp), if_pos (by simp)]
        exact hk
      | false =>
        have hr := spec_LossAndWaste_l0 l d hn hd hv ys bs (i + 1) (a + max 0 y) w h3 g3 (by push_cast; omega) (by push_cast; omega)
        have hj : Ev (fun k => spec_LossAndWaste.j1 k d a w i y l (l.length : Int) i (decide (y > 0))) ((lossWaste ys bs (a + max 0 y) w).1, (lossWaste ys bs (a + max 0 y) w).2, true) := by
          refine Ev.next1 hr fun k hk => ?_
          by_cases hy0 : y > 0
          · simp only [spec_LossAndWaste.j1]
            rw [if_pos (by simpa using hy0), wrap_succ h1 (by omega), wrap_id (by omega) (by omega), show a + y = a + max 0 y by omega]; exact hk
          · simp only [spec_LossAndWaste.j1, e2]
            rw [if_neg (by simpa using hy0), if_pos (by omega), if_pos (by omega), if_neg (by simp), wrap_succ h1 (by omega)]
            have ew : a + max 0 y = a := by omega
            rw [ew] at hk ⊢; exact hk
        refine Ev.next1 hj fun k hk => ?_
        simp only [spec_LossAndWaste.l0, e, e2, lossWaste]
        rw [if_pos (by omega), if_pos (by omega), if_pos (by omega), if_pos (by omega), if_neg (by simp), if_neg (by simp)]
        exact hk
def lossOf (x y : Int) (l : List Int) (d : List Bool) : Int × Int × Bool := if benchOk x y l = true ∧ d.length = l.length then ((lossWaste l d 0 0).1, (lossWaste l d 0 0).2, true) else (0, 0, false)
theorem spec_LossAndWaste_ev (x y : Int) (l : List Int) (d : List Bool) (hn : l.length ≤ 9223372036854775807) : Ev (fun k => spec_LossAndWaste.f k x y l d) (lossOf x y l d) := by
  by_cases h : benchOk x y l = true ∧ d.length = l.length
  · have hb := bench_len h.1
    refine (ev_and (spec_dgBoth_ev x y l d hn) <| ev_one (spec_LossAndWaste_l0 l d (by omega) h.2 (bench_vals h.1) l d 0 0 0 rfl rfl (by omega) (by omega))).ev fun k ⟨h1, h2⟩ => ?_
    simp only [spec_LossAndWaste.f, h1, Option.bind_some]
    rw [if_pos (by simpa using h), lossOf, if_pos h]; exact h2
  · refine (ev_one (spec_dgBoth_ev x y l d hn)).ev fun k h1 => ?_
    simp only [spec_LossAndWaste.f, h1, Option.bind_some]
    rw [if_neg (by simpa using h), lossOf, if_neg h]
-- needs: spec_LossAndWaste
theorem impl_LossAndWaste_l0 (l : List Int) (d : List Bool) (hn : l.length ≤ 1000) (hd : d.length = l.length) (hv : allIn (-1000000) 1000000 l = true) : ∀ (ys : List Int) (bs : List Bool) (i : Nat) (a w : Int), l.drop i = ys → d.drop i = bs → 0 ≤ a ∧ a ≤ 1000000 * i → 0 ≤ w ∧ w ≤ 1000000 * i → Ev (fun k => impl_LossAndWaste.l0 k d a w l (l.length : Int) i) ((lossWaste ys bs a w).1, (lossWaste ys bs a w).2, true)
  | [], bs, i, a, w, h, hb, ha, hw => Ev.next0 fun k => by
      have h0 := drop_nil h
      simp only [impl_LossAndWaste.l0, lossWaste]
      rw [if_neg (by omega)]
  | y :: ys, [], i, a, w, h, hb, ha, hw => by
      have h1 := (drop_cons h).1
      have h2 := drop_nil hb
      omega
  | y :: ys, b :: bs, i, a, w, h, hb, ha, hw => by
      obtain ⟨h1, h2, h3⟩ := drop_cons h
      obtain ⟨g1, g2, g3⟩ := drop_cons hb
      have hy := allIn_get hv h2
      have e := rd_drop h
      have e2 := rdOf_drop (d := false) hb
      cases b with
      | true =>
        refine Ev.next1 (impl_LossAndWaste_l0 l d hn hd hv ys bs (i + 1) a (w + max 0 (-y)) h3 g3 (by push_cast; omega) (by push_cast; omega)) fun k hk => ?_
        simp only [impl_LossAndWaste.l0, e, e2, lossWaste, mx_eq]
        rw [if_pos (by omega), if_pos (by omega), if_pos (by omega), if_pos (by omega), if_pos (by simp), wrap_succ h1 (by omega), wrap_id (x := -y) (by omega) (by omega), wrap_id (by omega) (by omega), if_pos (by simp)]
        exact hk
      | false =>
        refine Ev.next1 (impl_LossAndWaste_l0 l d hn hd hv ys bs (i + 1) (a + max 0 y) w h3 g3 (by push_cast; omega) (by push_cast; omega)) fun k hk => ?_
        simp only [impl_LossAndWaste.l0, e, e2, lossWaste, mx_eq]
        rw [if_pos (by omega), if_pos (by omega), if_pos (by omega), if_pos (by omega), if_neg (by simp), wrap_succ h1 (by omega), wrap_id (by omega) (by omega), if_neg (by simp)]
        exact hk
theorem impl_LossAndWaste_ev (x y : Int) (l : List Int) (d : List Bool) (hn : l.length ≤ 9223372036854775807) : Ev (fun k => impl_LossAndWaste.f k x y l d) (lossOf x y l d) := by
  by_cases h : benchOk x y l = true ∧ d.length = l.length
  · have hb := bench_len h.1
    refine (ev_and (impl_isDug_ev x y l d hn) <| ev_one (impl_LossAndWaste_l0 l d (by omega) h.2 (bench_vals h.1) l d 0 0 0 rfl rfl (by omega) (by omega))).ev fun k ⟨h1, h2⟩ => ?_
    simp only [impl_LossAndWaste.f, h1, Option.bind_some]
    rw [if_pos (by simpa using h), lossOf, if_pos h]; exact h2
  · refine (ev_one (impl_isDug_ev x y l d hn)).ev fun k h1 => ?_
    simp only [impl_LossAndWaste.f, h1, Option.bind_some]
    rw [if_neg (by simpa using h), lossOf, if_neg h]
theorem spec_DrawBestRow_j1 (l : List Int) (hl : ∀ x ∈ l, 0 ≤ x ∧ x ≤ 255) (hn : l.length ≤ 9223372036854775807) (x : List Int) (hx : x.length ≤ 9) (o : Bool) (ho : o = true → 1 ≤ x.length) (p s : Int) (h0 : 0 ≤ p) (h1 : p ≤ 500000) : ∃ r w, Ev (fun k => spec_DrawBestRow.j1 k x o l p s) (r, w) ∧ r.length ≤ 9 := by
  obtain ⟨a, p1, s1, e1, b1⟩ := spec_l1Cur_among_some l hl hn p s h0 (by omega) [(-1000000), 1000000, 1000001, (-1000001)] (by simp)
  obtain ⟨b, p2, s2, e2, b2⟩ := spec_l1Cur_among_some l hl hn p1 s1 (by omega) (by omega) [1, 2, 2, 3, 4, 8, 9, 0] (by simp)
  obtain ⟨c, p3, s3, e3, b3⟩ := spec_l1Cur_among_some l hl hn p s h0 (by omega) [1, 2, 2, 3, 4, 8, 9, 0] (by simp)
  by_cases q : o = true
  · have := ho q
    refine ⟨x.set (0 : Int).toNat a, b, Ev.next0 fun k => ?_, by rw [List.length_set]; exact hx⟩
    simp only [spec_DrawBestRow.j1, e1, e2, Option.bind_some]
    rw [if_pos q, if_pos (by omega)]
  · refine ⟨x, c, Ev.next0 fun k => ?_, hx⟩
    simp only [spec_DrawBestRow.j1, e3, Option.bind_some]
    rw [if_neg q]
theorem spec_DrawBestRow_l0 (l : List Int) (hl : ∀ x ∈ l, 0 ≤ x ∧ x ≤ 255) (hn : l.length ≤ 9223372036854775807) : ∀ (d : Nat) (x : List Int) (p s : Int), x.length + d ≤ 9 → 0 ≤ p → p + 4 * (d : Int) ≤ 400000 → ∃ r w, Ev (fun k => spec_DrawBestRow.l0 k x (d : Int) l p s) (r, w) ∧ r.length ≤ 9
  | 0, x, p, s, h1, h2, h3 => by
      by_cases c : (x.length : Int) > 0
      · obtain ⟨o, p1, s1, e1, b1⟩ := spec_l1Cur_one_some l hl hn p s h2 (by omega) 24
        obtain ⟨r, w, h, hr⟩ := spec_DrawBestRow_j1 l hl hn x (by omega) o (fun _ => by omega) p1 s1 (by omega) (by omega)
        refine ⟨r, w, Ev.next1 h fun k hk => ?_, hr⟩
        simp only [spec_DrawBestRow.l0, e1, Option.bind_some]
        rw [if_neg (by omega), if_pos c]
        exact hk
      · obtain ⟨r, w, h, hr⟩ := spec_DrawBestRow_j1 l hl hn x (by omega) false (fun q => by cases q) p s h2 (by omega)
        refine ⟨r, w, Ev.next1 h fun k hk => ?_, hr⟩
        simp only [spec_DrawBestRow.l0]
        rw [if_neg (by omega), if_neg c]
        exact hk
  | d + 1, x, p, s, h1, h2, h3 => by
      obtain ⟨q, p1, s1, e1, _, b1⟩ := spec_l1Cur_pick_some l hl hn p s h2 (by omega) 40
      obtain ⟨a, p2, s2, e2, b2⟩ := spec_l1Cur_among_some l hl hn p1 s1 (by omega) (by omega) [(-3), (-2), (-1), 0, 1, 2, 5, wrap64 (q - 20)] (by simp)
      obtain ⟨r, w, h, hr⟩ := spec_DrawBestRow_l0 l hl hn d (x ++ [a]) p2 s2 (by simp; omega) (by omega) (by push_cast at h3; omega)
      refine ⟨r, w, Ev.next1 h fun k hk => ?_, hr⟩
      simp only [spec_DrawBestRow.l0, e1, e2, Option.bind_some]
      rw [if_pos (by omega), if_pos (by omega), wrap_id (x := ((d + 1 : Nat) : Int) - 1) (by omega) (by omega), show ((d + 1 : Nat) : Int) - 1 = (d : Int) by omega]
      exact hk
theorem spec_DrawBestRow_some (l : List Int) (hl : ∀ x ∈ l, 0 ≤ x ∧ x ≤ 255) (hn : l.length ≤ 9223372036854775807) : ∃ r w, Ev (fun k => spec_DrawBestRow.f k l) (r, w) ∧ r.length ≤ 9 := by
  obtain ⟨q, p1, s1, e1, c1, b1⟩ := spec_l1Cur_pick_some l hl hn 0 0 (by omega) (by omega) 10
  have c2 := c1.2 (by omega)
  obtain ⟨d, rfl⟩ := Int.eq_ofNat_of_zero_le c1.1
  obtain ⟨r, w, h, hr⟩ := spec_DrawBestRow_l0 l hl hn d [] p1 s1 (by simp; omega) (by omega) (by omega)
  refine ⟨r, w, Ev.of1 h fun k hk => ?_, hr⟩
  simp only [spec_DrawBestRow.f, e1, Option.bind_some]
  exact hk
theorem impl_BestRow_ev (l : List Int) (w : Int) (hn : l.length ≤ 1048576) : Ev (fun k => impl_BestRow.f k l w) (bestRow l w) := by
  by_cases h0 : (l.length : Int) > 8
  · refine Ev.all fun k => ?_
    simp only [impl_BestRow.f]
    rw [if_pos h0, bestRow, if_neg (fun q => by omega)]
  · have hg := impl_goodValues_ev l (by omega)
    by_cases h1 : 1 ≤ l.length ∧ allIn (-1000000) 1000000 l = true
    · have e1 : (decide (1 ≤ l.length ∧ l.length ≤ 120) && allIn (-1000000) 1000000 l) = true := by simp [h1]; omega
      rw [e1] at hg
      by_cases h3 : 1 ≤ w ∧ w ≤ 8
      · refine (ev_and hg <| ev_one (impl_bestRow_ev l w h3.1 ⟨h1.1, by omega⟩ h1.2)).ev fun k ⟨g1, g2⟩ => ?_
        simp only [impl_BestRow.f, g1, g2, Option.bind_some]
        rw [if_neg h0, if_pos trivial, if_neg (by omega), if_neg (by omega), bestRow, if_pos ⟨⟨h1.1, by omega⟩, h1.2, h3⟩]
      · refine (ev_one hg).ev fun k g1 => ?_
        simp only [impl_BestRow.f, g1, Option.bind_some]
        have e2 : ¬ ((1 ≤ l.length ∧ l.length ≤ 8) ∧ allIn (-1000000) 1000000 l = true ∧ (1 ≤ w ∧ w ≤ 8)) := fun q => h3 q.2.2
        rw [if_neg h0, if_pos trivial, bestRow]
        by_cases h4 : w < 1
        · rw [if_pos h4, if_neg e2]
        · rw [if_neg h4, if_pos (by omega), if_neg e2]
    · have e1 : (decide (1 ≤ l.length ∧ l.length ≤ 120) && allIn (-1000000) 1000000 l) = false := by
        cases hq : (decide (1 ≤ l.length ∧ l.length ≤ 120) && allIn (-1000000) 1000000 l)
        · rfl
        · simp only [Bool.and_eq_true, decide_eq_true_eq] at hq; exact absurd ⟨hq.1.1, hq.2⟩ h1
      rw [e1] at hg
      refine (ev_one hg).ev fun k g1 => ?_
      simp only [impl_BestRow.f, g1, Option.bind_some]
      rw [if_neg h0, if_neg (by simp), bestRow, if_neg (fun q => h1 ⟨q.1.1, q.2.1⟩)]
theorem spec_BestRow_ev (l : List Int) (w : Int) (hn : l.length ≤ 1048576) : Ev (fun k => spec_BestRow.f k l w) (bestRow l w) := by
  by_cases h1 : 1 ≤ l.length ∧ l.length ≤ 8
  · by_cases h2 : allIn (-1000000) 1000000 l = true
    · by_cases h3 : 1 ≤ w ∧ w ≤ 8
      · refine (ev_and (spec_l1All_ev l (-1000000) 1000000 (by omega)) <| ev_one (spec_dgBest_ev l w h1 h2)).ev fun k ⟨g1, g2⟩ => ?_
        simp only [spec_BestRow.f, spec_l1In_eq, g1, g2, Option.bind_some]
        rw [if_pos (by simp; omega), if_pos h2, if_pos (by simpa using h3), bestRow, if_pos ⟨h1, h2, h3⟩]
      · refine (ev_one (spec_l1All_ev l (-1000000) 1000000 (by omega))).ev fun k g1 => ?_
        simp only [spec_BestRow.f, spec_l1In_eq, g1, Option.bind_some]
        rw [if_pos (by simp; omega), if_pos h2, if_neg (by simpa using h3), bestRow, if_neg (fun q => h3 q.2.2)]
    · refine (ev_one (spec_l1All_ev l (-1000000) 1000000 (by omega))).ev fun k g1 => ?_
      simp only [spec_BestRow.f, spec_l1In_eq, g1, Option.bind_some]
      rw [if_pos (by simp; omega), if_neg h2, bestRow, if_neg (fun q => h2 q.2.1)]
  · refine Ev.all fun k => ?_
    simp only [spec_BestRow.f, spec_l1In_eq, Option.bind_some]
    rw [if_neg (by simp; omega), bestRow, if_neg (fun q => h1 q.1)]
theorem spec_l1Cur_digging_l0 (l : List Int) (hl : ∀ x ∈ l, 0 ≤ x ∧ x ≤ 255) (hn : l.length ≤ 9223372036854775807) (x y : Int) (v : List Int) (n : Int) (hv : v.length ≤ 48) : ∀ (d i : Nat) (a : List Bool) (p s : Int), i + d = v.length → a.length = i → 0 ≤ p → p + 2 * (d : Int) ≤ 700000 → ∃ a' p' s', Ev (fun k => spec_l1Cur_digging.l0 k a n (v.length : Int) (i : Int) l p s x y v) (x, y, v, a', p', s') ∧ a'.length ≤ 49 ∧ p ≤ p' ∧ p' ≤ p + 2 * (d : Int) + 2
  | 0, i, a, p, s, h1, h2, h3, h4 => by
      obtain ⟨o, p1, s1, e1, b1⟩ := spec_l1Cur_one_some l hl hn p s h3 (by omega) 24
      by_cases c : o = true
      · refine ⟨a ++ [true], p1, s1, Ev.next0 fun k => ?_, by simp; omega, by omega, by omega⟩
        simp only [spec_l1Cur_digging.l0, e1, Option.bind_some]
        rw [if_neg (by omega), if_pos c, if_pos (by omega)]
      · refine ⟨a, p1, s1, Ev.next0 fun k => ?_, by omega, by omega, by omega⟩
        simp only [spec_l1Cur_digging.l0, e1, Option.bind_some]
        rw [if_neg (by omega), if_neg c]
  | d + 1, i, a, p, s, h1, h2, h3, h4 => by
      obtain ⟨q, p1, s1, e1, _, b1⟩ := spec_l1Cur_pick_some l hl hn p s h3 (by omega) 5
      obtain ⟨a', p', s', h, g1, g2, g3⟩ := spec_l1Cur_digging_l0 l hl hn x y v n hv d (i + 1) (a ++ [decide (q < n)]) p1 s1 (by omega) (by simp; omega) (by omega) (by push_cast at h4; omega)
      refine ⟨a', p', s', Ev.next1 h fun k hk => ?_, g1, by omega, by push_cast; omega⟩
      simp only [spec_l1Cur_digging.l0, e1, Option.bind_some]
      rw [if_pos (by omega), if_pos (by omega), wrap_succ (n := v.length) (by omega) (by omega)]
      exact hk
theorem spec_l1Cur_digging_some (l : List Int) (hl : ∀ x ∈ l, 0 ≤ x ∧ x ≤ 255) (hn : l.length ≤ 9223372036854775807) (p s : Int) (h0 : 0 ≤ p) (h1 : p ≤ 400000) : ∃ x y v a p' s', Ev (fun k => spec_l1Cur_digging.f k l p s) (x, y, v, a, p', s') ∧ v.length ≤ 48 ∧ a.length ≤ 49 := by
  obtain ⟨x, y, v, p1, s1, e1, hv, b1, b2⟩ := spec_l1Cur_bench_some l hl hn p s h0 (by omega)
  obtain ⟨q, p2, s2, e2, _, b3⟩ := spec_l1Cur_pick_some l hl hn p1 s1 (by omega) (by omega) 4
  obtain ⟨a, p', s', h, g1, g2, g3⟩ := spec_l1Cur_digging_l0 l hl hn x y v (wrap64 (1 + q)) hv v.length 0 [] p2 s2 (by omega) rfl (by omega) (by omega)
  refine ⟨x, y, v, a, p', s', Ev.of2 e1 h fun k h1 h2 => ?_, hv, g1⟩
  simp only [spec_l1Cur_digging.f, h1, e2, Option.bind_some]
  exact h2
theorem spec_DrawIsDug_some (l : List Int) (hl : ∀ x ∈ l, 0 ≤ x ∧ x ≤ 255) (hn : l.length ≤ 9223372036854775807) : ∃ x y v a, Ev (fun k => spec_DrawIsDug.f k l) (x, y, v, a) ∧ v.length ≤ 48 ∧ a.length ≤ 49 := by
  obtain ⟨x, y, v, a, p, s, h, g⟩ := spec_l1Cur_digging_some l hl hn 0 0 (by omega) (by omega)
  refine ⟨x, y, v, a, Ev.of1 h fun k hk => ?_, g⟩
  simp only [spec_DrawIsDug.f, hk, Option.bind_some]
theorem spec_DrawLossAndWaste_some (l : List Int) (hl : ∀ x ∈ l, 0 ≤ x ∧ x ≤ 255) (hn : l.length ≤ 9223372036854775807) : ∃ x y v a, Ev (fun k => spec_DrawLossAndWaste.f k l) (x, y, v, a) ∧ v.length ≤ 48 ∧ a.length ≤ 49 := by
  obtain ⟨x, y, v, a, h, g⟩ := spec_DrawIsDug_some l hl hn
  refine ⟨x, y, v, a, Ev.of1 h fun k hk => ?_, g⟩
  simp only [spec_DrawLossAndWaste.f, hk, Option.bind_some]
theorem spec_DrawRowWidth_some (l : List Int) (hl : ∀ x ∈ l, 0 ≤ x ∧ x ≤ 255) (hn : l.length ≤ 9223372036854775807) : ∃ x y v a, Ev (fun k => spec_DrawRowWidth.f k l) (x, y, v, a) ∧ v.length ≤ 48 ∧ a.length ≤ 49 := by
  obtain ⟨x, y, v, a, h, g⟩ := spec_DrawIsDug_some l hl hn
  refine ⟨x, y, v, a, Ev.of1 h fun k hk => ?_, g⟩
  simp only [spec_DrawRowWidth.f, hk, Option.bind_some]
theorem spec_DigValue_ev (x y : Int) (l : List Int) (d : List Bool) (hn : l.length ≤ 9223372036854775807) : Ev (fun k => spec_DigValue.f k x y l d) (if benchOk x y l = true ∧ d.length = l.length then (dugSum l d 0, true) else (0, false)) := by
  by_cases h : benchOk x y l = true ∧ d.length = l.length
  · have hb := bench_len h.1
    refine (ev_and (spec_dgBoth_ev x y l d hn) <| ev_one (spec_dgSum_ev l d (by omega) h.2 (bench_vals h.1))).ev fun k ⟨h1, h2⟩ => ?_
    simp only [spec_DigValue.f, h1, h2, Option.bind_some]
    rw [if_pos (by simpa using h), if_pos h]
  · refine (ev_one (spec_dgBoth_ev x y l d hn)).ev fun k h1 => ?_
    simp only [spec_DigValue.f, h1, Option.bind_some]
    rw [if_neg (by simpa using h), if_neg h]
-- needs: best_model spec_BestDig spec_RowWidth spec_LossAndWaste spec_dgWide spec_dgRuns spec_dgSum
/-! What the law on digs says of the best rows. -/
theorem dugSum_add : ∀ (l : List Int) (d : List Bool) (a : Int), dugSum l d a = a + dugSum l d 0
  | [], d, a => by simp [dugSum]
  | _ :: _, [], a => by simp [dugSum]
  | v :: l, b :: d, a => by
    simp only [dugSum]
    rw [dugSum_add l d, dugSum_add l d (if b = true then 0 + v else 0)]
    split <;> omega
theorem dugSum_app : ∀ (l m : List Int) (d e : List Bool), l.length = d.length → dugSum (l ++ m) (d ++ e) 0 = dugSum l d 0 + dugSum m e 0
  | [], m, [], e, _ => by simp [dugSum]
  | [], m, _ :: _, e, h => by simp at h
  | _ :: _, m, [], e, h => by simp at h
  | v :: l, m, b :: d, e, h => by
    have ih := dugSum_app l m d e (by simpa using h)
    simp only [List.cons_append, dugSum]
    rw [dugSum_add (l ++ m), dugSum_add l, ih]; omega
theorem allWide_mem {w : Int} : ∀ {rs : List Int}, allWide w rs = true → ∀ r ∈ rs, w ≤ r
  | [], _, r, hr => by cases hr
  | s :: rs, h, r, hr => by
    simp only [allWide] at h
    by_cases c : s < w
    · rw [if_pos c] at h; cases h
    · rw [if_neg c] at h
      rcases List.mem_cons.1 hr with rfl | hr
      · omega
      · exact allWide_mem h r hr
theorem allWide_of {w : Int} : ∀ {rs : List Int}, (∀ r ∈ rs, w ≤ r) → allWide w rs = true
  | [], _ => rfl
  | s :: rs, h => by
    have := h s (by simp)
    simp only [allWide]
    rw [if_neg (by omega)]
    exact allWide_of fun r hr => h r (by simp [hr])
/-- What a best row is. -/
def RowOk (l : List Int) (w : Int) (B : List Bool × Int × Int) : Prop := B.1.length = l.length ∧ dugSum l B.1 0 = B.2.1 ∧ allWide w (runs B.1 0) = true
theorem runs_none : ∀ (n : Nat), runs (List.replicate n false) 0 = []
  | 0 => rfl
  | n + 1 => by simp only [List.replicate_succ, runs]; rw [if_neg (by simp), if_neg (by omega)]; exact runs_none n
theorem rowOk_start (l : List Int) (w : Int) : RowOk l w (List.replicate l.length false, 0, 0) :=
  ⟨by simp, (none_sum (List.replicate l.length false) l 0 0 (fun b hb => List.eq_of_mem_replicate hb)).1, by simp only; rw [runs_none]; rfl⟩
theorem rowOk_better {l : List Int} {w m : Int} {B : List Bool × Int × Int} (h : RowOk l w B) : RowOk l w (better l w m B) := by
  unfold better
  split
  · rename_i q
    exact ⟨rowOf_length m l.length, rfl, q.1⟩
  · exact h
theorem rowOk_best (l : List Int) (w : Int) : ∀ (n : Nat) (m : Int) (B : List Bool × Int × Int), RowOk l w B → RowOk l w (bestFrom l w n m B)
  | 0, _, _, h => h
  | n + 1, m, B, h => rowOk_best l w n (m + 1) _ (rowOk_better h)
theorem better_wider {l : List Int} {w m : Int} {B C : List Bool × Int × Int} (h : B.2.1 ≤ C.2.1) : (better l (w + 1) m B).2.1 ≤ (better l w m C).2.1 := by
  by_cases g : allWide (w + 1) (runs (rowOf m l.length) 0) = true
  · have g' : allWide w (runs (rowOf m l.length) 0) = true := allWide_of fun r hr => by have := allWide_mem g r hr; omega
    unfold better
    by_cases p : dugSum l (rowOf m l.length) 0 > B.2.1 ∨ (dugSum l (rowOf m l.length) 0 = B.2.1 ∧ dugCount (rowOf m l.length) 0 < B.2.2) <;> by_cases q : dugSum l (rowOf m l.length) 0 > C.2.1 ∨ (dugSum l (rowOf m l.length) 0 = C.2.1 ∧ dugCount (rowOf m l.length) 0 < C.2.2)
    · rw [if_pos ⟨g, p⟩, if_pos ⟨g', q⟩]; exact Int.le_refl _
    · rw [if_pos ⟨g, p⟩, if_neg (fun z => q z.2)]
      have q1 : ¬ dugSum l (rowOf m l.length) 0 > C.2.1 := fun z => q (.inl z)
      simp only; omega
    · rw [if_neg (fun z => p z.2), if_pos ⟨g', q⟩]
      simp only
      rcases q with q | q <;> omega
    · rw [if_neg (fun z => p z.2), if_neg (fun z => q z.2)]; exact h
  · have e : better l (w + 1) m B = B := by unfold better; rw [if_neg (fun z => g z.1)]
    rw [e]
    unfold better
    split
    · rename_i q
      simp only
      rcases q.2 with q | q <;> omega
    · exact h
theorem best_wider (l : List Int) (w : Int) : ∀ (n : Nat) (m : Int) (B C : List Bool × Int × Int), B.2.1 ≤ C.2.1 → (bestFrom l (w + 1) n m B).2.1 ≤ (bestFrom l w n m C).2.1
  | 0, _, _, _, h => h
  | n + 1, m, B, C, h => best_wider l w n (m + 1) _ _ (better_wider h)
theorem rowBest_wider (w : Int) (r : List Int) : (rowBest (w + 1) r).2 ≤ (rowBest w r).2 := best_wider r w _ 1 _ _ (Int.le_refl _)
theorem digRows_wider (l : List Int) (w : Nat) (wd : Int) : ∀ m y, (digRows (rowBest (wd + 1)) l w m y).2 ≤ (digRows (rowBest wd) l w m y).2
  | 0, _ => Int.le_refl _
  | m + 1, y => by
    have a := rowBest_wider wd ((l.drop (y * w)).take w)
    have b := digRows_wider l w wd m (y + 1)
    simp only [digRows]; omega
theorem rowBest_ok (w : Int) (r : List Int) : (rowBest w r).1.length = r.length ∧ dugSum r (rowBest w r).1 0 = (rowBest w r).2 ∧ allWide w (runs (rowBest w r).1 0) = true := rowOk_best r w _ 1 _ (rowOk_start r w)
/-- The dug cells of m rows from row y on: their number, their sum, their rows. -/
theorem digRows_ok (l : List Int) (w : Nat) (wd : Int) (h : Nat) (hl : l.length = h * w) : ∀ m y, y + m = h →
    (digRows (rowBest wd) l w m y).1.length = m * w ∧ dugSum (l.drop (y * w)) (digRows (rowBest wd) l w m y).1 0 = (digRows (rowBest wd) l w m y).2 ∧
      ∀ j, j < m → allWide wd (runs (((digRows (rowBest wd) l w m y).1.drop (j * w)).take w) 0) = true
  | 0, y, hy => by
    refine ⟨by simp [digRows], ?_, fun j hj => by omega⟩
    simp only [digRows]
    cases l.drop (y * w) <;> simp [dugSum]
  | m + 1, y, hy => by
    have ok := rowBest_ok wd ((l.drop (y * w)).take w)
    obtain ⟨i1, i2, i3⟩ := digRows_ok l w wd h hl m (y + 1) (by omega)
    have e1 : (y + 1) * w = y * w + w := Nat.succ_mul y w
    have e2 : (m + 1) * w = m * w + w := Nat.succ_mul m w
    have e3 : h * w = y * w + (m * w + w) := by rw [← hy, Nat.add_mul, e2]
    have len : ((l.drop (y * w)).take w).length = w := by rw [List.length_take, List.length_drop]; omega
    have cut : l.drop (y * w) = (l.drop (y * w)).take w ++ l.drop ((y + 1) * w) := by
      rw [e1, ← List.drop_drop]; exact (List.take_append_drop w _).symm
    rw [len] at ok
    simp only [digRows]
    refine ⟨by rw [List.length_append, ok.1, i1]; omega, ?_, fun j hj => ?_⟩
    · have e := dugSum_app ((l.drop (y * w)).take w) (l.drop ((y + 1) * w)) (rowBest wd ((l.drop (y * w)).take w)).1 (digRows (rowBest wd) l w m (y + 1)).1 (by rw [ok.1, len])
      rw [← cut, ok.2.1, i2] at e
      exact e
    · rcases Nat.eq_zero_or_pos j with z | z
      · subst z
        rw [Nat.zero_mul, List.drop_zero, List.take_left' ok.1]
        exact ok.2.2
      · have e4 : j * w = w + (j - 1) * w := by
          obtain ⟨q, rfl⟩ : ∃ q, j = q + 1 := ⟨j - 1, by omega⟩
          rw [Nat.succ_mul, Nat.add_sub_cancel]; omega
        have d0 : ((rowBest wd ((l.drop (y * w)).take w)).1 ++ (digRows (rowBest wd) l w m (y + 1)).1).drop (j * w) = (digRows (rowBest wd) l w m (y + 1)).1.drop ((j - 1) * w) := by
          rw [e4, ← List.drop_drop, List.drop_left' ok.1]
        rw [d0]
        exact i3 (j - 1) (by omega)
theorem lessAll_wide {w : Int} (hw : 1 ≤ w) : ∀ (rs : List Int) (b : Int), (b = 0 ∨ w ≤ b) → (∀ r ∈ rs, w ≤ r) → (lessAll b rs = 0 ∧ b = 0 ∧ rs = []) ∨ w ≤ lessAll b rs
  | [], b, hb, _ => by simp only [lessAll]; rcases hb with h | h <;> simp [h]
  | r :: rs, b, hb, hr => by
    have h1 := hr r (by simp)
    have h2 : w ≤ less b r := by
      unfold less
      by_cases c : b = 0
      · rw [if_pos c]; exact h1
      · rw [if_neg c]
        by_cases e : r < b
        · rw [if_pos e]; exact h1
        · rw [if_neg e]; omega
    simp only [lessAll]
    rcases lessAll_wide hw rs (less b r) (.inr h2) (fun q hq => hr q (by simp [hq])) with g | g
    · exfalso
      omega
    · exact .inr g
theorem widths_wide (d : List Bool) (w : Nat) {wd : Int} (hwd : 1 ≤ wd) : ∀ (m y : Nat) (b : Int), (b = 0 ∨ wd ≤ b) → (∀ j, y ≤ j → j < y + m → allWide wd (runs ((d.drop (j * w)).take w) 0) = true) →
    (widths d w m y b = 0 ∧ b = 0 ∧ ∀ j, y ≤ j → j < y + m → runs ((d.drop (j * w)).take w) 0 = []) ∨ wd ≤ widths d w m y b
  | 0, y, b, hb, _ => by
    simp only [widths]
    rcases hb with h | h
    · exact .inl ⟨h, h, fun j h1 h2 => by omega⟩
    · exact .inr h
  | m + 1, y, b, hb, hj => by
    have w0 := allWide_mem (hj y (by omega) (by omega))
    simp only [widths]
    rcases lessAll_wide hwd (runs ((d.drop (y * w)).take w) 0) b hb w0 with g | g
    · rcases widths_wide d w hwd m (y + 1) (lessAll b (runs ((d.drop (y * w)).take w) 0)) (.inl g.1) (fun j h1 h2 => hj j (by omega) (by omega)) with q | q
      · refine .inl ⟨q.1, g.2.1, fun j h1 h2 => ?_⟩
        by_cases e : j = y
        · subst e; exact g.2.2
        · exact q.2.2 j (by omega) (by omega)
      · exact .inr q
    · rcases widths_wide d w hwd m (y + 1) (lessAll b (runs ((d.drop (y * w)).take w) 0)) (.inr g) (fun j h1 h2 => hj j (by omega) (by omega)) with q | q
      · omega
      · exact .inr q
/-- All rows without a dug cell: no cell is dug. -/
theorem rows_none (d : List Bool) (w h : Nat) (hw : 1 ≤ w) (hd : d.length = h * w) (hr : ∀ j, j < h → runs ((d.drop (j * w)).take w) 0 = []) : d.count true = 0 := by
  rw [List.count_eq_zero]
  intro hm
  obtain ⟨i, hi⟩ := List.mem_iff_getElem?.1 hm
  have il : i < d.length := (List.getElem?_eq_some_iff.1 hi).1
  have q : i / w < h := Nat.div_lt_of_lt_mul (by rw [Nat.mul_comm]; omega)
  have n := (runs_nil ((d.drop (i / w * w)).take w) 0 (by omega) (hr (i / w) q)).2
  have dm := Nat.div_add_mod i w
  have ml := Nat.mod_lt i hw
  have mem : true ∈ (d.drop (i / w * w)).take w := by
    apply List.mem_iff_getElem?.2
    refine ⟨i % w, ?_⟩
    rw [List.getElem?_take, if_pos ml, List.getElem?_drop, Nat.mul_comm, dm, hi]
  have := n true mem
  cases this
theorem runs_some {w : Nat} (d : List Bool) (h : Nat) (j : Nat) (hj : runs ((d.drop (j * w)).take w) 0 ≠ []) : 0 < d.count true := by
  by_cases z : ∀ b ∈ (d.drop (j * w)).take w, b = false
  · have e : (d.drop (j * w)).take w = List.replicate ((d.drop (j * w)).take w).length false := List.eq_replicate_iff.2 ⟨rfl, z⟩
    rw [e, runs_none] at hj
    exact absurd rfl hj
  · obtain ⟨b, hb⟩ : ∃ b, b ∈ (d.drop (j * w)).take w ∧ ¬ b = false := by
      refine Classical.byContradiction fun q => z fun b hb => ?_
      exact Classical.byContradiction fun p => q ⟨b, hb, p⟩
    have bt : b = true := by simpa using hb.2
    have : true ∈ d := bt ▸ List.mem_of_mem_drop (List.mem_of_mem_take hb.1)
    exact List.count_pos_iff.2 this
def plusSum : List Int → Int
  | [] => 0
  | v :: vs => max 0 v + plusSum vs
theorem loss_law : ∀ (l : List Int) (d : List Bool) (a b : Int), l.length = d.length → plusSum l - (lossWaste l d a b).1 - (lossWaste l d a b).2 = dugSum l d 0 - a - b
  | [], [], a, b, _ => by simp only [plusSum, lossWaste, dugSum]
  | [], _ :: _, a, b, h => by simp at h
  | _ :: _, [], a, b, h => by simp at h
  | v :: l, true :: d, a, b, h => by
    have ih := loss_law l d a (b + max 0 (-v)) (by simpa using h)
    simp only [plusSum, lossWaste, dugSum, if_true]
    rw [dugSum_add l d (0 + v)]; omega
  | v :: l, false :: d, a, b, h => by
    have ih := loss_law l d (a + max 0 v) b (by simpa using h)
    simp only [plusSum, lossWaste, dugSum, Bool.false_eq_true, if_false]
    omega
theorem plus_bd : ∀ (l : List Int), allIn (-1000000) 1000000 l = true → 0 ≤ plusSum l ∧ plusSum l ≤ 1000000 * (l.length : Int)
  | [], _ => by simp [plusSum]
  | v :: l, h => by
    simp only [allIn, Bool.and_eq_true, decide_eq_true_eq] at h
    have ih := plus_bd l h.2
    simp only [plusSum, List.length_cons]; push_cast; omega
theorem lossWaste_bd : ∀ (l : List Int) (d : List Bool) (a b : Int), allIn (-1000000) 1000000 l = true → 0 ≤ a → 0 ≤ b → a ≤ (lossWaste l d a b).1 ∧ (lossWaste l d a b).1 ≤ a + 1000000 * (l.length : Int) ∧ b ≤ (lossWaste l d a b).2 ∧ (lossWaste l d a b).2 ≤ b + 1000000 * (l.length : Int)
  | [], d, a, b, _, ha, hb => by cases d <;> simp only [lossWaste, List.length_nil] <;> omega
  | v :: l, [], a, b, _, ha, hb => by simp only [lossWaste, List.length_cons]; push_cast; omega
  | v :: l, c :: d, a, b, h, ha, hb => by
    simp only [allIn, Bool.and_eq_true, decide_eq_true_eq] at h
    cases c
    · have ih := lossWaste_bd l d (a + max 0 v) b h.2 (by omega) hb
      simp only [lossWaste, Bool.false_eq_true, if_false, List.length_cons]; push_cast; omega
    · have ih := lossWaste_bd l d a (b + max 0 (-v)) h.2 ha (by omega)
      simp only [lossWaste, if_true, List.length_cons]; push_cast; omega
-- needs: digs_props
theorem laws_j3 (m : List Int) (hm : ∀ x ∈ m, 0 ≤ x ∧ x ≤ 255) (hn : m.length ≤ 9223372036854775807) : Ev (fun k => laws_FnDigs.j3 k m) true := by
  obtain ⟨r, w, d1, b1⟩ := spec_DrawBestRow_some m hm hn
  obtain ⟨x, y, v, a, d2, b2, b3⟩ := spec_DrawLossAndWaste_some m hm hn
  obtain ⟨x', y', v', a', d3, b4, b5⟩ := spec_DrawRowWidth_some m hm hn
  have bl := bestRow_len r w
  refine (ev_and d1 <| ev_and (impl_BestRow_ev r w (by omega)) <| ev_and (spec_BestRow_ev r w (by omega)) <| ev_and d2 <| ev_and (impl_LossAndWaste_ev x y v a (by omega)) <| ev_and (spec_LossAndWaste_ev x y v a (by omega)) <| ev_and d3 <| ev_and (impl_RowWidth_ev x' y' v' a' (by omega)) <| ev_and (spec_RowWidth_ev x' y' v' a' (by omega)) <| ev_and (impl_DigValue_ev x' y' v' a' (by omega)) <| ev_and (spec_DigValue_ev x' y' v' a' (by omega)) <| ev_one (laws_pSameBools_ev (bestRow r w).1 (by omega))).next
    fun k ⟨e1, e2, e3, e4, e5, e6, e7, e8, e9, e10, e11, e12⟩ => ?_
  simp only [laws_FnDigs.j3, e1, e2, e3, e4, e5, e6, e7, e8, e9, e10, e11, e12, Option.bind_some]
  rw [if_pos (by simp), if_pos trivial, if_pos trivial, if_pos (by simp), if_pos trivial, if_pos trivial, if_pos (by simp), if_pos trivial, if_pos (by simp)]
  simp
theorem laws_j2 (m : List Int) (hm : ∀ x ∈ m, 0 ≤ x ∧ x ≤ 255) (hn : m.length ≤ 9223372036854775807) (x y : Int) (v : List Int) (w : Int) (hb : benchOk x y v = true) (hw : 1 ≤ w ∧ w ≤ 8) : Ev (fun k => laws_FnDigs.j2 k m w (digRows (rowBest w) v x.toNat y.toNat 0).2 false x y v) true := by
  have bl := bench_len hb
  refine (ev_and (impl_BestDig_ev x y v (w + 1) (by omega)) <| ev_one (laws_j3 m hm hn)).next fun k ⟨e1, e2⟩ => ?_
  simp only [laws_FnDigs.j2]
  rw [if_neg (by simp), wrap_id (by omega) (by omega), e1, Option.bind_some]
  by_cases c : w < 8
  · have wd := digRows_wider v x.toNat w y.toNat 0
    have bd : bestDig x y v (w + 1) = ((digRows (rowBest (w + 1)) v x.toNat y.toNat 0).1, (digRows (rowBest (w + 1)) v x.toNat y.toNat 0).2, true) := by rw [bestDig, if_pos ⟨hb, by omega, by omega⟩]
    rw [if_pos c, bd, if_pos rfl, if_neg (by simp only; omega), e2]
  · rw [if_neg c, e2]
theorem laws_l0 (m : List Int) (hm : ∀ x ∈ m, 0 ≤ x ∧ x ≤ 255) (hn : m.length ≤ 9223372036854775807) (x y : Int) (v : List Int) (w : Int) (hb : benchOk x y v = true) (hw : 1 ≤ w ∧ w ≤ 8) :
    ∀ (ys : List Int) (i : Nat) (a : Int), v.drop i = ys → (∀ n ∈ ys, n ≤ 1000000) → 0 ≤ a → a ≤ 1000000 * (i : Int) → a + plusSum ys = plusSum v →
    Ev (fun k => laws_FnDigs.l0 k m w (digRows (rowBest w) v x.toNat y.toNat 0).1 (digRows (rowBest w) v x.toNat y.toNat 0).2 (digRows (rowBest w) v x.toNat y.toNat 0).2 true (rowWidth x y v (digRows (rowBest w) v x.toNat y.toNat 0).1).1 (rowWidth x y v (digRows (rowBest w) v x.toNat y.toNat 0).1).2
      (lossWaste v (digRows (rowBest w) v x.toNat y.toNat 0).1 0 0).1 (lossWaste v (digRows (rowBest w) v x.toNat y.toNat 0).1 0 0).2 true a v (v.length : Int) i x y v) true
  | [], i, a, h, hv, h0, h1, hs => by
      have g := drop_nil h
      have bl := bench_len hb
      have hyx : v.length = y.toNat * x.toNat := by
        have e : ((y.toNat * x.toNat : Nat) : Int) = x * y := by
          push_cast
          rw [show ((y.toNat : Nat) : Int) = y by omega, show ((x.toNat : Nat) : Int) = x by omega, Int.mul_comm]
        omega
      obtain ⟨o1, o2, o3⟩ := digRows_ok v x.toNat w y.toNat hyx y.toNat 0 (by omega)
      rw [Nat.zero_mul, List.drop_zero] at o2
      have nn : 0 ≤ (digRows (rowBest w) v x.toNat y.toNat 0).2 := by
        have z : ∀ m y', 0 ≤ (digRows (rowBest w) v x.toNat m y').2 := fun m => by
          induction m with
          | zero => intro y'; exact Int.le_refl _
          | succ m ih =>
            intro y'
            have a := ih (y' + 1)
            have b : ∀ (n : Nat) (q : Int) (B : List Bool × Int × Int), 0 ≤ B.2.1 → 0 ≤ (bestFrom ((v.drop (y' * x.toNat)).take x.toNat) w n q B).2.1 := fun n => by
              induction n with
              | zero => intro q B hB; exact hB
              | succ n ih =>
                intro q B hB
                refine ih (q + 1) _ ?_
                unfold better
                split
                · rename_i z
                  try simp only
                  rcases z.2 with z | z <;> omega
                · exact hB
            have c := b (2 ^ ((v.drop (y' * x.toNat)).take x.toNat).length - 1) 1 (List.replicate ((v.drop (y' * x.toNat)).take x.toNat).length false, 0, 0) (Int.le_refl _)
            simp only [digRows, rowBest]
            omega
        exact z _ _
      have lw := loss_law v (digRows (rowBest w) v x.toNat y.toNat 0).1 0 0 (by omega)
      have pb := plus_bd v (bench_vals hb)
      have lb := lossWaste_bd v (digRows (rowBest w) v x.toNat y.toNat 0).1 0 0 (bench_vals hb) (Int.le_refl _) (Int.le_refl _)
      have rw_ : rowWidth x y v (digRows (rowBest w) v x.toNat y.toNat 0).1 = (widths (digRows (rowBest w) v x.toNat y.toNat 0).1 x.toNat y.toNat 0 0, decide (widths (digRows (rowBest w) v x.toNat y.toNat 0).1 x.toNat y.toNat 0 0 > 0)) := by
        rw [rowWidth, if_pos ⟨hb, by omega⟩]
      have ww := widths_wide (digRows (rowBest w) v x.toNat y.toNat 0).1 x.toNat hw.1 y.toNat 0 0 (.inl rfl) (fun j _ hj => o3 j (by omega))
      have j2 := laws_j2 m hm hn x y v w hb hw
      have ct := laws_pCount_ev (digRows (rowBest w) v x.toNat y.toNat 0).1 (by omega)
      have fin : ((wrap64 ((wrap64 (a - (lossWaste v (digRows (rowBest w) v x.toNat y.toNat 0).1 0 0).1)) - (lossWaste v (digRows (rowBest w) v x.toNat y.toNat 0).1 0 0).2)) != (digRows (rowBest w) v x.toNat y.toNat 0).2) = false := by
        simp only [plusSum] at hs
        rw [wrap_id (x := a - (lossWaste v (digRows (rowBest w) v x.toNat y.toNat 0).1 0 0).1) (by omega) (by omega), wrap_id (by omega) (by omega), show a - (lossWaste v (digRows (rowBest w) v x.toNat y.toNat 0).1 0 0).1 - (lossWaste v (digRows (rowBest w) v x.toNat y.toNat 0).1 0 0).2 = (digRows (rowBest w) v x.toNat y.toNat 0).2 by omega, bne_self_eq_false]
      refine (ev_and ct <| ev_one j2).next fun k ⟨e1, e2⟩ => ?_
      simp only [laws_FnDigs.l0, rw_]
      rw [if_neg (by omega), if_pos trivial, if_pos trivial, if_neg (by omega)]
      by_cases p : widths (digRows (rowBest w) v x.toNat y.toNat 0).1 x.toNat y.toNat 0 0 > 0
      · rcases ww with q | q
        · omega
        · have has_ : 0 < (digRows (rowBest w) v x.toNat y.toNat 0).1.count true := by
            refine Classical.byContradiction fun n => ?_
            have all : ∀ j, j < y.toNat → runs (((digRows (rowBest w) v x.toNat y.toNat 0).1.drop (j * x.toNat)).take x.toNat) 0 = [] := fun j hj => Classical.byContradiction fun z => n (runs_some _ y.toNat j z)
            have zz : ∀ (m y' : Nat), y' + m ≤ y.toNat → widths (digRows (rowBest w) v x.toNat y.toNat 0).1 x.toNat m y' 0 = 0 := fun m => by
              induction m with
              | zero => intro y' _; rfl
              | succ m ih => intro y' hy'; simp only [widths]; rw [all y' (by omega)]; exact ih (y' + 1) (by omega)
            have := zz y.toNat 0 (by omega)
            omega
          rw [decide_eq_true p, if_pos rfl, if_neg (by omega), e1, Option.bind_some, if_neg (by rw [decide_eq_true (by omega)]; simp), if_pos trivial, fin, e2]
      · have no_ : (digRows (rowBest w) v x.toNat y.toNat 0).1.count true = 0 := by
          rcases ww with q | q
          · exact rows_none _ x.toNat y.toNat (by omega) o1 (fun j hj => q.2.2 j (by omega) (by omega))
          · omega
        rw [decide_eq_false p, if_neg (by simp), e1, Option.bind_some, no_, if_neg (by simp), if_pos trivial, fin, e2]
  | n :: ys, i, a, h, hv, h0, h1, hs => by
      obtain ⟨g1, g2, g3⟩ := drop_cons h
      have bl := bench_len hb
      have nv := hv n (by simp)
      simp only [plusSum] at hs
      by_cases c : n > 0
      · refine Ev.next1 (laws_l0 m hm hn x y v w hb hw ys (i + 1) (a + n) g3 (fun q hq => hv q (by simp [hq])) (by omega) (by push_cast; omega) (by omega)) fun k hk => ?_
        simp only [laws_FnDigs.l0]
        rw [if_pos (by omega), if_pos (by omega), if_pos (by omega), rd_drop h, if_pos c, wrap_succ g1 (by omega), wrap_id (x := a + n) (by omega) (by omega)]
        exact hk
      · refine Ev.next1 (laws_l0 m hm hn x y v w hb hw ys (i + 1) a g3 (fun q hq => hv q (by simp [hq])) (by omega) (by push_cast; omega) (by omega)) fun k hk => ?_
        simp only [laws_FnDigs.l0]
        rw [if_pos (by omega), if_pos (by omega), if_pos (by omega), rd_drop h, if_neg c, wrap_succ g1 (by omega)]
        exact hk
theorem laws_j0 (m : List Int) (hm : ∀ x ∈ m, 0 ≤ x ∧ x ≤ 255) (hn : m.length ≤ 9223372036854775807) (x y : Int) (v : List Int) (w : Int) (hv : v.length ≤ 48) :
    Ev (fun k => laws_FnDigs.j0 k m w (bestDig x y v w).1 (bestDig x y v w).2.2 (bestDig x y v w).1 (bestDig x y v w).2.1 false x y v) true := by
  unfold bestDig
  by_cases h : benchOk x y v = true ∧ (1 ≤ w ∧ w ≤ 8)
  · rw [if_pos h]
    have bl := bench_len h.1
    have hyx : v.length = y.toNat * x.toNat := by
      have e : ((y.toNat * x.toNat : Nat) : Int) = x * y := by
        push_cast
        rw [show ((y.toNat : Nat) : Int) = y by omega, show ((x.toNat : Nat) : Int) = x by omega, Int.mul_comm]
      omega
    obtain ⟨o1, o2, o3⟩ := digRows_ok v x.toNat w y.toNat hyx y.toNat 0 (by omega)
    rw [Nat.zero_mul, List.drop_zero] at o2
    have both : benchOk x y v = true ∧ (digRows (rowBest w) v x.toNat y.toNat 0).1.length = v.length := ⟨h.1, by omega⟩
    have a1 := impl_DigValue_ev x y v (digRows (rowBest w) v x.toNat y.toNat 0).1 (by omega)
    have a2 := impl_RowWidth_ev x y v (digRows (rowBest w) v x.toNat y.toNat 0).1 (by omega)
    have a3 := impl_LossAndWaste_ev x y v (digRows (rowBest w) v x.toNat y.toNat 0).1 (by omega)
    rw [if_pos both, o2] at a1
    rw [lossOf, if_pos both] at a3
    have l0 := laws_l0 m hm hn x y v w h.1 h.2 v 0 0 rfl (fun n hn' => (allIn_mem (bench_vals h.1) n hn').2) (by omega) (by omega) (by omega)
    refine (ev_and a1 <| ev_and a2 <| ev_and a3 <| ev_one l0).next fun k ⟨e1, e2, e3, e4⟩ => ?_
    simp only [laws_FnDigs.j0, e1, e2, e3, Option.bind_some]
    rw [if_neg (by simp), if_pos trivial]
    exact e4
  · rw [if_neg h]
    refine Ev.next1 (laws_j3 m hm hn) fun k hk => ?_
    simp only [laws_FnDigs.j0]
    rw [if_neg (by simp), if_neg (by simp)]
    exact hk
theorem FnDigs : Stat.FnDigs := by
  intro l0 l1 h0 h1
  refine Ev.rounds ?_
  obtain ⟨b, hb⟩ := laws_big_eq l0 l1
  by_cases hg : b = true
  · refine Ev.all fun k => ?_
    simp only [laws_FnDigs.f, hb, Option.bind_some]
    rw [if_pos hg]
  · obtain ⟨x, y, v, w, d1, m1, m2⟩ := spec_DrawBestDig_some l0 (fun x hx => wf_u8 (h0.2 x hx)) h0.1
    have bl := bestDig_len x y v w
    refine (ev_and d1 <| ev_and (impl_BestDig_ev x y v w (by omega)) <| ev_and (spec_BestDig_ev x y v w (by omega)) <| ev_and (laws_pSameBools_ev (bestDig x y v w).1 (by omega)) <| ev_and (impl_IsBench_ev x y v (by omega)) <| ev_and (spec_IsBench_ev x y v (by omega)) <| ev_one (laws_j0 l1 (fun x hx => wf_u8 (h1.2 x hx)) h1.1 x y v w m1)).ev fun k ⟨e1, e2, e3, e4, e5, e6, e7⟩ => ?_
    simp only [laws_FnDigs.f, hb, e1, e2, e3, e4, e5, e6, Option.bind_some]
    rw [if_neg hg, if_neg (by simp), if_pos trivial, if_pos trivial, bne_self_eq_false]
    exact e7
end Go.Proofs.Ytinfalmpncfneaa.PureFnDigs
namespace Go.Proofs.Ytinfalmpncfneaa.Pure
theorem FnDigs : Stat.FnDigs := PureFnDigs.FnDigs
end Go.Proofs.Ytinfalmpncfneaa.Pure
