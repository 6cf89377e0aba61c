/- The law FnExactDestinationSums: for every input that can be read, the call returns true, and every argument reads afterwards as before. -/
import Derived.Test.YtloddihakhgcdaaRows
import Derived.Test.YtloddihakhgcdaaPFnExactDestinationSumsx17
import Derived.Test.YtloddihakhgcdaaPureFnExactDestinationSums
import Derived.WalkKit
import Derived.ProofKit
import Derived.OpenShut
import Derived.ShutString
import Derived.ChangeOld
import Derived.Below
import Derived.SizedLaws
import Derived.ChangeArms
import Derived.Deep.Slices
import Derived.Test.YtloddihakhgcdaaWMore
import Derived.Test.YtloddihakhgcdaaWShare
set_option linter.unusedVariables false
namespace Go.Proofs.Ytloddihakhgcdaa.Opening
open Go.ChangeShapes Go.WideShapes Go.RowKit Go.Deep Go.Proofs.YtloddihakhgcdaaW.PrintWords
/-- Cells of type t read as something of kind d, of which V holds. -/
structure Opn (P : Program) (t : TypeId) {α : Type} (d : Kd α) (V : α → Prop) : Prop where
  size : P.cellsOf t = d.sz
  read : ∀ {H : Type} {enc : TypeId × Value → H} {w : World} {base : Nat} {sp : Nat → Bool} {hd : Bool} {fuel : Nat} {cs : List Value} {x : DataW H × List MemPlace},
    DataW.trod enc P w base sp hd fuel t cs = some x → ∃ a, V a ∧ d.K w a cs
def WfI (k : IntKind) (n : Int) : Prop := (Lit.int k n).wf = true
def Any {α : Type} (_ : α) : Prop := True
def AllOf {α : Type} (V : α → Prop) (xs : List α) : Prop := xs.length ≤ 9223372036854775807 ∧ ∀ x ∈ xs, V x
def Two {α β : Type} (V : α → Prop) (V' : β → Prop) (x : α × β) : Prop := V x.1 ∧ V' x.2
/-- The fields fs, from offset o on. -/
structure OpnF (P : Program) (fs : List Field) (o : Nat) {α : Type} (d : Kd α) (V : α → Prop) : Prop where
  read : ∀ {H : Type} {enc : TypeId × Value → H} {w : World} {base : Nat} {sp : Nat → Bool} {hd : Bool} {fuel : Nat} {cs : List Value}, cs.length = o + d.sz →
    (∀ (i : Nat) (f : Field), fs[i]? = some f → ∃ x, DataW.trod enc P w base sp hd fuel f.type ((cs.drop f.offset).take (P.cellsOf f.type)) = some x) → ∃ a, V a ∧ d.K w a (cs.drop o)
theorem opn_int {P : Program} {t : TypeId} {k : IntKind} (ht : P.underlying t = some (.int k)) (hc : P.cellsOf t = 1) : Opn P t (Kd.int k) (WfI k) :=
  ⟨hc, fun h => by
    obtain ⟨n, rfl, _, hw⟩ := DataW.trod_int ht h
    exact ⟨n, hw, rfl⟩⟩
theorem opn_bool {P : Program} {t : TypeId} (ht : P.underlying t = some .bool) (hc : P.cellsOf t = 1) : Opn P t Kd.bool Any :=
  ⟨hc, fun h => by
    obtain ⟨b, rfl, _⟩ := DataW.trod_bool ht h
    exact ⟨b, trivial, rfl⟩⟩
theorem choose_to {α : Type} {n : Nat} {p : Nat → α → Prop} (h : ∀ i, i < n → ∃ a, p i a) : ∃ xs : List α, xs.length = n ∧ ∀ i x, xs[i]? = some x → p i x := by
  induction n with
  | zero => exact ⟨[], rfl, fun i x hx => by simp at hx⟩
  | succ n ih =>
    obtain ⟨xs, hl, hx⟩ := ih (fun i hi => h i (by omega))
    obtain ⟨a, ha⟩ := h n (by omega)
    refine ⟨xs ++ [a], by simp [hl], fun i x hi => ?_⟩
    by_cases hlt : i < xs.length
    · rw [List.getElem?_append_left hlt] at hi
      exact hx i x hi
    · rw [List.getElem?_append_right (by omega)] at hi
      have hz : i - xs.length = 0 := by
        by_cases hz : i - xs.length = 0
        · exact hz
        · rw [List.getElem?_eq_none (by simp; omega)] at hi
          cases hi
      rw [hz] at hi
      simp only [List.getElem?_cons_zero, Option.some.injEq] at hi
      subst hi
      have : i = n := by omega
      subst this
      exact ha
theorem opn_slice {P : Program} {t e : TypeId} {α : Type} {d : Kd α} {V : α → Prop} (ht : P.underlying t = some (.slice e)) (hc : P.cellsOf t = 1) (he : Opn P e d V) :
    Opn P t (Kd.slice e d) (AllOf V) :=
  ⟨hc, fun {H enc w base sp hd fuel cs x} h => by
    rcases open_slice ht h with ⟨rfl, _⟩ | ⟨a, len, cap, m, n, D, Pl, rfl, hb, hl, hm, hmm, _, hx⟩
    · exact ⟨[], ⟨by simp, by simp⟩, none, 0, rfl, Nat.le_refl _, rfl, by simp, fun hp => by simp at hp⟩
    · have hle : len ≤ m := by rw [hmm]; split <;> omega
      have hex : ∀ i, i < len → ∃ y : α, V y ∧ ∃ c, c.length = d.sz ∧ d.K w y c ∧ ∀ j u, c[j]? = some u → w.cell? (a.add (i * d.sz + j)) = some u := by
        intro i hi
        obtain ⟨cs', h1, h2⟩ := hx i (by omega)
        obtain ⟨y, hy, hk⟩ := he.read h2
        refine ⟨y, hy, cs', d.K_len hk, hk, fun j u hu => ?_⟩
        obtain ⟨_, hlen, hcell⟩ := World.cells?_some h1
        have hj : j < P.cellsOf e := by
          have := (List.getElem?_eq_some_iff.1 hu).1
          omega
        have h3 := hcell j hj
        rw [Go.Deep.add_add, he.size] at h3
        rw [h3, hu]
      obtain ⟨ys, hyl, hy⟩ := choose_to hex
      have hlen : len ≤ 9223372036854775807 := by
        have : maxLen = 9223372036854775807 := by decide
        omega
      refine ⟨ys, ⟨by omega, fun y hym => ?_⟩, some a, cap, by rw [hyl], by omega, rfl, by omega, fun hp => ⟨a, rfl, fun j p hj => ?_⟩⟩
      · obtain ⟨i, hi⟩ := List.getElem?_of_mem hym
        exact (hy i y hi).1
      · obtain ⟨_, c, h1, h2, h3⟩ := hy j p hj
        exact ⟨c, h1, h2, h3⟩⟩
theorem opnF_one {P : Program} {f : Field} {o : Nat} {α : Type} {d : Kd α} {V : α → Prop} (ho : f.offset = o) (h : Opn P f.type d V) : OpnF P [f] o d V :=
  ⟨fun {H enc w base sp hd fuel cs} hl hx => by
    obtain ⟨x, hx⟩ := hx 0 f rfl
    obtain ⟨a, ha, hk⟩ := h.read hx
    refine ⟨a, ha, ?_⟩
    rw [ho, h.size, List.take_of_length_le (by rw [List.length_drop]; omega)] at hk
    exact hk⟩
theorem opnF_cons {P : Program} {f : Field} {fs : List Field} {o : Nat} {α β : Type} {d : Kd α} {d' : Kd β} {V : α → Prop} {V' : β → Prop} (ho : f.offset = o) (h : Opn P f.type d V) (h' : OpnF P fs (o + d.sz) d' V') :
    OpnF P (f :: fs) o (Kd.pair d d') (Two V V') :=
  ⟨fun {H enc w base sp hd fuel cs} hl hx => by
    obtain ⟨x, hx0⟩ := hx 0 f rfl
    obtain ⟨a, ha, hk⟩ := h.read hx0
    have hsz : (Kd.pair d d').sz = d.sz + d'.sz := rfl
    obtain ⟨b, hb, hk'⟩ := h'.read (fuel := fuel) (enc := enc) (w := w) (base := base) (sp := sp) (hd := hd) (cs := cs) (by omega) (fun i g hg => hx (i + 1) g (by simpa using hg))
    rw [ho, h.size] at hk
    refine ⟨(a, b), ⟨ha, hb⟩, _, _, ?_, hk, hk'⟩
    rw [← List.drop_drop, List.take_append_drop]⟩
theorem opn_struct {P : Program} {t : TypeId} {fs : List Field} {α : Type} {d : Kd α} {V : α → Prop} (ht : P.underlying t = some (.struct fs.toArray)) (hc : P.cellsOf t = d.sz) (h : OpnF P fs 0 d V) : Opn P t d V :=
  ⟨hc, fun {H enc w base sp hd fuel cs x} hx => by
    obtain ⟨xs, n, _, _, hl, hlen, hf⟩ := DataW.trod_struct ht hx
    obtain ⟨a, ha, hk⟩ := h.read (fuel := n) (enc := enc) (w := w) (base := base) (sp := sp) (hd := hd) (cs := cs) (by omega) (fun i f hg => by
      have hi : i < fs.length := (List.getElem?_eq_some_iff.1 hg).1
      have hlen' : xs.length = fs.length := by simpa using hlen
      refine ⟨xs[i]'(by omega), ?_⟩
      rw [hf i f (by simpa using hg)]
      exact List.getElem?_eq_getElem _)
    exact ⟨a, ha, by simpa using hk⟩⟩
/-- A Lean structure for a tuple of fields. -/
theorem opn_iso {P : Program} {t : TypeId} {α β : Type} {d : Kd α} {V : α → Prop} (g : β → α) (g' : α → β) (hg : ∀ x, g (g' x) = x) (h : Opn P t d V) : Opn P t (Kd.iso d g) (fun x => V (g x)) :=
  ⟨h.size, fun hx => by
    obtain ⟨a, ha, hk⟩ := h.read hx
    exact ⟨g' a, by rw [hg]; exact ha, by show d.K _ (g (g' a)) _; rw [hg]; exact hk⟩⟩
/-- An argument's value, by its kind. -/
theorem opn_arg {P : Program} {t : TypeId} {α : Type} {d : Kd α} {V : α → Prop} (h : Opn P t d V) {H : Type} {enc : TypeId × Value → H} {w : World} {base : Nat} {sp : Nat → Bool} {hd : Bool} {v : Value} {x : DataW H} {p : List MemPlace}
    (hx : DataW.Trod enc P w base sp hd t v x p) : ∃ a, V a ∧ d.K w a v.cells.toList := by
  obtain ⟨fuel, hf⟩ := hx
  exact h.read hf
theorem agg_of {cs : Array Value} {l : List Value} (h : cs.toList = l) : cs = l.toArray := by rw [← h]
theorem wf_i64 {n : Int} (h : (Lit.int .i64 n).wf = true) : -9223372036854775808 ≤ n ∧ n ≤ 9223372036854775807 := by
  simp [Lit.wf, IntKind.min, IntKind.max, IntKind.signed, IntKind.bits] at h
  omega
end Go.Proofs.Ytloddihakhgcdaa.Opening
namespace Go.Proofs.Ytloddihakhgcdaa.fnExactDestinationSumsR
open Go.ChangeShapes Go.WideShapes Go.ChangeAt Go.RowKit Go.Proofs.Ytloddihakhgcdaa.Opening Go.Proofs.YtloddihakhgcdaaW.PrintWords Go.Proofs.Ytloddihakhgcdaa.PFnExactDestinationSums
set_option linter.unusedVariables false
theorem own : ownKnob Try.prog.godebug = none := by kernel_rfl
theorem laidOut : laidOutB Try.prog = true := by kernel_rfl
theorem o3 : Opn Try.prog 3 (Kd.int .i64) (WfI .i64) := opn_int Try.underlying3 (by kernel_rfl)
theorem o23 : Opn Try.prog 23 (Kd.pair (Kd.int .i64) (Kd.pair (Kd.int .i64) (Kd.int .i64))) (Two (WfI .i64) (Two (WfI .i64) (WfI .i64))) := by
  refine opn_struct Try.underlying23 (by kernel_rfl) ?_
  refine opnF_cons ?_ o3 ?_
  · rfl
  refine opnF_cons ?_ o3 ?_
  · rfl
  exact opnF_one (by rfl) o3
theorem o24 : Opn Try.prog 24 (Kd.slice 3 (Kd.int .i64)) (AllOf (WfI .i64)) := opn_slice Try.underlying24 (by kernel_rfl) o3
theorem o26 : Opn Try.prog 26 (Kd.pair (Kd.pair (Kd.int .i64) (Kd.pair (Kd.int .i64) (Kd.int .i64))) (Kd.pair (Kd.slice 3 (Kd.int .i64)) (Kd.pair (Kd.slice 3 (Kd.int .i64)) (Kd.slice 3 (Kd.int .i64))))) (Two (Two (WfI .i64) (Two (WfI .i64) (WfI .i64))) (Two (AllOf (WfI .i64)) (Two (AllOf (WfI .i64)) (AllOf (WfI .i64))))) := by
  refine opn_struct Try.underlying26 (by kernel_rfl) ?_
  refine opnF_cons ?_ o23 ?_
  · rfl
  refine opnF_cons ?_ o24 ?_
  · rfl
  refine opnF_cons ?_ o24 ?_
  · rfl
  exact opnF_one (by rfl) o24
theorem o27 : Opn Try.prog 27 (Kd.slice 24 (Kd.slice 3 (Kd.int .i64))) (AllOf (AllOf (WfI .i64))) := opn_slice Try.underlying27 (by kernel_rfl) o24
theorem o29 : Opn Try.prog 29 (Kd.pair (Kd.int .i64) (Kd.int .i64)) (Two (WfI .i64) (WfI .i64)) := by
  refine opn_struct Try.underlying29 (by kernel_rfl) ?_
  refine opnF_cons ?_ o3 ?_
  · rfl
  exact opnF_one (by rfl) o3
theorem o31 : Opn Try.prog 31 (Kd.pair (Kd.slice 24 (Kd.slice 3 (Kd.int .i64))) (Kd.pair (Kd.slice 3 (Kd.int .i64)) (Kd.pair (Kd.slice 3 (Kd.int .i64)) (Kd.pair (Kd.pair (Kd.int .i64) (Kd.int .i64)) (Kd.pair (Kd.int .i64) (Kd.pair (Kd.int .i64) (Kd.int .i64))))))) (Two (AllOf (AllOf (WfI .i64))) (Two (AllOf (WfI .i64)) (Two (AllOf (WfI .i64)) (Two (Two (WfI .i64) (WfI .i64)) (Two (WfI .i64) (Two (WfI .i64) (WfI .i64))))))) := by
  refine opn_struct Try.underlying31 (by kernel_rfl) ?_
  refine opnF_cons ?_ o27 ?_
  · rfl
  refine opnF_cons ?_ o24 ?_
  · rfl
  refine opnF_cons ?_ o24 ?_
  · rfl
  refine opnF_cons ?_ o29 ?_
  · rfl
  refine opnF_cons ?_ o3 ?_
  · rfl
  refine opnF_cons ?_ o3 ?_
  · rfl
  exact opnF_one (by rfl) o3
theorem o33 : Opn Try.prog 33 (Kd.pair (Kd.int .i64) (Kd.slice 3 (Kd.int .i64))) (Two (WfI .i64) (AllOf (WfI .i64))) := by
  refine opn_struct Try.underlying33 (by kernel_rfl) ?_
  refine opnF_cons ?_ o3 ?_
  · rfl
  exact opnF_one (by rfl) o24
set_option maxRecDepth 100000 in
set_option maxHeartbeats 1000000 in
theorem lifted (os : Os) (started : os.Started) (H : Type) (enc : TypeId × Value → H) :
    ReturnsInHanded {} Try.checked os 3 .any (Rows.fnExactDestinationSumsSpec.pre6 enc Try.prog Try.f3 Rows.fnExactDestinationSumsRow.domain false) (Rows.fnExactDestinationSumsSpec.post enc Try.prog Try.f3 false true false false) := by
  refine returnsInHanded_of_change_sized (C := Try.checked) own started (by kernel_rfl) Try.func3
    (ChangeSpec.witness6 (enc := enc) (C := Try.checked) false ⟨#[], #[.agg #[.int .i64 0, .int .i64 0, .int .i64 0, .slice none 0 0, .slice none 0 0, .slice none 0 0], .agg #[.slice none 0 0, .slice none 0 0, .slice none 0 0, .int .i64 0, .int .i64 0, .int .i64 0, .int .i64 0, .int .i64 0], .agg #[.int .i64 0, .slice none 0 0], .int .i64 0], []⟩ 24 (by kernel_rfl) (by kernel_rfl) (by kernel_rfl) (by kernel_rfl)) ?_
  intro W base args ds gs before hval0 hW hcnd hsz0 _
  have hval : ∀ (j : Nat) t v, Try.f3.params[j]? = some t → args[j]? = some v → Value.okWide Try.prog W .any base t v := hval0
  have hW' := hW
  obtain ⟨p, q, hA0, hV, rfl, hfz, hnd⟩ := hW
  have hA : DataW.TrodAll enc Try.prog W 0 (fun _ => true) true Try.f3.params.toList args.toList ds p := hA0
  rw [Try.params3] at hA hval
  obtain ⟨v0, vs0, d0, ds0, p0, q0, hargs, rfl, rfl, h0, r0⟩ := trodAll_cons hA
  obtain ⟨v1, vs1, d1, ds1, p1, q1, rfl, rfl, rfl, h1, r1⟩ := trodAll_cons r0
  obtain ⟨v2, vs2, d2, ds2, p2, q2, rfl, rfl, rfl, h2, r2⟩ := trodAll_cons r1
  obtain ⟨v3, vs3, d3, ds3, p3, q3, rfl, rfl, rfl, h3, r3⟩ := trodAll_cons r2
  obtain ⟨rfl, rfl, rfl⟩ := trodAll_nil r3
  obtain rfl : args = #[v0, v1, v2, v3] := by cases args; simp_all
  obtain ⟨rfl, rfl⟩ := trodVars_none hV
  have lt0 : ∀ x ∈ p0, x.block < W.heap.size := by obtain ⟨m, hm⟩ := h0; exact DataW.trod_lt m _ _ _ hm
  obtain ⟨cs0, rfl, _⟩ := okWide_struct Try.underlying26 (hval 0 26 v0 rfl rfl)
  obtain ⟨⟨⟨a0_0, a0_1, a0_2⟩, l0_3, l0_4, l0_5⟩, V0, K0⟩ := opn_arg o26 h0
  obtain ⟨A0_3, c0_3, A0_4, c0_4, A0_5, c0_5, rfl, hc0_3, hr0_3, hc0_4, hr0_4, hc0_5, hr0_5⟩ : ∃ A0_3 c0_3 A0_4 c0_4 A0_5 c0_5, cs0 = (#[Value.int .i64 a0_0, Value.int .i64 a0_1, Value.int .i64 a0_2, Value.slice A0_3 l0_3.length c0_3, Value.slice A0_4 l0_4.length c0_4, Value.slice A0_5 l0_5.length c0_5] : Array Value) ∧ l0_3.length ≤ c0_3 ∧ Kd.C (Kd.int .i64) W A0_3 l0_3.length l0_3 ∧ l0_4.length ≤ c0_4 ∧ Kd.C (Kd.int .i64) W A0_4 l0_4.length l0_4 ∧ l0_5.length ≤ c0_5 ∧ Kd.C (Kd.int .i64) W A0_5 l0_5.length l0_5 := by
    obtain ⟨_, _, eK0a, K0a, K0b⟩ := K0
    obtain ⟨_, _, eK0aa, K0aa, K0ab⟩ := K0a
    obtain ⟨_, _, eK0aba, K0aba, K0abb⟩ := K0ab
    obtain ⟨_, _, eK0ba, K0ba, K0bb⟩ := K0b
    obtain ⟨A0_3, c0_3, e_K0ba, hc0_3, hr0_3⟩ := K0ba
    obtain ⟨_, _, eK0bba, K0bba, K0bbb⟩ := K0bb
    obtain ⟨A0_4, c0_4, e_K0bba, hc0_4, hr0_4⟩ := K0bba
    obtain ⟨A0_5, c0_5, e_K0bbb, hc0_5, hr0_5⟩ := K0bbb
    have e_all : cs0.toList = [Value.int .i64 a0_0, Value.int .i64 a0_1, Value.int .i64 a0_2, Value.slice A0_3 l0_3.length c0_3, Value.slice A0_4 l0_4.length c0_4, Value.slice A0_5 l0_5.length c0_5] := by
      have e0 : cs0.toList = _ := eK0a
      rw [e0]
      (try rw [show _ = _ from eK0aa])
      (try rw [show _ = _ from K0aa])
      (try rw [show _ = _ from eK0aba])
      (try rw [show _ = _ from K0aba])
      (try rw [show _ = _ from K0abb])
      (try rw [show _ = _ from eK0ba])
      (try rw [show _ = _ from e_K0ba])
      (try rw [show _ = _ from eK0bba])
      (try rw [show _ = _ from e_K0bba])
      (try rw [show _ = _ from e_K0bbb])
      (try rfl)
    exact ⟨A0_3, c0_3, A0_4, c0_4, A0_5, c0_5, Array.toList_inj.1 e_all, hc0_3, hr0_3, hc0_4, hr0_4, hc0_5, hr0_5⟩
  have lt1 : ∀ x ∈ p1, x.block < W.heap.size := by obtain ⟨m, hm⟩ := h1; exact DataW.trod_lt m _ _ _ hm
  obtain ⟨cs1, rfl, _⟩ := okWide_struct Try.underlying31 (hval 1 31 v1 rfl rfl)
  obtain ⟨⟨l1_0, l1_1, l1_2, ⟨a1_3, a1_4⟩, a1_5, a1_6, a1_7⟩, V1, K1⟩ := opn_arg o31 h1
  obtain ⟨A1_0, c1_0, A1_1, c1_1, A1_2, c1_2, rfl, hc1_0, hr1_0, hc1_1, hr1_1, hc1_2, hr1_2⟩ : ∃ A1_0 c1_0 A1_1 c1_1 A1_2 c1_2, cs1 = (#[Value.slice A1_0 l1_0.length c1_0, Value.slice A1_1 l1_1.length c1_1, Value.slice A1_2 l1_2.length c1_2, Value.int .i64 a1_3, Value.int .i64 a1_4, Value.int .i64 a1_5, Value.int .i64 a1_6, Value.int .i64 a1_7] : Array Value) ∧ l1_0.length ≤ c1_0 ∧ Kd.C (Kd.slice 3 (Kd.int .i64)) W A1_0 l1_0.length l1_0 ∧ l1_1.length ≤ c1_1 ∧ Kd.C (Kd.int .i64) W A1_1 l1_1.length l1_1 ∧ l1_2.length ≤ c1_2 ∧ Kd.C (Kd.int .i64) W A1_2 l1_2.length l1_2 := by
    obtain ⟨_, _, eK1a, K1a, K1b⟩ := K1
    obtain ⟨A1_0, c1_0, e_K1a, hc1_0, hr1_0⟩ := K1a
    obtain ⟨_, _, eK1ba, K1ba, K1bb⟩ := K1b
    obtain ⟨A1_1, c1_1, e_K1ba, hc1_1, hr1_1⟩ := K1ba
    obtain ⟨_, _, eK1bba, K1bba, K1bbb⟩ := K1bb
    obtain ⟨A1_2, c1_2, e_K1bba, hc1_2, hr1_2⟩ := K1bba
    obtain ⟨_, _, eK1bbba, K1bbba, K1bbbb⟩ := K1bbb
    obtain ⟨_, _, eK1bbbaa, K1bbbaa, K1bbbab⟩ := K1bbba
    obtain ⟨_, _, eK1bbbba, K1bbbba, K1bbbbb⟩ := K1bbbb
    obtain ⟨_, _, eK1bbbbba, K1bbbbba, K1bbbbbb⟩ := K1bbbbb
    have e_all : cs1.toList = [Value.slice A1_0 l1_0.length c1_0, Value.slice A1_1 l1_1.length c1_1, Value.slice A1_2 l1_2.length c1_2, Value.int .i64 a1_3, Value.int .i64 a1_4, Value.int .i64 a1_5, Value.int .i64 a1_6, Value.int .i64 a1_7] := by
      have e0 : cs1.toList = _ := eK1a
      rw [e0]
      (try rw [show _ = _ from e_K1a])
      (try rw [show _ = _ from eK1ba])
      (try rw [show _ = _ from e_K1ba])
      (try rw [show _ = _ from eK1bba])
      (try rw [show _ = _ from e_K1bba])
      (try rw [show _ = _ from eK1bbba])
      (try rw [show _ = _ from eK1bbbaa])
      (try rw [show _ = _ from K1bbbaa])
      (try rw [show _ = _ from K1bbbab])
      (try rw [show _ = _ from eK1bbbba])
      (try rw [show _ = _ from K1bbbba])
      (try rw [show _ = _ from eK1bbbbba])
      (try rw [show _ = _ from K1bbbbba])
      (try rw [show _ = _ from K1bbbbbb])
      (try rfl)
    exact ⟨A1_0, c1_0, A1_1, c1_1, A1_2, c1_2, Array.toList_inj.1 e_all, hc1_0, hr1_0, hc1_1, hr1_1, hc1_2, hr1_2⟩
  have lt2 : ∀ x ∈ p2, x.block < W.heap.size := by obtain ⟨m, hm⟩ := h2; exact DataW.trod_lt m _ _ _ hm
  obtain ⟨cs2, rfl, _⟩ := okWide_struct Try.underlying33 (hval 2 33 v2 rfl rfl)
  obtain ⟨⟨a2_0, l2_1⟩, V2, K2⟩ := opn_arg o33 h2
  obtain ⟨A2_1, c2_1, rfl, hc2_1, hr2_1⟩ : ∃ A2_1 c2_1, cs2 = (#[Value.int .i64 a2_0, Value.slice A2_1 l2_1.length c2_1] : Array Value) ∧ l2_1.length ≤ c2_1 ∧ Kd.C (Kd.int .i64) W A2_1 l2_1.length l2_1 := by
    obtain ⟨_, _, eK2a, K2a, K2b⟩ := K2
    obtain ⟨A2_1, c2_1, e_K2b, hc2_1, hr2_1⟩ := K2b
    have e_all : cs2.toList = [Value.int .i64 a2_0, Value.slice A2_1 l2_1.length c2_1] := by
      have e0 : cs2.toList = _ := eK2a
      rw [e0]
      (try rw [show _ = _ from K2a])
      (try rw [show _ = _ from e_K2b])
      (try rfl)
    exact ⟨A2_1, c2_1, Array.toList_inj.1 e_all, hc2_1, hr2_1⟩
  have lt3 : ∀ x ∈ p3, x.block < W.heap.size := by obtain ⟨m, hm⟩ := h3; exact DataW.trod_lt m _ _ _ hm
  obtain ⟨n3', rfl⟩ := okWide_int Try.underlying3 (hval 3 3 v3 rfl rfl)
  obtain ⟨a3, V3, K3⟩ := opn_arg o3 h3
  obtain rfl : a3 = n3' := by have e : (Value.cells _).toList = [_] := K3; simp [Value.cells] at e; exact e.symm
  obtain ⟨k, hk⟩ := Pure.FnExactDestinationSums a0_0 a0_1 a0_2 l0_3 l0_4 l0_5 l1_0 l1_1 l1_2 a1_3 a1_4 a1_5 a1_6 a1_7 a2_0 l2_1 a3 V0.1.1 V0.1.2.1 V0.1.2.2 V0.2.1 V0.2.2.1 V0.2.2.2 V1.1 V1.2.1 V1.2.2.1 V1.2.2.2.1.1 V1.2.2.2.1.2 V1.2.2.2.2.1 V1.2.2.2.2.2.1 V1.2.2.2.2.2.2 V2.1 V2.2 V3
  refine (laws_FnExactDestinationSums.calls (w := W) (hr0_3 := hr0_3) (hr0_4 := hr0_4) (hr0_5 := hr0_5) (hr1_0 := hr1_0) (hr1_1 := hr1_1) (hr1_2 := hr1_2) (hr2_1 := hr2_1) (hc0_3 := hc0_3) (hc0_4 := hc0_4) (hc0_5 := hc0_5) (hc1_0 := hc1_0) (hc1_1 := hc1_1) (hc1_2 := hc1_2) (hc2_1 := hc2_1) (h := hk) (hrt := Aside0.mk rfl)).mono fun e W' ⟨he, bel⟩ => ?_
  subst he
  replace bel : Below W.heap.size W W' := by first | exact bel | exact bel.below | (subst bel; exact Below.refl _ _)
  exact ⟨_, rfl, _, _, _, [], _, [], hW', trodAll_mk1 (shut_bool Try.underlying4 _), (trodAll_cons_mk (Below.trod laidOut (by kernel_rfl) (of_decide_eq_true (by kernel_rfl)) h0 bel lt0) (trodAll_cons_mk (Below.trod laidOut (by kernel_rfl) (of_decide_eq_true (by kernel_rfl)) h1 bel lt1) (trodAll_cons_mk (Below.trod laidOut (by kernel_rfl) (of_decide_eq_true (by kernel_rfl)) h2 bel lt2) (trodAll_cons_mk (Below.trod laidOut (by kernel_rfl) (of_decide_eq_true (by kernel_rfl)) h3 bel lt3) trodAll_mk0)))), rfl, bel.frame _, fun h => by cases h⟩
theorem over : Rows.fnExactDestinationSumsRow.holds Try.pinned (OpenSpec.ofChange Rows.fnExactDestinationSumsSpec) :=
  OpenClaim.holds_of_wide 3 Try.f3 rfl rfl rfl rfl rfl rfl rfl ⟨rfl, rfl, rfl, rfl, rfl⟩ rfl rfl rfl rfl rfl (by kernel_rfl) Try.func3 (by kernel_rfl)
    (of_decide_eq_true (by kernel_rfl)) (by unfold Func.isWrapper; first | (rw [if_pos (by decide +kernel)]; kernel_rfl) | (rw [if_neg (by decide +kernel)]; exact ⟨rfl, rfl⟩))
    (fun os started H enc _ => lifted os started H enc)
end Go.Proofs.Ytloddihakhgcdaa.fnExactDestinationSumsR
namespace Go.Proofs.Ytloddihakhgcdaa
theorem fnExactDestinationSums_holds : Rows.FnExactDestinationSumsSaid := fnExactDestinationSumsR.over
#print axioms fnExactDestinationSums_holds
end Go.Proofs.Ytloddihakhgcdaa
