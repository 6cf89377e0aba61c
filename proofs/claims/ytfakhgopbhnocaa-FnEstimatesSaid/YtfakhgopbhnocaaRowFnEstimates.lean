/- The law FnEstimates: for every input that can be read, the call returns true, and every argument reads afterwards as before. -/
import Derived.Test.YtfakhgopbhnocaaRows
import Derived.Test.YtfakhgopbhnocaaVFnEstimatesp5
import Derived.Test.YtfakhgopbhnocaaPureFnEstimates
import Derived.WalkKit
import Derived.ProofKit
import Derived.OpenShut
import Derived.ShutString
import Derived.ChangeOld
import Derived.Below
import Derived.SizedLaws
import Derived.ChangeArms
import Derived.Deep.Slices
import Derived.Test.YtfakhgopbhnocaaWMore
import Derived.Test.YtfakhgopbhnocaaWShare
set_option linter.unusedVariables false
namespace Go.Proofs.Ytfakhgopbhnocaa.Opening
open Go.ChangeShapes Go.WideShapes Go.RowKit Go.Deep Go.Proofs.YtfakhgopbhnocaaW.PrintWords
/-- Cells of type t read as something of kind d, of which V holds. -/
structure Opn (P : Program) (t : TypeId) {α : Type} (d : Kd α) (V : α → Prop) : Prop where
  size : P.cellsOf t = d.sz
  read : ∀ {H : Type} {enc : TypeId × Value → H} {w : World} {base : Nat} {sp : Nat → Bool} {hd : Bool} {fuel : Nat} {cs : List Value} {x : DataW H × List MemPlace},
    DataW.trod enc P w base sp hd fuel t cs = some x → ∃ a, V a ∧ d.K w a cs
def WfI (k : IntKind) (n : Int) : Prop := (Lit.int k n).wf = true
def Any {α : Type} (_ : α) : Prop := True
def AllOf {α : Type} (V : α → Prop) (xs : List α) : Prop := xs.length ≤ 9223372036854775807 ∧ ∀ x ∈ xs, V x
def Two {α β : Type} (V : α → Prop) (V' : β → Prop) (x : α × β) : Prop := V x.1 ∧ V' x.2
/-- The fields fs, from offset o on. -/
structure OpnF (P : Program) (fs : List Field) (o : Nat) {α : Type} (d : Kd α) (V : α → Prop) : Prop where
  read : ∀ {H : Type} {enc : TypeId × Value → H} {w : World} {base : Nat} {sp : Nat → Bool} {hd : Bool} {fuel : Nat} {cs : List Value}, cs.length = o + d.sz →
    (∀ (i : Nat) (f : Field), fs[i]? = some f → ∃ x, DataW.trod enc P w base sp hd fuel f.type ((cs.drop f.offset).take (P.cellsOf f.type)) = some x) → ∃ a, V a ∧ d.K w a (cs.drop o)
theorem opn_int {P : Program} {t : TypeId} {k : IntKind} (ht : P.underlying t = some (.int k)) (hc : P.cellsOf t = 1) : Opn P t (Kd.int k) (WfI k) :=
  ⟨hc, fun h => by
    obtain ⟨n, rfl, _, hw⟩ := DataW.trod_int ht h
    exact ⟨n, hw, rfl⟩⟩
theorem opn_bool {P : Program} {t : TypeId} (ht : P.underlying t = some .bool) (hc : P.cellsOf t = 1) : Opn P t Kd.bool Any :=
  ⟨hc, fun h => by
    obtain ⟨b, rfl, _⟩ := DataW.trod_bool ht h
    exact ⟨b, trivial, rfl⟩⟩
theorem choose_to {α : Type} {n : Nat} {p : Nat → α → Prop} (h : ∀ i, i < n → ∃ a, p i a) : ∃ xs : List α, xs.length = n ∧ ∀ i x, xs[i]? = some x → p i x := by
  induction n with
  | zero => exact ⟨[], rfl, fun i x hx => by simp at hx⟩
  | succ n ih =>
    obtain ⟨xs, hl, hx⟩ := ih (fun i hi => h i (by omega))
    obtain ⟨a, ha⟩ := h n (by omega)
    refine ⟨xs ++ [a], by simp [hl], fun i x hi => ?_⟩
    by_cases hlt : i < xs.length
    · rw [List.getElem?_append_left hlt] at hi
      exact hx i x hi
    · rw [List.getElem?_append_right (by omega)] at hi
      have hz : i - xs.length = 0 := by
        by_cases hz : i - xs.length = 0
        · exact hz
        · rw [List.getElem?_eq_none (by simp; omega)] at hi
          cases hi
      rw [hz] at hi
      simp only [List.getElem?_cons_zero, Option.some.injEq] at hi
      subst hi
      have : i = n := by omega
      subst this
      exact ha
theorem opn_slice {P : Program} {t e : TypeId} {α : Type} {d : Kd α} {V : α → Prop} (ht : P.underlying t = some (.slice e)) (hc : P.cellsOf t = 1) (he : Opn P e d V) :
    Opn P t (Kd.slice e d) (AllOf V) :=
  ⟨hc, fun {H enc w base sp hd fuel cs x} h => by
    rcases open_slice ht h with ⟨rfl, _⟩ | ⟨a, len, cap, m, n, D, Pl, rfl, hb, hl, hm, hmm, _, hx⟩
    · exact ⟨[], ⟨by simp, by simp⟩, none, 0, rfl, Nat.le_refl _, rfl, by simp, fun hp => by simp at hp⟩
    · have hle : len ≤ m := by rw [hmm]; split <;> omega
      have hex : ∀ i, i < len → ∃ y : α, V y ∧ ∃ c, c.length = d.sz ∧ d.K w y c ∧ ∀ j u, c[j]? = some u → w.cell? (a.add (i * d.sz + j)) = some u := by
        intro i hi
        obtain ⟨cs', h1, h2⟩ := hx i (by omega)
        obtain ⟨y, hy, hk⟩ := he.read h2
        refine ⟨y, hy, cs', d.K_len hk, hk, fun j u hu => ?_⟩
        obtain ⟨_, hlen, hcell⟩ := World.cells?_some h1
        have hj : j < P.cellsOf e := by
          have := (List.getElem?_eq_some_iff.1 hu).1
          omega
        have h3 := hcell j hj
        rw [Go.Deep.add_add, he.size] at h3
        rw [h3, hu]
      obtain ⟨ys, hyl, hy⟩ := choose_to hex
      have hlen : len ≤ 9223372036854775807 := by
        have : maxLen = 9223372036854775807 := by decide
        omega
      refine ⟨ys, ⟨by omega, fun y hym => ?_⟩, some a, cap, by rw [hyl], by omega, rfl, by omega, fun hp => ⟨a, rfl, fun j p hj => ?_⟩⟩
      · obtain ⟨i, hi⟩ := List.getElem?_of_mem hym
        exact (hy i y hi).1
      · obtain ⟨_, c, h1, h2, h3⟩ := hy j p hj
        exact ⟨c, h1, h2, h3⟩⟩
theorem opnF_one {P : Program} {f : Field} {o : Nat} {α : Type} {d : Kd α} {V : α → Prop} (ho : f.offset = o) (h : Opn P f.type d V) : OpnF P [f] o d V :=
  ⟨fun {H enc w base sp hd fuel cs} hl hx => by
    obtain ⟨x, hx⟩ := hx 0 f rfl
    obtain ⟨a, ha, hk⟩ := h.read hx
    refine ⟨a, ha, ?_⟩
    rw [ho, h.size, List.take_of_length_le (by rw [List.length_drop]; omega)] at hk
    exact hk⟩
theorem opnF_cons {P : Program} {f : Field} {fs : List Field} {o : Nat} {α β : Type} {d : Kd α} {d' : Kd β} {V : α → Prop} {V' : β → Prop} (ho : f.offset = o) (h : Opn P f.type d V) (h' : OpnF P fs (o + d.sz) d' V') :
    OpnF P (f :: fs) o (Kd.pair d d') (Two V V') :=
  ⟨fun {H enc w base sp hd fuel cs} hl hx => by
    obtain ⟨x, hx0⟩ := hx 0 f rfl
    obtain ⟨a, ha, hk⟩ := h.read hx0
    have hsz : (Kd.pair d d').sz = d.sz + d'.sz := rfl
    obtain ⟨b, hb, hk'⟩ := h'.read (fuel := fuel) (enc := enc) (w := w) (base := base) (sp := sp) (hd := hd) (cs := cs) (by omega) (fun i g hg => hx (i + 1) g (by simpa using hg))
    rw [ho, h.size] at hk
    refine ⟨(a, b), ⟨ha, hb⟩, _, _, ?_, hk, hk'⟩
    rw [← List.drop_drop, List.take_append_drop]⟩
theorem opn_struct {P : Program} {t : TypeId} {fs : List Field} {α : Type} {d : Kd α} {V : α → Prop} (ht : P.underlying t = some (.struct fs.toArray)) (hc : P.cellsOf t = d.sz) (h : OpnF P fs 0 d V) : Opn P t d V :=
  ⟨hc, fun {H enc w base sp hd fuel cs x} hx => by
    obtain ⟨xs, n, _, _, hl, hlen, hf⟩ := DataW.trod_struct ht hx
    obtain ⟨a, ha, hk⟩ := h.read (fuel := n) (enc := enc) (w := w) (base := base) (sp := sp) (hd := hd) (cs := cs) (by omega) (fun i f hg => by
      have hi : i < fs.length := (List.getElem?_eq_some_iff.1 hg).1
      have hlen' : xs.length = fs.length := by simpa using hlen
      refine ⟨xs[i]'(by omega), ?_⟩
      rw [hf i f (by simpa using hg)]
      exact List.getElem?_eq_getElem _)
    exact ⟨a, ha, by simpa using hk⟩⟩
/-- A Lean structure for a tuple of fields. -/
theorem opn_iso {P : Program} {t : TypeId} {α β : Type} {d : Kd α} {V : α → Prop} (g : β → α) (g' : α → β) (hg : ∀ x, g (g' x) = x) (h : Opn P t d V) : Opn P t (Kd.iso d g) (fun x => V (g x)) :=
  ⟨h.size, fun hx => by
    obtain ⟨a, ha, hk⟩ := h.read hx
    exact ⟨g' a, by rw [hg]; exact ha, by show d.K _ (g (g' a)) _; rw [hg]; exact hk⟩⟩
/-- An argument's value, by its kind. -/
theorem opn_arg {P : Program} {t : TypeId} {α : Type} {d : Kd α} {V : α → Prop} (h : Opn P t d V) {H : Type} {enc : TypeId × Value → H} {w : World} {base : Nat} {sp : Nat → Bool} {hd : Bool} {v : Value} {x : DataW H} {p : List MemPlace}
    (hx : DataW.Trod enc P w base sp hd t v x p) : ∃ a, V a ∧ d.K w a v.cells.toList := by
  obtain ⟨fuel, hf⟩ := hx
  exact h.read hf
theorem agg_of {cs : Array Value} {l : List Value} (h : cs.toList = l) : cs = l.toArray := by rw [← h]
theorem wf_i64 {n : Int} (h : (Lit.int .i64 n).wf = true) : -9223372036854775808 ≤ n ∧ n ≤ 9223372036854775807 := by
  simp [Lit.wf, IntKind.min, IntKind.max, IntKind.signed, IntKind.bits] at h
  omega
end Go.Proofs.Ytfakhgopbhnocaa.Opening
namespace Go.Proofs.Ytfakhgopbhnocaa.VRow
open Go Go.Proofs.YtfakhgopbhnocaaVM Go.RowKit Go.Proofs.YtfakhgopbhnocaaW.PrintWords
theorem rep_bytes {W : World} {A : Option Addr} {xs : List Int} {cap : Nat} {D : Nat → Prop} (hD : ∀ b, b < W.heap.size → D b) (h : Kd.C (Kd.int .u8) W A xs.length xs) : RepC W D (.sl false 1 (mp mkB xs)) (.slice A xs.length cap) := by
  have hl : (mp mkB xs).length = xs.length := by simp [mp]
  rw [← hl]
  obtain ⟨_, _, h⟩ := h
  by_cases h0 : 0 < xs.length
  · obtain ⟨ad, rfl, hc⟩ := h h0
    refine RepC.sl false 1 _ _ cap ad (fun i _ => .int .u8 (xs.getD i 0)) (fun _ => rfl) (fun e he => ?_) (fun i e he o v hv => ?_) (fun i e he o v hv => ?_)
    · simp only [mp, List.mem_map] at he
      obtain ⟨n, _, rfl⟩ := he; rfl
    · simp only [mp, List.getElem?_map, Option.map_eq_some_iff] at he
      obtain ⟨n, hn, rfl⟩ := he
      obtain ⟨c, h1, h2, h3⟩ := hc i n hn
      have ho : o = 0 := by
        have := (List.getElem?_eq_some_iff.1 hv).1
        simp [mkB] at this; exact this
      subst ho
      obtain rfl : c = [Value.int .u8 n] := h2
      have h4 : W.cell? (ad.add (i * 1 + 0)) = some (Value.int .u8 n) := h3 0 _ rfl
      have h5 := cell_lt h4
      rw [Go.Proofs.YtfakhgopbhnocaaVM.add_block] at h5
      refine ⟨?_, hD _ h5⟩
      rw [h4]
      simp [hn]
    · simp only [mp, List.getElem?_map, Option.map_eq_some_iff] at he
      obtain ⟨n, hn, rfl⟩ := he
      have ho : o = 0 := by
        have := (List.getElem?_eq_some_iff.1 hv).1
        simp [mkB] at this; exact this
      subst ho
      simp [mkB] at hv
      subst hv
      simp only [List.getD_eq_getElem?_getD, hn, Option.getD_some]
      exact RepC.int _ _
  · obtain rfl : xs = [] := by cases xs <;> simp_all
    exact RepC.sl false 1 _ _ cap ⟨0, 0, none⟩ (fun _ _ => undef) (fun h => absurd rfl h) (fun e he => by simp [mp] at he) (fun i e he => by simp [mp] at he) (fun i e he => by simp [mp] at he)
/-- a law over two byte rows, run -/
theorem law_true {E : Env} {f : FuncId} {xs ys : List Int} (h : FnV E f [.sl false 1 (mp mkB xs), .sl false 1 (mp mkB ys)] none (.bool true) [] none) {W : World} {A B : Option Addr} {c0 c1 : Nat}
    (hx : Kd.C (Kd.int .u8) W A xs.length xs) (hy : Kd.C (Kd.int .u8) W B ys.length ys) :
    Calls E.P f #[.slice A xs.length c0, .slice B ys.length c1] W fun e W' => e = .returned (.bool true) ∧ Below W.heap.size W W' := by
  have hD : ∀ b, b < W.heap.size → DA W (parOf none 0) false b := fun b hb => ⟨hb, fun hp => by simp [parOf] at hp⟩
  refine (h.run W #[.slice A xs.length c0, .slice B ys.length c1] 0 trivial rfl (fun j v hv => ?_)).mono fun e W' ha => ?_
  · match j, hv with
    | 0, hv => obtain rfl := Option.some.inj hv; exact ⟨_, rfl, rep_bytes hD hx⟩
    | 1, hv => obtain rfl := Option.some.inj hv; exact ⟨_, rfl, rep_bytes hD hy⟩
    | j + 2, hv => simp at hv
  · obtain ⟨c, σ, rfl, hg, _, _, _, hr⟩ := ha
    obtain rfl : c = .bool true := hr
    exact ⟨rfl, hg.os, hg.tape, hg.output, hg.size, fun k hk => hg.block k hk (by simp)⟩
end Go.Proofs.Ytfakhgopbhnocaa.VRow
namespace Go.Proofs.Ytfakhgopbhnocaa.fnEstimatesR
open Go.ChangeShapes Go.WideShapes Go.ChangeAt Go.RowKit Go.Proofs.Ytfakhgopbhnocaa.Opening Go.Proofs.YtfakhgopbhnocaaW.PrintWords Go.Proofs.Ytfakhgopbhnocaa.PFnEstimates
set_option linter.unusedVariables false
theorem own : ownKnob Try.prog.godebug = none := by kernel_rfl
theorem laidOut : laidOutB Try.prog = true := by kernel_rfl
theorem o5 : Opn Try.prog 5 (Kd.int .u8) (WfI .u8) := opn_int Try.underlying5 (by kernel_rfl)
theorem o22 : Opn Try.prog 22 (Kd.slice 5 (Kd.int .u8)) (AllOf (WfI .u8)) := opn_slice Try.underlying22 (by kernel_rfl) o5
set_option maxRecDepth 100000 in
set_option maxHeartbeats 1000000 in
theorem lifted (os : Os) (started : os.Started) (H : Type) (enc : TypeId × Value → H) :
    ReturnsInHanded {} Try.checked os 6 .any (Rows.fnEstimatesSpec.pre6 enc Try.prog Try.f6 Rows.fnEstimatesRow.domain false) (Rows.fnEstimatesSpec.post enc Try.prog Try.f6 false true false false) := by
  refine returnsInHanded_of_change_sized (C := Try.checked) own started (by kernel_rfl) Try.func6
    (ChangeSpec.witness6 (enc := enc) (C := Try.checked) false ⟨#[], #[.slice none 0 0, .slice none 0 0], []⟩ 24 (by kernel_rfl) (by kernel_rfl) (by kernel_rfl) (by kernel_rfl)) ?_
  intro W base args ds gs before hval0 hW hcnd hsz0 _
  have hval : ∀ (j : Nat) t v, Try.f6.params[j]? = some t → args[j]? = some v → Value.okWide Try.prog W .any base t v := hval0
  have hW' := hW
  obtain ⟨p, q, hA0, hV, rfl, hfz, hnd⟩ := hW
  have hA : DataW.TrodAll enc Try.prog W 0 (fun _ => true) true Try.f6.params.toList args.toList ds p := hA0
  rw [Try.params6] at hA hval
  obtain ⟨v0, vs0, d0, ds0, p0, q0, hargs, rfl, rfl, h0, r0⟩ := trodAll_cons hA
  obtain ⟨v1, vs1, d1, ds1, p1, q1, rfl, rfl, rfl, h1, r1⟩ := trodAll_cons r0
  obtain ⟨rfl, rfl, rfl⟩ := trodAll_nil r1
  obtain rfl : args = #[v0, v1] := by cases args; simp_all
  obtain ⟨rfl, rfl⟩ := trodVars_none hV
  have lt0 : ∀ x ∈ p0, x.block < W.heap.size := by obtain ⟨m, hm⟩ := h0; exact DataW.trod_lt m _ _ _ hm
  obtain ⟨A0', n0', c0', rfl⟩ := okWide_slice Try.underlying22 (hval 0 22 v0 rfl rfl)
  obtain ⟨l0, V0, K0⟩ := opn_arg o22 h0
  obtain ⟨A0, c0, e0, hc0, hr0⟩ := K0
  obtain ⟨rfl, rfl, rfl⟩ : A0' = A0 ∧ n0' = l0.length ∧ c0' = c0 := by simpa [Value.cells] using e0
  have lt1 : ∀ x ∈ p1, x.block < W.heap.size := by obtain ⟨m, hm⟩ := h1; exact DataW.trod_lt m _ _ _ hm
  obtain ⟨A1', n1', c1', rfl⟩ := okWide_slice Try.underlying22 (hval 1 22 v1 rfl rfl)
  obtain ⟨l1, V1, K1⟩ := opn_arg o22 h1
  obtain ⟨A1, c1, e1, hc1, hr1⟩ := K1
  obtain ⟨rfl, rfl, rfl⟩ : A1' = A1 ∧ n1' = l1.length ∧ c1' = c1 := by simpa [Value.cells] using e1
  obtain ⟨k, hk⟩ := Pure.FnEstimates l0 l1 V0 V1
  have run := VRow.law_true (laws_FnEstimates.V hk) (c0 := c0') (c1 := c1') hr0 hr1
  have hE : VE.E.P = Try.prog := rfl
  rw [hE] at run
  refine run.mono fun e W' ⟨he, bel⟩ => ?_
  subst he
  exact ⟨_, rfl, _, _, _, [], _, [], hW', trodAll_mk1 (shut_bool Try.underlying4 _), (trodAll_cons_mk (Below.trod laidOut (by kernel_rfl) (of_decide_eq_true (by kernel_rfl)) h0 bel lt0) (trodAll_cons_mk (Below.trod laidOut (by kernel_rfl) (of_decide_eq_true (by kernel_rfl)) h1 bel lt1) trodAll_mk0)), rfl, bel.frame _, fun h => by cases h⟩
theorem over : Rows.fnEstimatesRow.holds Try.pinned (OpenSpec.ofChange Rows.fnEstimatesSpec) :=
  OpenClaim.holds_of_wide 6 Try.f6 rfl rfl rfl rfl rfl rfl rfl ⟨rfl, rfl, rfl, rfl, rfl⟩ rfl rfl rfl rfl rfl (by kernel_rfl) Try.func6 (by kernel_rfl)
    (of_decide_eq_true (by kernel_rfl)) (by unfold Func.isWrapper; first | (rw [if_pos (by decide +kernel)]; kernel_rfl) | (rw [if_neg (by decide +kernel)]; exact ⟨rfl, rfl⟩))
    (fun os started H enc _ => lifted os started H enc)
end Go.Proofs.Ytfakhgopbhnocaa.fnEstimatesR
namespace Go.Proofs.Ytfakhgopbhnocaa
theorem fnEstimates_holds : Rows.FnEstimatesSaid := fnEstimatesR.over
#print axioms fnEstimates_holds
end Go.Proofs.Ytfakhgopbhnocaa
