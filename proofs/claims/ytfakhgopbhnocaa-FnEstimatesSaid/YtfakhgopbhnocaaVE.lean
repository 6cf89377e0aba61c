/- The table of the types that the functions use, out of the program's own: what the value machine is handed. -/
import Derived.Test.YtfakhgopbhnocaaProg
import Derived.Test.YtfakhgopbhnocaaVMe
import Derived.KernelRfl
set_option linter.unusedVariables false
namespace Go.Proofs.Ytfakhgopbhnocaa.VE
open Go Go.Proofs.YtfakhgopbhnocaaVM
def ti : TypeId → Option TI
  | 3 => some ⟨1, false, 8, [V.int .i64 0]⟩
  | 5 => some ⟨1, false, 1, [V.int .u8 0]⟩
  | 22 => some ⟨1, false, 24, [V.nil]⟩
  | 24 => some ⟨3, true, 24, [V.int .i64 0, V.int .i64 0, V.int .i64 0]⟩
  | 25 => some ⟨1, false, 24, [V.nil]⟩
  | 27 => some ⟨6, true, 96, [V.int .i64 0, V.int .i64 0, V.int .i64 0, V.nil, V.nil, V.nil]⟩
  | 68 => some ⟨5, true, 40, [V.int .i64 0, V.int .i64 0, V.int .i64 0, V.int .i64 0, V.int .i64 0]⟩
  | 127 => some ⟨1, false, 8, [V.int .u64 0]⟩
  | 129 => some ⟨3, true, 40, [V.nil, V.int .i64 0, V.int .u64 0]⟩
  | _ => none
def el : TypeId → Option TypeId
  | 22 => some 5
  | 25 => some 3
  | 32 => some 25
  | 60 => some 68
  | 205 => some 24
  | _ => none
def fo : TypeId → Nat → Option Nat
  | 24, 0 => some 0
  | 24, 1 => some 1
  | 24, 2 => some 2
  | 27, 0 => some 0
  | 27, 1 => some 3
  | 27, 2 => some 4
  | 27, 3 => some 5
  | 68, 0 => some 0
  | 68, 1 => some 1
  | 68, 2 => some 2
  | 68, 3 => some 3
  | 68, 4 => some 4
  | 129, 0 => some 0
  | 129, 1 => some 1
  | 129, 2 => some 2
  | _, _ => none
def bo : TypeId → Bool
  | 4 => true
  | _ => false
def io : TypeId → Option IntKind
  | 3 => some .i64
  | 5 => some .u8
  | 127 => some .u64
  | _ => none
def eqs : TypeId → Option Nat
  | 24 => some 3
  | _ => none
def pl : TypeId → Option (List (Nat × Nat))
  | 24 => some [(0, 1), (1, 1), (2, 1)]
  | 27 => some [(0, 3), (3, 1), (4, 1), (5, 1)]
  | 68 => some [(0, 1), (1, 1), (2, 1), (3, 1), (4, 1)]
  | 129 => some [(0, 1), (1, 1), (2, 1)]
  | _ => none
def loud : FuncId → Bool
  | 94 => true
  | 95 => true
  | 96 => true
  | 110 => true
  | 111 => true
  | 113 => true
  | 133 => true
  | 136 => true
  | 137 => true
  | 145 => true
  | 178 => true
  | 183 => true
  | 186 => true
  | 189 => true
  | _ => false
set_option maxRecDepth 100000 in
theorem ti3 : TIok Try.prog 3 ⟨1, false, 8, [V.int .i64 0]⟩ := TIok.of (z := .int .i64 0) (by kernel_rfl) Try.underlying3 rfl rfl rfl rfl (by simp) (by decide) (by decide)
set_option maxRecDepth 100000 in
theorem ti5 : TIok Try.prog 5 ⟨1, false, 1, [V.int .u8 0]⟩ := TIok.of (z := .int .u8 0) (by kernel_rfl) Try.underlying5 rfl rfl rfl rfl (by simp) (by decide) (by decide)
set_option maxRecDepth 100000 in
theorem ti22 : TIok Try.prog 22 ⟨1, false, 24, [V.nil]⟩ := TIok.of (z := .slice none 0 0) (by kernel_rfl) Try.underlying22 rfl rfl rfl rfl (by simp) (by decide) (by decide)
set_option maxRecDepth 100000 in
theorem ti24 : TIok Try.prog 24 ⟨3, true, 24, [V.int .i64 0, V.int .i64 0, V.int .i64 0]⟩ := TIok.of (z := .agg #[.int .i64 0, .int .i64 0, .int .i64 0]) (by kernel_rfl) Try.underlying24 rfl rfl rfl rfl (by simp) (by decide) (by decide)
set_option maxRecDepth 100000 in
theorem ti25 : TIok Try.prog 25 ⟨1, false, 24, [V.nil]⟩ := TIok.of (z := .slice none 0 0) (by kernel_rfl) Try.underlying25 rfl rfl rfl rfl (by simp) (by decide) (by decide)
set_option maxRecDepth 100000 in
theorem ti27 : TIok Try.prog 27 ⟨6, true, 96, [V.int .i64 0, V.int .i64 0, V.int .i64 0, V.nil, V.nil, V.nil]⟩ := TIok.of (z := .agg #[.int .i64 0, .int .i64 0, .int .i64 0, .slice none 0 0, .slice none 0 0, .slice none 0 0]) (by kernel_rfl) Try.underlying27 rfl rfl rfl rfl (by simp) (by decide) (by decide)
set_option maxRecDepth 100000 in
theorem ti68 : TIok Try.prog 68 ⟨5, true, 40, [V.int .i64 0, V.int .i64 0, V.int .i64 0, V.int .i64 0, V.int .i64 0]⟩ := TIok.of (z := .agg #[.int .i64 0, .int .i64 0, .int .i64 0, .int .i64 0, .int .i64 0]) (by kernel_rfl) Try.underlying68 rfl rfl rfl rfl (by simp) (by decide) (by decide)
set_option maxRecDepth 100000 in
theorem ti127 : TIok Try.prog 127 ⟨1, false, 8, [V.int .u64 0]⟩ := TIok.of (z := .int .u64 0) (by kernel_rfl) Try.underlying127 rfl rfl rfl rfl (by simp) (by decide) (by decide)
set_option maxRecDepth 100000 in
theorem ti129 : TIok Try.prog 129 ⟨3, true, 40, [V.nil, V.int .i64 0, V.int .u64 0]⟩ := TIok.of (z := .agg #[.slice none 0 0, .int .i64 0, .int .u64 0]) (by kernel_rfl) Try.underlying129 rfl rfl rfl rfl (by simp) (by decide) (by decide)
set_option maxRecDepth 100000 in
theorem fo24_0 : ∃ fs f i, Try.prog.underlying 24 = some (.struct fs) ∧ fs[0]? = some f ∧ f.offset = 0 ∧ Try.prog.info? f.type = some i ∧ i.size ≠ 0 := fo_of (s := 1) Try.underlying24 rfl rfl (by kernel_rfl) (by decide)
set_option maxRecDepth 100000 in
theorem fo24_1 : ∃ fs f i, Try.prog.underlying 24 = some (.struct fs) ∧ fs[1]? = some f ∧ f.offset = 1 ∧ Try.prog.info? f.type = some i ∧ i.size ≠ 0 := fo_of (s := 1) Try.underlying24 rfl rfl (by kernel_rfl) (by decide)
set_option maxRecDepth 100000 in
theorem fo24_2 : ∃ fs f i, Try.prog.underlying 24 = some (.struct fs) ∧ fs[2]? = some f ∧ f.offset = 2 ∧ Try.prog.info? f.type = some i ∧ i.size ≠ 0 := fo_of (s := 1) Try.underlying24 rfl rfl (by kernel_rfl) (by decide)
set_option maxRecDepth 100000 in
theorem fo27_0 : ∃ fs f i, Try.prog.underlying 27 = some (.struct fs) ∧ fs[0]? = some f ∧ f.offset = 0 ∧ Try.prog.info? f.type = some i ∧ i.size ≠ 0 := fo_of (s := 3) Try.underlying27 rfl rfl (by kernel_rfl) (by decide)
set_option maxRecDepth 100000 in
theorem fo27_1 : ∃ fs f i, Try.prog.underlying 27 = some (.struct fs) ∧ fs[1]? = some f ∧ f.offset = 3 ∧ Try.prog.info? f.type = some i ∧ i.size ≠ 0 := fo_of (s := 1) Try.underlying27 rfl rfl (by kernel_rfl) (by decide)
set_option maxRecDepth 100000 in
theorem fo27_2 : ∃ fs f i, Try.prog.underlying 27 = some (.struct fs) ∧ fs[2]? = some f ∧ f.offset = 4 ∧ Try.prog.info? f.type = some i ∧ i.size ≠ 0 := fo_of (s := 1) Try.underlying27 rfl rfl (by kernel_rfl) (by decide)
set_option maxRecDepth 100000 in
theorem fo27_3 : ∃ fs f i, Try.prog.underlying 27 = some (.struct fs) ∧ fs[3]? = some f ∧ f.offset = 5 ∧ Try.prog.info? f.type = some i ∧ i.size ≠ 0 := fo_of (s := 1) Try.underlying27 rfl rfl (by kernel_rfl) (by decide)
set_option maxRecDepth 100000 in
theorem fo68_0 : ∃ fs f i, Try.prog.underlying 68 = some (.struct fs) ∧ fs[0]? = some f ∧ f.offset = 0 ∧ Try.prog.info? f.type = some i ∧ i.size ≠ 0 := fo_of (s := 1) Try.underlying68 rfl rfl (by kernel_rfl) (by decide)
set_option maxRecDepth 100000 in
theorem fo68_1 : ∃ fs f i, Try.prog.underlying 68 = some (.struct fs) ∧ fs[1]? = some f ∧ f.offset = 1 ∧ Try.prog.info? f.type = some i ∧ i.size ≠ 0 := fo_of (s := 1) Try.underlying68 rfl rfl (by kernel_rfl) (by decide)
set_option maxRecDepth 100000 in
theorem fo68_2 : ∃ fs f i, Try.prog.underlying 68 = some (.struct fs) ∧ fs[2]? = some f ∧ f.offset = 2 ∧ Try.prog.info? f.type = some i ∧ i.size ≠ 0 := fo_of (s := 1) Try.underlying68 rfl rfl (by kernel_rfl) (by decide)
set_option maxRecDepth 100000 in
theorem fo68_3 : ∃ fs f i, Try.prog.underlying 68 = some (.struct fs) ∧ fs[3]? = some f ∧ f.offset = 3 ∧ Try.prog.info? f.type = some i ∧ i.size ≠ 0 := fo_of (s := 1) Try.underlying68 rfl rfl (by kernel_rfl) (by decide)
set_option maxRecDepth 100000 in
theorem fo68_4 : ∃ fs f i, Try.prog.underlying 68 = some (.struct fs) ∧ fs[4]? = some f ∧ f.offset = 4 ∧ Try.prog.info? f.type = some i ∧ i.size ≠ 0 := fo_of (s := 1) Try.underlying68 rfl rfl (by kernel_rfl) (by decide)
set_option maxRecDepth 100000 in
theorem fo129_0 : ∃ fs f i, Try.prog.underlying 129 = some (.struct fs) ∧ fs[0]? = some f ∧ f.offset = 0 ∧ Try.prog.info? f.type = some i ∧ i.size ≠ 0 := fo_of (s := 1) Try.underlying129 rfl rfl (by kernel_rfl) (by decide)
set_option maxRecDepth 100000 in
theorem fo129_1 : ∃ fs f i, Try.prog.underlying 129 = some (.struct fs) ∧ fs[1]? = some f ∧ f.offset = 1 ∧ Try.prog.info? f.type = some i ∧ i.size ≠ 0 := fo_of (s := 1) Try.underlying129 rfl rfl (by kernel_rfl) (by decide)
set_option maxRecDepth 100000 in
theorem fo129_2 : ∃ fs f i, Try.prog.underlying 129 = some (.struct fs) ∧ fs[2]? = some f ∧ f.offset = 2 ∧ Try.prog.info? f.type = some i ∧ i.size ≠ 0 := fo_of (s := 1) Try.underlying129 rfl rfl (by kernel_rfl) (by decide)
set_option maxRecDepth 100000 in
theorem pl24 : ∃ fs, Try.prog.underlying 24 = some (.struct fs) ∧ fs.toList.mapM (fun f => (Try.prog.info? f.type).map fun i => (f.offset, i.size)) = some [(0, 1), (1, 1), (2, 1)] := ⟨_, Try.underlying24, by kernel_rfl⟩
set_option maxRecDepth 100000 in
theorem pl27 : ∃ fs, Try.prog.underlying 27 = some (.struct fs) ∧ fs.toList.mapM (fun f => (Try.prog.info? f.type).map fun i => (f.offset, i.size)) = some [(0, 3), (3, 1), (4, 1), (5, 1)] := ⟨_, Try.underlying27, by kernel_rfl⟩
set_option maxRecDepth 100000 in
theorem pl68 : ∃ fs, Try.prog.underlying 68 = some (.struct fs) ∧ fs.toList.mapM (fun f => (Try.prog.info? f.type).map fun i => (f.offset, i.size)) = some [(0, 1), (1, 1), (2, 1), (3, 1), (4, 1)] := ⟨_, Try.underlying68, by kernel_rfl⟩
set_option maxRecDepth 100000 in
theorem pl129 : ∃ fs, Try.prog.underlying 129 = some (.struct fs) ∧ fs.toList.mapM (fun f => (Try.prog.info? f.type).map fun i => (f.offset, i.size)) = some [(0, 1), (1, 1), (2, 1)] := ⟨_, Try.underlying129, by kernel_rfl⟩
set_option maxRecDepth 100000 in
theorem eq24 : ∀ (w : World) (xs ys : Array Value) (ps qs : List Int), xs.toList = ps.map (.int .i64) → ys.toList = qs.map (.int .i64) → ps.length = 3 → qs.length = 3 → ∀ x y, ((eqGuard .eql 24 x y (.agg xs) (.agg ys)).run Try.prog w = .ok () w ∧ (binOp .eql 24 (.agg xs) (.agg ys)).run Try.prog w = .ok (.bool (ps == qs)) w) ∧ ((eqGuard .neq 24 x y (.agg xs) (.agg ys)).run Try.prog w = .ok () w ∧ (binOp .neq 24 (.agg xs) (.agg ys)).run Try.prog w = .ok (.bool (ps != qs)) w) := by
  intro w xs ys ps qs hx hy ha hb x y
  match ps, ha with
  | [a0, a1, a2], _ =>
    match qs, hb with
    | [b0, b1, b2], _ =>
      have e1 : xs = #[.int .i64 a0, .int .i64 a1, .int .i64 a2] := by apply Array.ext'; simpa using hx
      have e2 : ys = #[.int .i64 b0, .int .i64 b1, .int .i64 b2] := by apply Array.ext'; simpa using hy
      subst e1 e2
      have hg : Try.prog.eqGuardType Try.prog.depth 24 = false := by kernel_rfl
      have hs : Try.prog.stoodInHeld 24 = false := by kernel_rfl
      have he := eqStruct_run (P := Try.prog) (t := 24) (w := w) Try.underlying24 hs [a0, a1, a2] [b0, b1, b2] (by simp) (by simp) (by intro f hf; simp at hf; rcases hf with rfl | rfl | rfl <;> exact ⟨by decide, Try.underlying3⟩) (by rfl)
      simp only [List.map_cons, List.map_nil] at he
      exact ⟨⟨run_eqGuard_agg w .eql 24 x y _ _ hg, by rw [run_eql_struct, he]; rfl⟩, ⟨run_eqGuard_agg w .neq 24 x y _ _ hg, by rw [run_neq_struct, he]; rfl⟩⟩
set_option maxRecDepth 100000 in
theorem hti : ∀ t x, ti t = some x → TIok Try.prog t x := by
  intro t x h
  unfold ti at h
  split at h <;> first | (cases h; done) | (cases h; first | with_reducible exact ti3 | with_reducible exact ti5 | with_reducible exact ti22 | with_reducible exact ti24 | with_reducible exact ti25 | with_reducible exact ti27 | with_reducible exact ti68 | with_reducible exact ti127 | with_reducible exact ti129)
set_option maxRecDepth 100000 in
theorem hel : ∀ t e, el t = some e → Try.prog.underlying t = some (.slice e) := by
  intro t e h
  unfold el at h
  split at h <;> first | (cases h; done) | (cases h; first | with_reducible exact Try.underlying22 | with_reducible exact Try.underlying25 | with_reducible exact Try.underlying32 | with_reducible exact Try.underlying60 | with_reducible exact Try.underlying205)
set_option maxRecDepth 100000 in
theorem hfo : ∀ t k n, fo t k = some n → ∃ fs f i, Try.prog.underlying t = some (.struct fs) ∧ fs[k]? = some f ∧ f.offset = n ∧ Try.prog.info? f.type = some i ∧ i.size ≠ 0 := by
  intro t k n h
  unfold fo at h
  split at h <;> first | (cases h; done) | (cases h; first | with_reducible exact fo24_0 | with_reducible exact fo24_1 | with_reducible exact fo24_2 | with_reducible exact fo27_0 | with_reducible exact fo27_1 | with_reducible exact fo27_2 | with_reducible exact fo27_3 | with_reducible exact fo68_0 | with_reducible exact fo68_1 | with_reducible exact fo68_2 | with_reducible exact fo68_3 | with_reducible exact fo68_4 | with_reducible exact fo129_0 | with_reducible exact fo129_1 | with_reducible exact fo129_2)
theorem hbo : ∀ t, bo t = true → Try.prog.underlying t = some .bool := by
  intro t h
  unfold bo at h
  split at h <;> first | (cases h; done) | (cases h; first | with_reducible exact Try.underlying4)
theorem hio : ∀ t k, io t = some k → Try.prog.underlying t = some (.int k) := by
  intro t k h
  unfold io at h
  split at h <;> first | (cases h; done) | (cases h; first | with_reducible exact Try.underlying3 | with_reducible exact Try.underlying5 | with_reducible exact Try.underlying127)
theorem heq : ∀ t n, eqs t = some n → ∀ (w : World) (xs ys : Array Value) (ps qs : List Int), xs.toList = ps.map (.int .i64) → ys.toList = qs.map (.int .i64) → ps.length = n → qs.length = n → ∀ x y, ((eqGuard .eql t x y (.agg xs) (.agg ys)).run Try.prog w = .ok () w ∧ (binOp .eql t (.agg xs) (.agg ys)).run Try.prog w = .ok (.bool (ps == qs)) w) ∧ ((eqGuard .neq t x y (.agg xs) (.agg ys)).run Try.prog w = .ok () w ∧ (binOp .neq t (.agg xs) (.agg ys)).run Try.prog w = .ok (.bool (ps != qs)) w) := by
  intro t n h
  unfold eqs at h
  split at h <;> first | (cases h; done) | (cases h; first | with_reducible exact eq24)
set_option maxRecDepth 100000 in
theorem hpl : ∀ t ps, pl t = some ps → ∃ fs, Try.prog.underlying t = some (.struct fs) ∧ fs.toList.mapM (fun f => (Try.prog.info? f.type).map fun i => (f.offset, i.size)) = some ps := by
  intro t ps h
  unfold pl at h
  split at h <;> first | (cases h; done) | (cases h; first | with_reducible exact pl24 | with_reducible exact pl27 | with_reducible exact pl68 | with_reducible exact pl129)
set_option maxRecDepth 100000 in
noncomputable def E : Env := ⟨Try.prog, ti, el, fo, bo, io, eqs, loud, pl, hti, hel, hfo, hbo, hio, heq, hpl, by kernel_rfl⟩
theorem E_P : E.P = Try.prog := rfl
theorem E_ti (t : TypeId) : E.ti t = ti t := rfl
theorem E_el (t : TypeId) : E.el t = el t := rfl
theorem E_fo (t k : Nat) : E.fo t k = fo t k := rfl
theorem E_bo (t : TypeId) : E.bo t = bo t := rfl
theorem E_io (t : TypeId) : E.io t = io t := rfl
theorem E_eqs (t : TypeId) : E.eqs t = eqs t := rfl
theorem E_loud (t : FuncId) : E.loud t = loud t := rfl
end Go.Proofs.Ytfakhgopbhnocaa.VE
