/- The value machine: what a call computes, told as values; part 1. Every operation of the machine stands for what the model does. -/
import Derived.OrdersHeld
import Derived.Laws.OwnMore
import Derived.Maps.AppendAt
import Derived.Great.BuildSlice
import Derived.WalkKit
import Derived.Laws.StructEq
import Derived.Laws.Tables
import Derived.KernelRfl
set_option linter.unusedVariables false
set_option linter.unusedSimpArgs false
namespace Go.Proofs.YtfakhgopbhnocaaVM
open Go

inductive V where
  | int (k : IntKind) (n : Int)
  | bool (b : Bool)
  | und
  | skip
  | nil
  | sl (f : Bool) (s : Nat) (es : List (List V))
  | ref (i : Nat)
  | ptr (i j o : Nat)
  | fat (f : Bool) (e : List V) (o : Nat)
  | con (u : Value) (v : V)
  | agg (cs : List V)
  | tup (vs : List V)

inductive Blk where
  | row (e : TypeId) (s : Nat) (es : List (List V))
  | box (cs : List V)

structure AS where
  T : Nat → V
  B : Nat → Option Blk

structure Sg where
  g : Nat → Nat
  c : Nat → Nat
  n : Nat → Nat
  s : Nat → Nat

theorem add_block (a : Addr) (k : Nat) : (a.add k).block = a.block := by unfold Addr.add; split <;> rfl

inductive RepC (W : World) (D : Nat → Prop) : V → Value → Prop
  | int (k n) : RepC W D (.int k n) (.int k n)
  | bool (b) : RepC W D (.bool b) (.bool b)
  | nil : RepC W D .nil (.slice none 0 0)
  | sl (f s es A cap ad) (cv : Nat → Nat → Value) (hA : es ≠ [] → A = some ad) (hs : ∀ e ∈ es, e.length = s)
      (hc : ∀ (i : Nat) e, es[i]? = some e → ∀ (o : Nat) v, e[o]? = some v → W.cell? (ad.add (i * s + o)) = some (cv i o) ∧ D ad.block)
      (hr : ∀ (i : Nat) e, es[i]? = some e → ∀ (o : Nat) v, e[o]? = some v → RepC W D v (cv i o)) : RepC W D (.sl f s es) (.slice A es.length cap)

theorem cell_lt {W : World} {a : Addr} {v : Value} (h : W.cell? a = some v) : a.block < W.heap.size := World.block_lt_of_cell? W a h
theorem cell_same {W W' : World} {a : Addr} {v : Value} (h : W.cell? a = some v) (hh : W'.heap[a.block]? = W.heap[a.block]?) : W'.cell? a = some v :=
  (World.cell?_of_block hh).trans h

theorem RepC.mono {W W' : World} {D D' : Nat → Prop} {v : V} {c : Value} (h : RepC W D v c) (hD : ∀ b, D b → b < W.heap.size → D' b)
    (hW : ∀ b, D b → b < W.heap.size → W'.heap[b]? = W.heap[b]?) : RepC W' D' v c := by
  induction h with
  | int k n => exact .int k n
  | bool b => exact .bool b
  | nil => exact .nil
  | sl f s es A cap ad cv hA hs hc hr ih =>
    refine .sl f s es A cap ad cv hA hs (fun i e he o v hv => ?_) (fun i e he o v hv => ih i e he o v hv)
    obtain ⟨h1, h2⟩ := hc i e he o v hv
    have hl := cell_lt h1
    rw [add_block] at hl
    exact ⟨cell_same h1 (by rw [add_block]; exact hW _ h2 hl), hD _ h2 hl⟩
theorem RepC.oneCell {W : World} {D : Nat → Prop} {v : V} {c : Value} (h : RepC W D v c) : c.oneCell' = true := by cases h <;> rfl
/-- the mark of a frozen row says nothing of the value -/
theorem RepC.retag {W : World} {D : Nat → Prop} {f f' : Bool} {s : Nat} {es : List (List V)} {c : Value} (h : RepC W D (.sl f s es) c) : RepC W D (.sl f' s es) c := by
  cases h with
  | sl f s es A cap ad cv hA hs hc hr => exact .sl f' s es A cap ad cv hA hs hc hr

/-- what a slot or a cell of a box may hold -/
def RepL0 (W : World) (D : Bool → Nat → Prop) (σ : Sg) : V → Value → Prop
  | .int k n, c => c = .int k n
  | .bool b, c => c = .bool b
  | .und, _ => True
  | .skip, c => c = undef
  | .nil, c => c = .slice none 0 0
  | .sl f s es, c => RepC W (D f) (.sl f s es) c
  | .ref i, c => c = .slice (some ⟨σ.g i, 0, none⟩) (σ.n i) (σ.c i)
  | .ptr i j o, c => c = .pointer (some ((⟨σ.g i, 0, none⟩ : Addr).add (j * σ.s i + o)))
  | .fat f e o, c => ∃ ad, c = .pointer (some ad) ∧ ∀ j v, e[o + j]? = some v → ∃ u, W.cell? (ad.add j) = some u ∧ D f ad.block ∧ RepC W (D f) v u
  | _, _ => False
def RepL (W : World) (D : Bool → Nat → Prop) (σ : Sg) : V → Value → Prop
  | .con u v, c => c = u ∧ RepL0 W D σ v c
  | v, c => RepL0 W D σ v c
def RepA (W : World) (D : Bool → Nat → Prop) (σ : Sg) : V → Value → Prop
  | .agg cs, c => ∃ a : Array Value, c = .agg a ∧ a.size = cs.length ∧ ∀ (j : Nat) v, cs[j]? = some v → ∃ u, a[j]? = some u ∧ RepL W D σ v u
  | v, c => RepL0 W D σ v c
def RepT (W : World) (D : Bool → Nat → Prop) (σ : Sg) : V → Value → Prop
  | .tup cs, c => ∃ a : Array Value, c = .tuple a ∧ a.size = cs.length ∧ ∀ (j : Nat) v, cs[j]? = some v → ∃ u, a[j]? = some u ∧ RepA W D σ v u
  | v, c => RepA W D σ v c

def no0 (N : Nat → Prop) : V → Prop
  | .ref i => ¬ N i
  | .ptr i _ _ => ¬ N i
  | _ => True
def noL (N : Nat → Prop) : V → Prop
  | .con _ v => no0 N v
  | v => no0 N v
def noA (N : Nat → Prop) : V → Prop
  | .agg cs => ∀ v ∈ cs, noL N v
  | v => no0 N v
def noT (N : Nat → Prop) : V → Prop
  | .tup cs => ∀ v ∈ cs, noA N v
  | v => noA N v

/-- how the world, what is fixed in it and where the own blocks lie may change while the values stay -/
structure Keep (W W' : World) (D D' : Bool → Nat → Prop) (σ σ' : Sg) (N : Nat → Prop) : Prop where
  d : ∀ f b, D f b → b < W.heap.size → D' f b
  w : ∀ f b, D f b → b < W.heap.size → W'.heap[b]? = W.heap[b]?
  s : ∀ i, ¬ N i → σ'.g i = σ.g i ∧ σ'.c i = σ.c i ∧ σ'.n i = σ.n i ∧ σ'.s i = σ.s i
section
variable {W W' : World} {D D' : Bool → Nat → Prop} {σ σ' : Sg} {N : Nat → Prop} {v : V} {c : Value}
theorem RepL0.keep (h : RepL0 W D σ v c) (k : Keep W W' D D' σ σ' N) (hn : no0 N v) : RepL0 W' D' σ' v c := by
  cases v with
  | sl f s es => exact RepC.mono h (k.d f) (k.w f)
  | ref i => obtain ⟨h1, h2, h3, h4⟩ := k.s i hn; simp only [RepL0] at h ⊢; rw [h1, h2, h3]; exact h
  | ptr i j o => obtain ⟨h1, h2, h3, h4⟩ := k.s i hn; simp only [RepL0] at h ⊢; rw [h1, h4]; exact h
  | fat f e o =>
    obtain ⟨ad, h1, h2⟩ := h
    refine ⟨ad, h1, fun j v hv => ?_⟩
    obtain ⟨u, h3, h4, h5⟩ := h2 j v hv
    have hl := cell_lt h3
    rw [add_block] at hl
    exact ⟨u, cell_same h3 (by rw [add_block]; exact k.w _ _ h4 hl), k.d _ _ h4 hl, h5.mono (k.d f) (k.w f)⟩
  | _ => exact h
theorem RepL.keep (h : RepL W D σ v c) (k : Keep W W' D D' σ σ' N) (hn : noL N v) : RepL W' D' σ' v c := by
  cases v with
  | con u v => exact ⟨h.1, RepL0.keep h.2 k hn⟩
  | _ => simp only [RepL, noL] at *; exact RepL0.keep h k hn
theorem RepA.keep (h : RepA W D σ v c) (k : Keep W W' D D' σ σ' N) (hn : noA N v) : RepA W' D' σ' v c := by
  cases v with
  | agg cs =>
    obtain ⟨a, h1, h2, h3⟩ := h
    refine ⟨a, h1, h2, fun j v hv => ?_⟩
    obtain ⟨u, h4, h5⟩ := h3 j v hv
    exact ⟨u, h4, h5.keep k (hn v (List.mem_of_getElem? hv))⟩
  | _ => simp only [RepA, noA] at *; exact RepL0.keep h k hn
theorem RepT.keep (h : RepT W D σ v c) (k : Keep W W' D D' σ σ' N) (hn : noT N v) : RepT W' D' σ' v c := by
  cases v with
  | tup cs =>
    obtain ⟨a, h1, h2, h3⟩ := h
    refine ⟨a, h1, h2, fun j v hv => ?_⟩
    obtain ⟨u, h4, h5⟩ := h3 j v hv
    exact ⟨u, h4, h5.keep k (hn v (List.mem_of_getElem? hv))⟩
  | _ => simp only [RepT, noT] at *; exact RepA.keep h k hn
end

/-- an own block -/
def BlkOK (W : World) (D : Bool → Nat → Prop) (σ : Sg) (i : Nat) : Blk → Prop
  | .row e s es => ∃ cur, W.heap[σ.g i]? = some (.cells cur e (0, 0)) ∧ σ.n i = es.length ∧ σ.s i = s ∧ es.length ≤ σ.c i ∧ σ.c i ≤ maxLen ∧ cur.size = σ.c i * s ∧ (∀ e ∈ es, e.length = s) ∧
      ∀ (j : Nat) e, es[j]? = some e → ∀ (o : Nat) v, e[o]? = some v → ∃ u, cur[j * s + o]? = some u ∧ RepC W (D true) v u
  | .box cs => ∃ cur e, W.heap[σ.g i]? = some (.cells cur e (0, 0)) ∧ cur.size = cs.length ∧ ∀ (j : Nat) v, cs[j]? = some v → ∃ u, cur[j]? = some u ∧ RepL W D σ v u
def noB (N : Nat → Prop) : Blk → Prop
  | .row _ _ _ => True
  | .box cs => ∀ v ∈ cs, noL N v
theorem BlkOK.keep {W W' : World} {D D' : Bool → Nat → Prop} {σ σ' : Sg} {N : Nat → Prop} {i : Nat} {b : Blk} (h : BlkOK W D σ i b) (k : Keep W W' D D' σ σ' N) (hi : ¬ N i) (hn : noB N b)
    (hw : W'.heap[σ.g i]? = W.heap[σ.g i]?) : BlkOK W' D' σ' i b := by
  obtain ⟨k1, k2, k3, k4⟩ := k.s i hi
  cases b with
  | row e s es =>
    obtain ⟨cur, h1, h2, h3, h4, h5, h6, h7, h8⟩ := h
    refine ⟨cur, by rw [k1, hw]; exact h1, by rw [k3]; exact h2, by rw [k4]; exact h3, by rw [k2]; exact h4, by rw [k2]; exact h5, by rw [k2]; exact h6, h7, fun j e he o v hv => ?_⟩
    obtain ⟨u, h9, h10⟩ := h8 j e he o v hv
    exact ⟨u, h9, h10.mono (k.d true) (k.w true)⟩
  | box cs =>
    obtain ⟨cur, e, h1, h2, h3⟩ := h
    refine ⟨cur, e, by rw [k1, hw]; exact h1, h2, fun j v hv => ?_⟩
    obtain ⟨u, h4, h5⟩ := h3 j v hv
    exact ⟨u, h4, h5.keep k (hn v (List.mem_of_getElem? hv))⟩

/-- what is fixed for the time of one call -/
structure Fr where
  P : Program
  W0 : World
  par : Nat → Prop
  N : Nat
  g0 : Nat
def Own (σ : Sg) (B : Nat → Option Blk) (b : Nat) : Prop := ∃ i x, B i = some x ∧ σ.g i = b
def Dm (F : Fr) (σ : Sg) (B : Nat → Option Blk) : Bool → Nat → Prop
  | true, b => F.W0.heap.size ≤ b ∧ ¬ Own σ B b
  | false, b => b < F.W0.heap.size ∧ ¬ F.par b
/-- since the call's begin -/
structure Since (F : Fr) (W : World) : Prop where
  os : W.os = F.W0.os
  tape : W.tape = F.W0.tape
  output : W.output = F.W0.output
  size : F.W0.heap.size ≤ W.heap.size
  block : ∀ k, k < F.W0.heap.size → ¬ F.par k → W.heap[k]? = F.W0.heap[k]?
structure Sim (F : Fr) (σ : Sg) (S : AS) (a : Act) (W : World) : Prop where
  df : a.defers = []
  sz : a.tmps.size = F.N
  t : ∀ t, RepT W (Dm F σ S.B) σ (S.T t) (a.tmps.getD t undef)
  b : ∀ i x, S.B i = some x → BlkOK W (Dm F σ S.B) σ i x
  inj : ∀ i j x y, S.B i = some x → S.B j = some y → σ.g i = σ.g j → i = j
  ge : ∀ i x, S.B i = some x → F.W0.heap.size ≤ σ.g i ∨ F.par (σ.g i)
  ext : Since F W
  z : σ.g 0 = F.g0

def Absent (N : Nat → Prop) (S : AS) : Prop := (∀ t, noT N (S.T t)) ∧ ∀ i x, S.B i = some x → ¬ N i ∧ noB N x

theorem Sim.blk_lt {F : Fr} {σ : Sg} {S : AS} {a : Act} {W : World} (h : Sim F σ S a W) {i : Nat} {x : Blk} (hx : S.B i = some x) : σ.g i < W.heap.size := by
  have := h.b i x hx
  cases x with
  | row e s es => obtain ⟨cur, h1, _⟩ := this; exact (Array.getElem?_eq_some_iff.1 h1).1
  | box cs => obtain ⟨cur, e, h1, _⟩ := this; exact (Array.getElem?_eq_some_iff.1 h1).1
/-- fixed blocks are not own blocks -/
theorem Sim.dm_ne {F : Fr} {σ : Sg} {S : AS} {a : Act} {W : World} (h : Sim F σ S a W) {i : Nat} {x : Blk} (hx : S.B i = some x) {f : Bool} {b : Nat} (hd : Dm F σ S.B f b) : b ≠ σ.g i := by
  rintro rfl
  cases f with
  | true => exact hd.2 ⟨i, x, hx, rfl⟩
  | false =>
    rcases h.ge i x hx with h1 | h1
    · have := hd.1; omega
    · exact hd.2 h1

def updO {α : Type} (T : Nat → α) (d : Option Nat) (v : α) : Nat → α := match d with | none => T | some d => fun t => if t = d then v else T t
def upd {α : Type} (T : Nat → α) (d : Nat) (v : α) : Nat → α := fun t => if t = d then v else T t

theorem put_getD (a : Act) (d : Option Tmp) (c : Value) (t : Nat) (hd : ∀ k, d = some k → k < a.tmps.size) : (a.put d c).tmps.getD t undef = if d = some t then c else a.tmps.getD t undef := by
  cases d with
  | none => simp [Act.put]
  | some d =>
    have := hd d rfl
    simp only [Act.put, Option.some.injEq]
    split
    · next h => subst h; simp [Array.getElem?_setIfInBounds, this]
    · next h => simp [Array.getElem?_setIfInBounds_ne h]
theorem put_size (a : Act) (d : Option Tmp) (c : Value) : (a.put d c).tmps.size = a.tmps.size := by cases d <;> simp [Act.put]
theorem put_defers (a : Act) (d : Option Tmp) (c : Value) : (a.put d c).defers = a.defers := by cases d <;> rfl

theorem Sim.put {F : Fr} {σ : Sg} {S : AS} {a : Act} {W : World} (h : Sim F σ S a W) {d : Option Tmp} {v : V} {c : Value} (hd : ∀ k, d = some k → k < F.N) (hv : RepT W (Dm F σ S.B) σ v c) :
    Sim F σ ⟨updO S.T d v, S.B⟩ (a.put d c) W := by
  refine ⟨by rw [put_defers]; exact h.df, by rw [put_size]; exact h.sz, fun t => ?_, h.b, h.inj, h.ge, h.ext, h.z⟩
  rw [put_getD a d c t (by rw [h.sz]; exact hd)]
  cases d with
  | none => simpa [updO] using h.t t
  | some d =>
    by_cases ht : t = d
    · subst ht; simpa [updO] using hv
    · have : ¬ (d = t) := fun e => ht e.symm
      simp only [updO, ht, if_false, Option.some.injEq, this]
      exact h.t t
end Go.Proofs.YtfakhgopbhnocaaVM
namespace Go.Proofs.YtfakhgopbhnocaaVM
open Go

def Sg.at (σ : Sg) (i G cp nn ss : Nat) : Sg := ⟨upd σ.g i G, upd σ.c i cp, upd σ.n i nn, upd σ.s i ss⟩
theorem upd_same {α : Type} (T : Nat → α) (d : Nat) (v : α) : upd T d v d = v := by simp [upd]
theorem upd_ne {α : Type} (T : Nat → α) {d t : Nat} (v : α) (h : t ≠ d) : upd T d v t = T t := by simp [upd, h]
theorem Sg.at_ne (σ : Sg) {i j : Nat} (G cp nn ss : Nat) (h : ¬ j = i) : (σ.at i G cp nn ss).g j = σ.g j ∧ (σ.at i G cp nn ss).c j = σ.c j ∧ (σ.at i G cp nn ss).n j = σ.n j ∧ (σ.at i G cp nn ss).s j = σ.s j :=
  ⟨upd_ne _ _ h, upd_ne _ _ h, upd_ne _ _ h, upd_ne _ _ h⟩

theorem Since.grown {F : Fr} {W W' : World} {row : Option Nat} (h : Since F W) (g : W.grownBy W' row) (hr : ∀ k, row = some k → F.W0.heap.size ≤ k ∨ F.par k) : Since F W' :=
  ⟨g.os.trans h.os, g.tape.trans h.tape, g.output.trans h.output, Nat.le_trans h.size g.size, fun k hk hp =>
    (g.block k (Nat.lt_of_lt_of_le hk h.size) (fun e => by rcases hr k e.symm with h1 | h1; omega; exact hp h1)).trans (h.block k hk hp)⟩

theorem no0_false (v : V) : no0 (fun _ => False) v := by cases v <;> simp [no0]
theorem noL_false (v : V) : noL (fun _ => False) v := by
  cases v with
  | con u v => exact no0_false v
  | _ => simp only [noL]; exact no0_false _
theorem noA_false (v : V) : noA (fun _ => False) v := by
  cases v with
  | agg cs => exact fun v _ => noL_false v
  | _ => simp only [noA]; exact no0_false _
theorem noT_false (v : V) : noT (fun _ => False) v := by
  cases v with
  | tup cs => exact fun v _ => noA_false v
  | _ => simp only [noT]; exact noA_false _
theorem noB_false (x : Blk) : noB (fun _ => False) x := by
  cases x with
  | row => trivial
  | box cs => exact fun v _ => noL_false v

/-- a new own block -/
theorem Sim.new {F : Fr} {σ : Sg} {S : AS} {a : Act} {W W' : World} (h : Sim F σ S a W) (hg : W.grownBy W' none) {i : Nat} (hi0 : 0 ≠ i) (habs : Absent (· = i) S) {G cp nn ss : Nat} (hG : W.heap.size ≤ G) {x : Blk}
    (hb : BlkOK W' (Dm F (σ.at i G cp nn ss) (upd S.B i (some x))) (σ.at i G cp nn ss) i x) {d : Option Tmp} (hd : ∀ k, d = some k → k < F.N) {v : V} {c : Value}
    (hv : RepT W' (Dm F (σ.at i G cp nn ss) (upd S.B i (some x))) (σ.at i G cp nn ss) v c) :
    Sim F (σ.at i G cp nn ss) ⟨updO S.T d v, upd S.B i (some x)⟩ (a.put d c) W' := by
  have hiB : ∀ j y, upd S.B i (some x) j = some y → j = i ∨ (j ≠ i ∧ S.B j = some y) := fun j y hj => by
    by_cases e : j = i
    · exact .inl e
    · rw [upd_ne _ _ e] at hj; exact .inr ⟨e, hj⟩
  have k : Keep W W' (Dm F σ S.B) (Dm F (σ.at i G cp nn ss) (upd S.B i (some x))) σ (σ.at i G cp nn ss) (· = i) := by
    refine ⟨fun f b hdb hlt => ?_, fun f b _ hlt => hg.block b hlt (by simp), fun j hj => Sg.at_ne _ _ _ _ _ hj⟩
    cases f with
    | false => exact hdb
    | true =>
      refine ⟨hdb.1, ?_⟩
      rintro ⟨j, y, hj, hgj⟩
      rcases hiB j y hj with rfl | ⟨e, hj⟩
      · simp only [Sg.at, upd_same] at hgj; omega
      · rw [(Sg.at_ne σ G cp nn ss e).1] at hgj
        exact hdb.2 ⟨j, y, hj, hgj⟩
  have base : Sim F (σ.at i G cp nn ss) ⟨S.T, upd S.B i (some x)⟩ a W' := by
    refine ⟨h.df, h.sz, fun t => (h.t t).keep k (habs.1 t), fun j y hj => ?_, fun j j' y y' hj hj' hgg => ?_, fun j y hj => ?_, h.ext.grown hg (by simp), by rw [(Sg.at_ne σ G cp nn ss hi0).1]; exact h.z⟩
    · rcases hiB j y hj with rfl | ⟨e, hj⟩
      · have : y = x := by simpa [upd_same] using hj.symm
        subst this; exact hb
      · exact (h.b j y hj).keep k e (habs.2 j y hj).2 (hg.block _ (h.blk_lt hj) (by simp))
    · rcases hiB j y hj with e | ⟨e, h1⟩ <;> rcases hiB j' y' hj' with e' | ⟨e', h2⟩
      · exact e.trans e'.symm
      · rw [(Sg.at_ne σ G cp nn ss e').1, e] at hgg
        simp only [Sg.at, upd_same] at hgg
        have := h.blk_lt h2; omega
      · rw [(Sg.at_ne σ G cp nn ss e).1, e'] at hgg
        simp only [Sg.at, upd_same] at hgg
        have := h.blk_lt h1; omega
      · rw [(Sg.at_ne σ G cp nn ss e).1, (Sg.at_ne σ G cp nn ss e').1] at hgg
        exact h.inj j j' y y' h1 h2 hgg
    · rcases hiB j y hj with rfl | ⟨e, hj⟩
      · refine .inl ?_
        simp only [Sg.at, upd_same]
        have := h.ext.size; omega
      · rw [(Sg.at_ne σ G cp nn ss e).1]; exact h.ge j y hj
  exact base.put hd hv

/-- something else in an own block -/
theorem Sim.write {F : Fr} {σ : Sg} {S : AS} {a : Act} {W W' : World} (h : Sim F σ S a W) {i : Nat} {x x' : Blk} (hx : S.B i = some x) (hg : W.grownBy W' (some (σ.g i)))
    (hb : BlkOK W' (Dm F σ S.B) σ i x') : Sim F σ ⟨S.T, upd S.B i (some x')⟩ a W' := by
  have hiB : ∀ j y, upd S.B i (some x') j = some y → ∃ z, S.B j = some z ∧ (j = i ∧ y = x' ∨ j ≠ i ∧ z = y) := fun j y hj => by
    by_cases e : j = i
    · subst e; exact ⟨x, hx, .inl ⟨rfl, by simpa [upd_same] using hj.symm⟩⟩
    · rw [upd_ne _ _ e] at hj; exact ⟨y, hj, .inr ⟨e, rfl⟩⟩
  have hOwn : ∀ b, Own σ (upd S.B i (some x')) b ↔ Own σ S.B b := fun b => by
    constructor
    · rintro ⟨j, y, hj, e⟩; obtain ⟨z, hz, _⟩ := hiB j y hj; exact ⟨j, z, hz, e⟩
    · rintro ⟨j, y, hj, e⟩
      by_cases hji : j = i
      · subst hji; exact ⟨j, x', upd_same _ _ _, e⟩
      · exact ⟨j, y, by rw [upd_ne _ _ hji]; exact hj, e⟩
  have hD : Dm F σ (upd S.B i (some x')) = Dm F σ S.B := by funext f b; cases f <;> simp only [Dm, hOwn]
  have k : Keep W W' (Dm F σ S.B) (Dm F σ S.B) σ σ (fun _ => False) :=
    ⟨fun f b hdb _ => hdb, fun f b hdb hlt => hg.block b hlt (fun e => h.dm_ne hx hdb (Option.some.inj e)), fun _ _ => ⟨rfl, rfl, rfl, rfl⟩⟩
  refine ⟨h.df, h.sz, fun t => ?_, fun j y hj => ?_, fun j j' y y' hj hj' hgg => ?_, fun j y hj => ?_, h.ext.grown hg (fun k hk => by
    obtain rfl := Option.some.inj hk; exact h.ge i x hx), h.z⟩
  · rw [hD]; exact (h.t t).keep k (noT_false _)
  · rw [hD]
    obtain ⟨z, hz, ⟨rfl, rfl⟩ | ⟨e, rfl⟩⟩ := hiB j y hj
    · exact hb
    · exact (h.b j z hz).keep k (by simp) (noB_false _) (hg.block _ (h.blk_lt hz) (fun e' => e (h.inj j i z x hz hx (Option.some.inj e'))))
  · obtain ⟨z, hz, _⟩ := hiB j y hj
    obtain ⟨z', hz', _⟩ := hiB j' y' hj'
    exact h.inj j j' z z' hz hz' hgg
  · obtain ⟨z, hz, _⟩ := hiB j y hj
    exact h.ge j z hz

/-- a weaker state -/
theorem Sim.forget {F : Fr} {σ : Sg} {S : AS} {a : Act} {W : World} (h : Sim F σ S a W) (T : Nat → V) (B : Nat → Option Blk) (hT : ∀ t, T t = S.T t ∨ T t = .und) (hB : ∀ i, B i = S.B i ∨ B i = none) : Sim F σ ⟨T, B⟩ a W := by
  have hB' : ∀ i x, B i = some x → S.B i = some x := fun i x hi => by
    rcases hB i with h1 | h1
    · rw [← h1]; exact hi
    · rw [h1] at hi; cases hi
  have k : Keep W W (Dm F σ S.B) (Dm F σ B) σ σ (fun _ => False) := by
    refine ⟨fun f b hdb _ => ?_, fun f b _ _ => rfl, fun _ _ => ⟨rfl, rfl, rfl, rfl⟩⟩
    cases f with
    | false => exact hdb
    | true => exact ⟨hdb.1, fun ⟨j, y, hj, e⟩ => hdb.2 ⟨j, y, hB' j y hj, e⟩⟩
  refine ⟨h.df, h.sz, fun t => ?_, fun i x hi => ?_, fun i j x y hi hj => h.inj i j x y (hB' i x hi) (hB' j y hj), fun i x hi => h.ge i x (hB' i x hi), h.ext, h.z⟩
  · rcases hT t with h1 | h1
    · simp only [h1]; exact (h.t t).keep k (noT_false _)
    · simp only [h1]; trivial
  · exact (h.b i x (hB' i x hi)).keep k (by simp) (noB_false _) rfl
/-- only the count of draws differs -/
theorem Sim.drew {F : Fr} {σ : Sg} {S : AS} {a : Act} {W W' : World} (h : Sim F σ S a W) (hh : W'.heap = W.heap) (ho : W'.os = W.os) (ht : W'.tape = W.tape) (hp : W'.output = W.output) : Sim F σ S a W' := by
  have k : Keep W W' (Dm F σ S.B) (Dm F σ S.B) σ σ (fun _ => False) :=
    ⟨fun f b hdb _ => hdb, fun f b hdb hlt => by rw [hh], fun _ _ => ⟨rfl, rfl, rfl, rfl⟩⟩
  exact ⟨h.df, h.sz, fun t => (h.t t).keep k (noT_false _), fun i x hi => (h.b i x hi).keep k (by simp) (noB_false _) (by rw [hh]), h.inj, h.ge,
    ⟨ho.trans h.ext.os, ht.trans h.ext.tape, hp.trans h.ext.output, by rw [hh]; exact h.ext.size, fun k hk hpk => by rw [hh]; exact h.ext.block k hk hpk⟩, h.z⟩
end Go.Proofs.YtfakhgopbhnocaaVM
namespace Go.Proofs.YtfakhgopbhnocaaVM
open Go

/-! ### the table of types -/
structure TI where
  size : Nat
  agg : Bool
  bytes : Nat
  zero : List V
def zrep : V → Value → Prop
  | .int k n, u => u = .int k n
  | .bool b, u => u = .bool b
  | .nil, u => u = .slice none 0 0
  | _, _ => False
def isAggD : TypeDesc → Bool
  | .struct _ | .array _ _ => true
  | _ => false
structure TIok (P : Program) (t : TypeId) (x : TI) : Prop where
  info : ∃ i z, P.info? t = some i ∧ i.zero = some z ∧ i.size = x.size ∧ i.bytes = x.bytes ∧ z.cells.size = x.size ∧ x.zero.length = x.size ∧ ∀ (j : Nat) v, x.zero[j]? = some v → ∃ u, z.cells[j]? = some u ∧ zrep v u
  agg : ∃ d, P.underlying t = some d ∧ isAggD d = x.agg
  one : x.agg = false → x.size = 1
  pos : 0 < x.size
  bpos : 0 < x.bytes
structure Env where
  P : Program
  ti : TypeId → Option TI
  el : TypeId → Option TypeId
  fo : TypeId → Nat → Option Nat
  bo : TypeId → Bool
  io : TypeId → Option IntKind
  eqs : TypeId → Option Nat
  loud : FuncId → Bool
  pl : TypeId → Option (List (Nat × Nat))
  hti : ∀ t x, ti t = some x → TIok P t x
  hel : ∀ t e, el t = some e → P.underlying t = some (.slice e)
  hfo : ∀ t k n, fo t k = some n → ∃ fs f i, P.underlying t = some (.struct fs) ∧ fs[k]? = some f ∧ f.offset = n ∧ P.info? f.type = some i ∧ i.size ≠ 0
  hbo : ∀ t, bo t = true → P.underlying t = some .bool
  hio : ∀ t k, io t = some k → P.underlying t = some (.int k)
  heq : ∀ t n, eqs t = some n → ∀ (w : World) (xs ys : Array Value) (as bs : List Int), xs.toList = as.map (.int .i64) → ys.toList = bs.map (.int .i64) → as.length = n → bs.length = n →
    ∀ x y, ((eqGuard .eql t x y (.agg xs) (.agg ys)).run P w = .ok () w ∧ (binOp .eql t (.agg xs) (.agg ys)).run P w = .ok (.bool (as == bs)) w) ∧
      ((eqGuard .neq t x y (.agg xs) (.agg ys)).run P w = .ok () w ∧ (binOp .neq t (.agg xs) (.agg ys)).run P w = .ok (.bool (as != bs)) w)
  hpl : ∀ t ps, pl t = some ps → ∃ fs, P.underlying t = some (.struct fs) ∧ fs.toList.mapM (fun f => (P.info? f.type).map fun i => (f.offset, i.size)) = some ps
  mixed : P.follows .mixedOrders = true

/-! ### what an operand is -/
def cv0 : Value → V
  | .int k n => .int k n
  | .bool b => .bool b
  | .slice none 0 0 => .nil
  | _ => .und
def cv : Value → V
  | .agg cs => .agg (cs.toList.map cv0)
  | v => cv0 v
def ev (T : Nat → V) : Operand → V
  | .tmp t => T t
  | .const v => cv v
  | _ => .und

theorem RepL0_cv0 (W : World) (D : Bool → Nat → Prop) (σ : Sg) (v : Value) : RepL0 W D σ (cv0 v) v := by
  unfold cv0
  split <;> simp [RepL0]
theorem cv0_leaf (v : Value) : (∃ k n, cv0 v = .int k n) ∨ (∃ b, cv0 v = .bool b) ∨ cv0 v = .nil ∨ cv0 v = .und := by
  unfold cv0; split <;> simp
theorem RepL_of0 {W : World} {D : Bool → Nat → Prop} {σ : Sg} {v : V} {c : Value} (h : RepL0 W D σ v c) : RepL W D σ v c := by
  cases v with
  | con u v => exact h.elim
  | _ => simpa only [RepL] using h
theorem RepA_of0 {W : World} {D : Bool → Nat → Prop} {σ : Sg} {v : V} {c : Value} (h : RepL0 W D σ v c) : RepA W D σ v c := by
  cases v with
  | agg cs => exact h.elim
  | _ => simpa only [RepA] using h
theorem RepT_ofA {W : World} {D : Bool → Nat → Prop} {σ : Sg} {v : V} {c : Value} (h : RepA W D σ v c) : RepT W D σ v c := by
  cases v with
  | tup cs => simp only [RepA, RepL0] at h
  | _ => simpa only [RepT] using h
theorem RepT_of0 {W : World} {D : Bool → Nat → Prop} {σ : Sg} {v : V} {c : Value} (h : RepL0 W D σ v c) : RepT W D σ v c := RepT_ofA (RepA_of0 h)
theorem RepT_cv (W : World) (D : Bool → Nat → Prop) (σ : Sg) (v : Value) : RepT W D σ (cv v) v := by
  unfold cv
  split
  · next cs =>
    refine RepT_ofA ⟨cs, rfl, by simp, fun j v hv => ?_⟩
    rw [List.getElem?_map] at hv
    obtain ⟨u, hu, rfl⟩ := Option.map_eq_some_iff.1 hv
    exact ⟨u, by simpa using hu, RepL_of0 (RepL0_cv0 _ _ _ _)⟩
  · exact RepT_of0 (RepL0_cv0 _ _ _ _)
theorem Sim.ev {F : Fr} {σ : Sg} {S : AS} {a : Act} {W : World} (h : Sim F σ S a W) (x : Operand) : RepT W (Dm F σ S.B) σ (Go.Proofs.YtfakhgopbhnocaaVM.ev S.T x) (a.eval x) := by
  cases x with
  | tmp t => exact h.t t
  | const v => exact RepT_cv _ _ _ _
  | global g => trivial
  | func f => trivial

section inv
variable {W : World} {D : Bool → Nat → Prop} {σ : Sg} {c : Value}
theorem RepT.int_ {k n} (h : RepT W D σ (.int k n) c) : c = .int k n := h
theorem RepT.bool_ {b} (h : RepT W D σ (.bool b) c) : c = .bool b := h
theorem RepT.nil_ (h : RepT W D σ .nil c) : c = .slice none 0 0 := h
theorem RepT.sl_ {f s es} (h : RepT W D σ (.sl f s es) c) : RepC W (D f) (.sl f s es) c := h
theorem RepT.ref_ {i} (h : RepT W D σ (.ref i) c) : c = .slice (some ⟨σ.g i, 0, none⟩) (σ.n i) (σ.c i) := h
theorem RepT.ptr_ {i j o} (h : RepT W D σ (.ptr i j o) c) : c = .pointer (some ((⟨σ.g i, 0, none⟩ : Addr).add (j * σ.s i + o))) := h
theorem RepT.fat_ {f e o} (h : RepT W D σ (.fat f e o) c) : ∃ ad, c = .pointer (some ad) ∧ ∀ (j : Nat) v, e[o + j]? = some v → ∃ u, W.cell? (ad.add j) = some u ∧ D f ad.block ∧ RepC W (D f) v u := h
theorem RepT.agg_ {cs} (h : RepT W D σ (.agg cs) c) : ∃ a : Array Value, c = .agg a ∧ a.size = cs.length ∧ ∀ (j : Nat) v, cs[j]? = some v → ∃ u, a[j]? = some u ∧ RepL W D σ v u := h
theorem RepT.tup_ {cs} (h : RepT W D σ (.tup cs) c) : ∃ a : Array Value, c = .tuple a ∧ a.size = cs.length ∧ ∀ (j : Nat) v, cs[j]? = some v → ∃ u, a[j]? = some u ∧ RepA W D σ v u := h
end inv

/-! ### taking a cell out of a block or a fixed row -/
def unc : V → V
  | .con _ (.con _ _) => .und
  | .con _ (.agg _) => .und
  | .con _ (.tup _) => .und
  | .con _ v => v
  | .agg _ => .und
  | .tup _ => .und
  | v => v
def rt (f : Bool) : V → V
  | .sl _ s es => .sl f s es
  | .int k n => .int k n
  | .bool b => .bool b
  | .nil => .nil
  | _ => .und
theorem RepL.unc {W : World} {D : Bool → Nat → Prop} {σ : Sg} {v : V} {c : Value} (h : RepL W D σ v c) : RepL0 W D σ (Go.Proofs.YtfakhgopbhnocaaVM.unc v) c := by
  cases v with
  | con u v => cases v <;> first | exact h.2 | trivial
  | agg cs => trivial
  | tup cs => trivial
  | _ => simpa only [RepL, Go.Proofs.YtfakhgopbhnocaaVM.unc] using h
theorem RepC.rt {W : World} {D : Bool → Nat → Prop} {σ : Sg} {f : Bool} {v : V} {c : Value} (h : RepC W (D f) v c) : RepL0 W D σ (Go.Proofs.YtfakhgopbhnocaaVM.rt f v) c := by
  cases v with
  | sl g s es => exact RepC.retag h
  | _ => cases h <;> simp [Go.Proofs.YtfakhgopbhnocaaVM.rt, RepL0]

section runs
variable {P : Program} {W : World}
theorem run_isAgg {t : TypeId} {x : TI} (h : TIok P t x) (w : World) : (isAgg t).run P w = .ok x.agg w := by
  obtain ⟨d, h1, h2⟩ := h.agg
  simp only [isAgg, Sem.run_bind, run_underlying h1, Result.andThen_ok]
  cases d <;> simp_all [isAggD] <;> rfl
theorem run_size {t : TypeId} {x : TI} (h : TIok P t x) (w : World) : (sizeOf t).run P w = .ok x.size w := by
  obtain ⟨i, z, h1, h2, h3, _⟩ := h.info
  simp [sizeOf, typeInfo, h1, h3]
theorem run_loadAt_one {t : TypeId} {x : TI} (h : TIok P t x) (ha : x.agg = false) {ad : Addr} {u : Value} (hc : W.cell? ad = some u) : (Instr.loadAt t (.pointer (some ad))).run P W = .ok u W := by
  simp [Instr.loadAt, Instr.sureAddr, loadVar, run_isAgg h, ha, hc]
theorem run_loadAt_agg {t : TypeId} {x : TI} (h : TIok P t x) (ha : x.agg = true) {ad : Addr} {us : List Value} (hl : us.length = x.size) (hc : ∀ (j : Nat) u, us[j]? = some u → W.cell? (ad.add j) = some u) :
    (Instr.loadAt t (.pointer (some ad))).run P W = .ok (.agg us.toArray) W := by
  have := run_loadCells_list (P := P) W ad us hc
  rw [hl] at this
  simp [Instr.loadAt, Instr.sureAddr, loadVar, run_isAgg h, ha, run_size h, this]
end runs
theorem choose_list {α β : Type} (R : α → β → Prop) (q : Nat → Option β) : ∀ (l : List α) (k : Nat), (∀ (j : Nat) v, l[j]? = some v → ∃ u, q (k + j) = some u ∧ R v u) →
    ∃ us : List β, us.length = l.length ∧ (∀ (j : Nat) u, us[j]? = some u → q (k + j) = some u) ∧ ∀ (j : Nat) v, l[j]? = some v → ∃ u, us[j]? = some u ∧ R v u
  | [], k, _ => ⟨[], rfl, fun j u h => by simp at h, fun j v h => by simp at h⟩
  | a :: l, k, h => by
    obtain ⟨u0, hu0, hr0⟩ := h 0 a rfl
    obtain ⟨us, h1, h2, h3⟩ := choose_list R q l (k + 1) (fun j v hj => by
      obtain ⟨u, hu, hr⟩ := h (j + 1) v (by simpa using hj)
      exact ⟨u, by rw [show k + 1 + j = k + (j + 1) by omega]; exact hu, hr⟩)
    refine ⟨u0 :: us, by simp [h1], fun j u hj => ?_, fun j v hj => ?_⟩
    · cases j with
      | zero => simp at hj; subst hj; exact hu0
      | succ j => rw [show k + (j + 1) = k + 1 + j by omega]; exact h2 j u (by simpa using hj)
    · cases j with
      | zero => simp at hj; subst hj; exact ⟨u0, rfl, hr0⟩
      | succ j => obtain ⟨u, hu, hr⟩ := h3 j v (by simpa using hj); exact ⟨u, by simpa using hu, hr⟩
theorem add_add (a : Addr) (i j : Nat) : (a.add i).add j = a.add (i + j) := by
  unfold Addr.add
  by_cases hi : i = 0 <;> by_cases hj : j = 0 <;> simp [hi, hj, Nat.add_assoc]
end Go.Proofs.YtfakhgopbhnocaaVM
namespace Go.Proofs.YtfakhgopbhnocaaVM
open Go

/-! ### quiet operations: what they yield, out of what the operands are and what the own blocks hold -/
def qLoad (E : Env) (x : TI) (B : Nat → Option Blk) : V → Option (Prop × V)
  | .ptr i j o => match B i with
    | some (.box cs) => match j with
      | 0 => match x.agg with
        | true => some (o + x.size ≤ cs.length, .agg (((cs.drop o).take x.size).map unc))
        | false => match cs[o]? with
          | some v => some (True, unc v)
          | none => none
      | _ => none
    | some (.row e s es) => match E.ti e with
      | some y => match x.agg with
        | true => some (j < es.length ∧ o + x.size ≤ s, .agg ((((es.getD j y.zero).drop o).take x.size).map (rt true)))
        | false => some (j < es.length ∧ o < s, rt true ((es.getD j y.zero).getD o .und))
      | none => none
    | none => none
  | .fat f e o => match x.agg with
    | true => some (o + x.size ≤ e.length, .agg (((e.drop o).take x.size).map (rt f)))
    | false => some (o < e.length, rt f (e.getD o .und))
  | _ => none
def qIndex (E : Env) (t : TypeId) (B : Nat → Option Blk) : V → V → Option (Prop × V)
  | .sl f s es, .int _ i => match E.el t with
    | some e => match E.ti e with
      | some y => some (0 ≤ i ∧ i < (es.length : Int) ∧ y.size = s, .fat f (es.getD i.toNat y.zero) 0)
      | none => none
    | none => none
  | .ref k, .int _ i => match E.el t, B k with
    | some e, some (.row _ s es) => match E.ti e with
      | some y => some (0 ≤ i ∧ i < (es.length : Int) ∧ y.size = s, .ptr k i.toNat 0)
      | none => none
    | _, _ => none
  | _, _ => none
def intsOf : List V → Option (List Int)
  | [] => some []
  | .int .i64 n :: xs => (intsOf xs).map (n :: ·)
  | _ => none
def qBin (E : Env) (t : TypeId) : BinOp → V → V → Option (Prop × V)
  | .add, .int k a, .int k' b => some (k = k', .int k (k.wrap (a + b)))
  | .sub, .int k a, .int k' b => some (k = k', .int k (k.wrap (a - b)))
  | .mul, .int k a, .int k' b => some (k = k', .int k (k.wrap (a * b)))
  | .quo, .int k a, .int k' b => some (k = k' ∧ b ≠ 0, .int k (k.wrap (a.tdiv b)))
  | .rem, .int k a, .int k' b => some (k = k' ∧ b ≠ 0, .int k (a.tmod b))
  | .and, .int k a, .int k' b => some (k = k', .int k (bits .and k a b))
  | .or, .int k a, .int k' b => some (k = k', .int k (bits .or k a b))
  | .shr, .int k a, .int _ b => some (0 ≤ b ∧ b ≤ (k.bits : Int), .int k (a / 2 ^ b.toNat))
  | .shl, .int k a, .int _ b => some (0 ≤ b ∧ b ≤ (k.bits : Int), .int k (k.wrap (a * 2 ^ b.toNat)))
  | .eql, .int k a, .int k' b => some (k = k', .bool (a == b))
  | .neq, .int k a, .int k' b => some (k = k', .bool (a != b))
  | .lss, .int k a, .int k' b => some (k = k', .bool (a < b))
  | .leq, .int k a, .int k' b => some (k = k', .bool (a ≤ b))
  | .gtr, .int k a, .int k' b => some (k = k', .bool (a > b))
  | .geq, .int k a, .int k' b => some (k = k', .bool (a ≥ b))
  | .eql, .bool a, .bool b => some (E.bo t = true, .bool (a == b))
  | .neq, .bool a, .bool b => some (E.bo t = true, .bool (a != b))
  | .eql, .agg xs, .agg ys => match E.eqs t, intsOf xs, intsOf ys with
    | some n, some as, some bs => some (as.length = n ∧ bs.length = n, .bool (as == bs))
    | _, _, _ => none
  | .neq, .agg xs, .agg ys => match E.eqs t, intsOf xs, intsOf ys with
    | some n, some as, some bs => some (as.length = n ∧ bs.length = n, .bool (as != bs))
    | _, _, _ => none
  | _, _, _ => none
theorem intsOf_rep {W : World} {D : Bool → Nat → Prop} {σ : Sg} : ∀ (xs : List V) (as : List Int) (k : Nat) (a : Array Value), intsOf xs = some as → a.size = k + xs.length → (∀ (j : Nat) v, xs[j]? = some v → ∃ u, a[k + j]? = some u ∧ RepL W D σ v u) →
    a.toList.drop k = as.map (.int .i64)
  | [], as, k, a, h, hs, hr => by
    simp only [intsOf, Option.some.injEq] at h
    subst h
    simp at hs ⊢; omega
  | x :: xs, as, k, a, h, hs, hr => by
    cases x with
    | int kk n =>
      cases kk with
      | i64 =>
        simp only [intsOf, Option.map_eq_some_iff] at h
        obtain ⟨bs, hb, rfl⟩ := h
        obtain ⟨u, hu, hru⟩ := hr 0 _ rfl
        have hu' : u = .int .i64 n := hru
        subst hu'
        have ih := intsOf_rep xs bs (k + 1) a hb (by simp at hs; omega) (fun j v hv => by
          obtain ⟨u, h1, h2⟩ := hr (j + 1) v (by simpa using hv)
          exact ⟨u, by rw [show k + 1 + j = k + (j + 1) by omega]; exact h1, h2⟩)
        have hk : k < a.toList.length := by simp at hs ⊢; omega
        rw [List.drop_eq_getElem_cons hk, ih]
        have : a.toList[k] = .int .i64 n := by
          have := hu
          simp only [Nat.add_zero] at this
          rw [← Array.getElem?_toList, List.getElem?_eq_getElem hk] at this
          exact Option.some.inj this
        rw [this]; rfl
      | _ => simp [intsOf] at h
    | _ => simp [intsOf] at h
theorem qBin_sound (E : Env) {W : World} {D : Bool → Nat → Prop} {σ : Sg} {t : TypeId} {op : BinOp} {x y v : V} {C : Prop} (h : qBin E t op x y = some (C, v)) (hC : C) {cx cy : Value} (hx : RepT W D σ x cx) (hy : RepT W D σ y cy) (px py : Operand) :
    ∃ c, ((do eqGuard op t px py cx cy; binOp op t cx cy : Sem Value).run E.P W) = .ok c W ∧ RepT W D σ v c := by
  unfold qBin at h
  split at h
  case h_16 b1 b2 => 
    simp only [Option.some.injEq, Prod.mk.injEq] at h
    obtain ⟨rfl, rfl⟩ := h
    cases hx.bool_
    cases hy.bool_
    exact ⟨_, by simp only [eqGuard_at_bool, pure_bind, run_eql_bool W t b1 b2 (E.hbo _ hC)], rfl⟩
  case h_17 b1 b2 => 
    simp only [Option.some.injEq, Prod.mk.injEq] at h
    obtain ⟨rfl, rfl⟩ := h
    cases hx.bool_
    cases hy.bool_
    exact ⟨_, by simp only [eqGuard_at_bool, pure_bind, run_neq_bool W t b1 b2 (E.hbo _ hC)]; rfl, rfl⟩
  case h_18 xs ys =>
    split at h
    · next n as bs h1 h2 h3 =>
      simp only [Option.some.injEq, Prod.mk.injEq] at h
      obtain ⟨rfl, rfl⟩ := h
      obtain ⟨ax, rfl, h4, h5⟩ := hx.agg_
      obtain ⟨ay, rfl, h6, h7⟩ := hy.agg_
      have e1 := intsOf_rep xs as 0 ax h2 (by simpa using h4) (by simpa using h5)
      have e2 := intsOf_rep ys bs 0 ay h3 (by simpa using h6) (by simpa using h7)
      obtain ⟨⟨h8, h9⟩, _⟩ := E.heq t n h1 W ax ay as bs e1 e2 hC.1 hC.2 px py
      exact ⟨_, by simp only [Sem.run_bind, h8, Result.andThen_ok, h9], rfl⟩
    · cases h
  case h_19 xs ys =>
    split at h
    · next n as bs h1 h2 h3 =>
      simp only [Option.some.injEq, Prod.mk.injEq] at h
      obtain ⟨rfl, rfl⟩ := h
      obtain ⟨ax, rfl, h4, h5⟩ := hx.agg_
      obtain ⟨ay, rfl, h6, h7⟩ := hy.agg_
      have e1 := intsOf_rep xs as 0 ax h2 (by simpa using h4) (by simpa using h5)
      have e2 := intsOf_rep ys bs 0 ay h3 (by simpa using h6) (by simpa using h7)
      obtain ⟨_, ⟨h8, h9⟩⟩ := E.heq t n h1 W ax ay as bs e1 e2 hC.1 hC.2 px py
      exact ⟨_, by simp only [Sem.run_bind, h8, Result.andThen_ok, h9], rfl⟩
    · cases h
  all_goals first
    | (cases h; done)
    | (simp only [Option.some.injEq, Prod.mk.injEq] at h
       obtain ⟨rfl, rfl⟩ := h
       have e1 := hx.int_
       have e2 := hy.int_
       subst e1 e2
       refine ⟨_, ?_, rfl⟩
       first
         | (obtain ⟨rfl, hb⟩ := hC; simp only [eqGuard_at_int, pure_bind, binOp_quo, binOp_rem, Op.intDiv, if_neg hb, Sem.run_pure]; done)
         | (subst hC; simp only [eqGuard_at_int, pure_bind, binOp_add, binOp_sub, binOp_mul, binOp_and, binOp_or, intBits_and, intBits_or, binOp_eql, binOp_neq, binOp_lss, binOp_leq, binOp_gtr, binOp_geq, Op.intArith, Sem.run_pure]; done)
         | (obtain ⟨h0, h1⟩ := hC; simp only [eqGuard_at_int, pure_bind, binOp_shr, shift_shr _ _ _ _ h0 h1, Sem.run_pure]; done)
         | (obtain ⟨h0, h1⟩ := hC; simp only [eqGuard_at_int, pure_bind, binOp_shl, shift_shl _ _ _ _ h0 h1, Sem.run_pure]; done))

theorem drop_get {α : Type} (l : List α) (o n j : Nat) (v : α) (h : ((l.drop o).take n)[j]? = some v) : l[o + j]? = some v ∧ j < n := by
  rw [List.getElem?_take] at h
  split at h
  · rw [List.getElem?_drop] at h; exact ⟨h, by assumption⟩
  · cases h
/-- a load -/
theorem qLoad_sound (E : Env) {F : Fr} (hP : F.P = E.P) {σ : Sg} {S : AS} {a : Act} {W : World} (h : Sim F σ S a W) {t : TypeId} {x : TI} (ht : E.ti t = some x) {p v : V} {C : Prop} (hq : qLoad E x S.B p = some (C, v)) (hC : C) {cp : Value} (hp : RepT W (Dm F σ S.B) σ p cp) :
    ∃ c, (Instr.loadAt t cp).run E.P W = .ok c W ∧ RepT W (Dm F σ S.B) σ v c := by
  have hx := E.hti t x ht
  -- the cells from an address on, read one by one
  have aggs : ∀ (ad : Addr) (vs : List V), x.agg = true → vs.length = x.size → (∀ (j : Nat) v, vs[j]? = some v → ∃ u, W.cell? (ad.add j) = some u ∧ RepL W (Dm F σ S.B) σ v u) →
      ∃ c, (Instr.loadAt t (.pointer (some ad))).run E.P W = .ok c W ∧ RepT W (Dm F σ S.B) σ (.agg vs) c := fun ad vs ha hl hr => by
    obtain ⟨us, h1, h2, h3⟩ := choose_list (fun v u => RepL W (Dm F σ S.B) σ v u) (fun j => W.cell? (ad.add j)) vs 0 (fun j v hv => by simpa using hr j v hv)
    refine ⟨_, run_loadAt_agg hx ha (h1.trans hl) (fun j u hu => by simpa using h2 j u hu), us.toArray, rfl, by simpa using h1, fun j v hv => ?_⟩
    obtain ⟨u, hu, hru⟩ := h3 j v hv
    exact ⟨u, by simpa using hu, hru⟩
  have ones : ∀ (ad : Addr) (v : V) (u : Value), x.agg = false → W.cell? ad = some u → RepL0 W (Dm F σ S.B) σ v u →
      ∃ c, (Instr.loadAt t (.pointer (some ad))).run E.P W = .ok c W ∧ RepT W (Dm F σ S.B) σ v c := fun ad v u ha hc hr => ⟨u, run_loadAt_one hx ha hc, RepT_of0 hr⟩
  unfold qLoad at hq
  split at hq
  · next i j o =>
    have hcp := hp.ptr_
    subst hcp
    split at hq
    · next cs hB =>
      obtain ⟨cur, e, hg, hsz, hr⟩ := h.b i _ hB
      have cell : ∀ k : Nat, W.cell? ⟨σ.g i, k, none⟩ = cur[k]? := fun k => by simp [World.cell?, hg]
      split at hq
      · split at hq
        · next ha =>
          simp only [Option.some.injEq, Prod.mk.injEq] at hq
          obtain ⟨rfl, rfl⟩ := hq
          simp only [Nat.zero_mul, Nat.zero_add, Addr.add_lit]
          refine aggs _ _ ha (by simp only [List.length_map, List.length_take, List.length_drop]; omega) (fun k v hv => ?_)
          rw [List.getElem?_map] at hv
          obtain ⟨w, hw, rfl⟩ := Option.map_eq_some_iff.1 hv
          obtain ⟨h1, h2⟩ := drop_get _ _ _ _ _ hw
          obtain ⟨u, hu, hru⟩ := hr _ _ h1
          refine ⟨u, ?_, RepL_of0 hru.unc⟩
          rw [Addr.add_lit, cell]; exact hu
        · next ha =>
          split at hq
          · next v' hv =>
            simp only [Option.some.injEq, Prod.mk.injEq] at hq
            obtain ⟨rfl, rfl⟩ := hq
            obtain ⟨u, hu, hru⟩ := hr _ _ hv
            simp only [Nat.zero_mul, Nat.zero_add, Addr.add_lit]
            exact ones _ _ u ha (by rw [cell]; exact hu) hru.unc
          · cases hq
      · cases hq
    · next e s es hB =>
      obtain ⟨cur, hg, hn, hs, h1, h2, h3, h4, hr⟩ := h.b i _ hB
      have cell : ∀ k : Nat, W.cell? ⟨σ.g i, k, none⟩ = cur[k]? := fun k => by simp [World.cell?, hg]
      split at hq
      · next y hy =>
        split at hq
        · next ha =>
          simp only [Option.some.injEq, Prod.mk.injEq] at hq
          obtain ⟨rfl, rfl⟩ := hq
          have hj : es[j]? = some (es.getD j y.zero) := by rw [List.getD_eq_getElem?_getD, List.getElem?_eq_getElem hC.1]; rfl
          have hl := h4 _ (List.mem_of_getElem? hj)
          rw [Addr.add_lit, hs]
          refine aggs _ _ ha (by simp only [List.length_map, List.length_take, List.length_drop]; omega) (fun k v hv => ?_)
          rw [List.getElem?_map] at hv
          obtain ⟨w, hw, rfl⟩ := Option.map_eq_some_iff.1 hv
          obtain ⟨h5, h6⟩ := drop_get _ _ _ _ _ hw
          obtain ⟨u, hu, hru⟩ := hr _ _ hj _ _ h5
          refine ⟨u, ?_, RepL_of0 hru.rt⟩
          rw [Addr.add_lit, cell, Nat.zero_add, Nat.add_assoc]; exact hu
        · next ha =>
          simp only [Option.some.injEq, Prod.mk.injEq] at hq
          obtain ⟨rfl, rfl⟩ := hq
          have hj : es[j]? = some (es.getD j y.zero) := by rw [List.getD_eq_getElem?_getD, List.getElem?_eq_getElem hC.1]; rfl
          have hl := h4 _ (List.mem_of_getElem? hj)
          have ho : (es.getD j y.zero)[o]? = some ((es.getD j y.zero).getD o .und) := by rw [List.getD_eq_getElem?_getD (l := es.getD j y.zero), List.getElem?_eq_getElem (by omega)]; rfl
          obtain ⟨u, hu, hru⟩ := hr _ _ hj _ _ ho
          rw [Addr.add_lit, hs]
          exact ones _ _ u ha (by rw [cell, Nat.zero_add]; exact hu) hru.rt
      · cases hq
    · cases hq
  · next f e o =>
    obtain ⟨ad, rfl, hr⟩ := hp.fat_
    split at hq
    · next ha =>
      simp only [Option.some.injEq, Prod.mk.injEq] at hq
      obtain ⟨rfl, rfl⟩ := hq
      refine aggs _ _ ha (by simp only [List.length_map, List.length_take, List.length_drop]; omega) (fun k v hv => ?_)
      rw [List.getElem?_map] at hv
      obtain ⟨w, hw, rfl⟩ := Option.map_eq_some_iff.1 hv
      obtain ⟨h5, h6⟩ := drop_get _ _ _ _ _ hw
      obtain ⟨u, hu, _, hru⟩ := hr _ _ h5
      exact ⟨u, hu, RepL_of0 hru.rt⟩
    · next ha =>
      simp only [Option.some.injEq, Prod.mk.injEq] at hq
      obtain ⟨rfl, rfl⟩ := hq
      have ho : e[o + 0]? = some (e.getD o .und) := by rw [List.getD_eq_getElem?_getD, Nat.add_zero, List.getElem?_eq_getElem hC]; rfl
      obtain ⟨u, hu, _, hru⟩ := hr 0 _ ho
      exact ones _ _ u ha (by rw [Addr.add_zero'] at hu; exact hu) hru.rt
  · cases hq
/-- an element's address -/
theorem qIndex_sound (E : Env) {F : Fr} (hP : F.P = E.P) {σ : Sg} {S : AS} {a : Act} {W : World} (h : Sim F σ S a W) {t : TypeId} {p q v : V} {C : Prop} (hq : qIndex E t S.B p q = some (C, v)) (hC : C) {cp cq : Value}
    (hp : RepT W (Dm F σ S.B) σ p cp) (hi : RepT W (Dm F σ S.B) σ q cq) : ∃ c, (Instr.indexAt t cp cq).run E.P W = .ok c W ∧ RepT W (Dm F σ S.B) σ v c := by
  have key : ∀ (e : TypeId) (y : TI) (ad : Addr) (k : IntKind) (i : Int) (n cap : Nat), E.el t = some e → E.ti e = some y → 0 ≤ i → i < (n : Int) →
      (Instr.indexAt t (.slice (some ad) n cap) (.int k i)).run E.P W = .ok (.pointer (some (ad.add (i.toNat * y.size)))) W := fun e y ad k i n cap he hy h0 h1 => by
    simp [Instr.indexAt, run_underlying (E.hel t e he), asIntOf, h0, h1, run_size (E.hti e y hy)]
  unfold qIndex at hq
  split at hq
  · next f s es kk i =>
    split at hq
    · next e he =>
      split at hq
      · next y hy =>
        simp only [Option.some.injEq, Prod.mk.injEq] at hq
        obtain ⟨rfl, rfl⟩ := hq
        obtain ⟨h0, h1, h2⟩ := hC
        have hci := hi.int_
        subst hci
        have hsl := hp.sl_
        cases hsl with
        | sl f s es A cap ad cvv hA hs hc hr =>
          have hne : es ≠ [] := by rintro rfl; simp at h1; omega
          rw [hA hne]
          refine ⟨_, key e y ad _ i _ cap he hy h0 h1, ?_⟩
          have hj : es[i.toNat]? = some (es.getD i.toNat y.zero) := by rw [List.getD_eq_getElem?_getD, List.getElem?_eq_getElem (by omega)]; rfl
          refine RepT_of0 ⟨_, rfl, fun j v hv => ?_⟩
          rw [Nat.zero_add] at hv
          obtain ⟨h3, h4⟩ := hc _ _ hj _ _ hv
          exact ⟨_, by rw [add_add, h2]; exact h3, by rw [add_block]; exact h4, hr _ _ hj _ _ hv⟩
      · cases hq
    · cases hq
  · next k kk i =>
    split at hq
    · next e e' s es he hB =>
      split at hq
      · next y hy =>
        simp only [Option.some.injEq, Prod.mk.injEq] at hq
        obtain ⟨rfl, rfl⟩ := hq
        obtain ⟨h0, h1, h2⟩ := hC
        have hci := hi.int_
        have hcp := hp.ref_
        subst hci hcp
        obtain ⟨cur, hg, hn, hs, _⟩ := h.b k _ hB
        refine ⟨_, key e y _ _ i _ _ he hy h0 (by rw [hn]; exact h1), ?_⟩
        refine RepT_of0 ?_
        simp only [RepL0]
        rw [h2, hs, Nat.add_zero]
      · cases hq
    · cases hq
  · cases hq
end Go.Proofs.YtfakhgopbhnocaaVM
namespace Go.Proofs.YtfakhgopbhnocaaVM
open Go

theorem Sim.grow {F : Fr} {σ : Sg} {S : AS} {a : Act} {W W' : World} (h : Sim F σ S a W) (hg : W.grownBy W' none) : Sim F σ S a W' := by
  have k : Keep W W' (Dm F σ S.B) (Dm F σ S.B) σ σ (fun _ => False) :=
    ⟨fun f b hdb _ => hdb, fun f b hdb hlt => hg.block b hlt (by simp), fun _ _ => ⟨rfl, rfl, rfl, rfl⟩⟩
  exact ⟨h.df, h.sz, fun t => (h.t t).keep k (noT_false _), fun i x hi => (h.b i x hi).keep k (by simp) (noB_false _) (hg.block _ (h.blk_lt hi) (by simp)), h.inj, h.ge, h.ext.grown hg (by simp), h.z⟩

def boxV : V → Option (List V)
  | .agg cs => some cs
  | .und | .skip | .tup _ | .con _ _ => none
  | v => some [v]
/-- a cell that may stand in a row: it holds no address of an own block -/
def shut1 : V → Bool
  | .int _ _ | .bool _ | .nil | .sl true _ _ => true
  | _ => false
def rowV : V → Option (List V)
  | .agg cs => bif cs.all shut1 then some cs else none
  | v => bif shut1 v then some [v] else none
def rowsV (T : Nat → V) (k : Nat) : List (Nat × Operand) → Option (List (List V))
  | [] => some []
  | (i, x) :: ps => bif i == k then (match rowV (ev T x), rowsV T (k + 1) ps with | some c, some cs => some (c :: cs) | _, _ => none) else none
def qCall (E : Env) (B : Nat → Option Blk) (T : Nat → V) (b : Builtin) (as : List Operand) (ts : List TypeId) : Option (Prop × V × Option Blk) :=
  match b, as, ts with
  | .len, [x], [t] => match E.el t with
    | some _ => match ev T x with
      | .sl _ _ es => some (True, .int .i64 es.length, none)
      | .nil => some (True, .int .i64 0, none)
      | .ref i => match B i with
        | some (.row _ _ es) => some (True, .int .i64 es.length, none)
        | _ => none
      | _ => none
    | none => none
  | .min, [x, y], _ => match ev T x, ev T y with
    | .int k a, .int k' c => some (k = k', .int k (if c < a then c else a), none)
    | _, _ => none
  | .max, [x, y], _ => match ev T x, ev T y with
    | .int k a, .int k' c => some (k = k', .int k (if a < c then c else a), none)
    | _, _ => none
  | _, _, _ => none
/-- a struct out of its parts -/
def fillV (T : Nat → V) (ps : List (Nat × Nat)) : List V → List (Nat × Operand) → Option (List V)
  | cs, [] => some cs
  | cs, (i, x) :: rest => match ps[i]?, boxV (ev T x) with
    | some (off, n), some vs => bif vs.length == n && Nat.ble (off + n) cs.length then fillV T ps (cs.take off ++ vs ++ cs.drop (off + n)) rest else none
    | _, _ => none
def qop (E : Env) (ow : Bool) (B : Nat → Option Blk) (T : Nat → V) (id : Nat) : Op → Option (Prop × V × Option Blk)
  | .move x => some (True, ev T x, none)
  | .nilCheck x => match ev T x with
    | .ptr i j o => some (True, .ptr i j o, none)
    | _ => none
  | .build t parts => match E.ti t, E.pl t with
    | some y, some ps => match fillV T ps y.zero parts.toList with
      | some cs => some (True, .agg cs, none)
      | none => none
    | _, _ => none
  | .assign x => some (True, ev T x, none)
  | .pick c a b => match ev T c with
    | .bool true => some (True, ev T a, none)
    | .bool false => some (True, ev T b, none)
    | _ => none
  | .unOp op _ x => match op, ev T x with
    | .not, .bool b => some (True, .bool (!b), none)
    | .neg, .int k n => some (True, .int k (k.wrap (0 - n)), none)
    | _, _ => none
  | .binOp op t x y _ => match qBin E t op (ev T x) (ev T y) with
    | some (C, v) => some (C, v, none)
    | none => none
  | .fieldAddr t x k => match E.fo t k with
    | some f => match ev T x with
      | .ptr i j o => some (True, .ptr i j (o + f), none)
      | .fat g e o => some (True, .fat g e (o + f), none)
      | _ => none
    | none => none
  | .load t x => match E.ti t with
    | some y => match qLoad E y B (ev T x) with
      | some (C, v) => some (C, v, none)
      | none => none
    | none => none
  | .indexAddr t x i => match qIndex E t B (ev T x) (ev T i) with
    | some (C, v) => some (C, v, none)
    | none => none
  | .extract x i => match ev T x with
    | .tup vs => match vs[i]? with
      | some (.tup _) => none
      | some v => some (True, v, none)
      | none => none
    | _ => none
  | .convert s d x => match E.io s, E.io d, ev T x with
    | some _, some k, .int _ n => some (True, .int k (k.wrap n), none)
    | _, _, _ => none
  | .call c => match c.callee with
    | .builtin b => qCall E B T b c.args.toList c.argTypes.toList
    | _ => none
  | .box t x => match boxV (ev T x) with
    | some cs => some (True, .ptr id 0 0, some (.box cs))
    | none => none
  | .alloc t => match E.ti t with
    | some y => some (True, .ptr id 0 0, some (.box y.zero))
    | none => none
  | .makeSlice t l c => match E.el t with
    | some e => match E.ti e, ev T l, ev T c with
      | some y, .int _ n, .int _ m => some (n = m ∧ 0 ≤ n ∧ n * y.bytes ≤ 281474976710656, .ref id, some (.row e y.size (List.replicate n.toNat y.zero)))
      | _, _, _ => none
    | none => none
  | .buildSlice t len parts => match E.el t with
    | some e => match E.ti e, rowsV T 0 parts.toList with
      | some y, some es => match ow with
        | true => some (es.length = len ∧ len * y.size ≤ 16777216 ∧ ∀ e ∈ es, e.length = y.size, .ref id, some (.row e y.size es))
        | false => some (es.length = len ∧ len * y.size ≤ 16777216 ∧ ∀ e ∈ es, e.length = y.size, .sl true y.size es, none)
      | _, _ => none
    | none => none
  | _ => none

theorem setFold (off : Nat) : ∀ (vs : List Value) (k : Nat) (A : Array Value), off + k + vs.length ≤ A.size →
    ((vs.zipIdx k).foldl (fun cs (x : Value × Nat) => cs.setIfInBounds (off + x.2) x.1) A).size = A.size ∧
    ∀ i, ((vs.zipIdx k).foldl (fun cs (x : Value × Nat) => cs.setIfInBounds (off + x.2) x.1) A)[i]? = if off + k ≤ i ∧ i < off + k + vs.length then vs[i - (off + k)]? else A[i]?
  | [], k, A, h => by
    refine ⟨rfl, fun i => ?_⟩
    have : ¬ (off + k ≤ i ∧ i < off + k + ([] : List Value).length) := by simp
    rw [if_neg this]; rfl
  | v :: vs, k, A, h => by
    simp only [List.length_cons] at h
    have ih := setFold off vs (k + 1) (A.setIfInBounds (off + k) v) (by simp; omega)
    simp only [List.zipIdx_cons, List.foldl_cons]
    refine ⟨by rw [ih.1]; simp, fun i => ?_⟩
    rw [ih.2 i]
    by_cases h1 : off + (k + 1) ≤ i ∧ i < off + (k + 1) + vs.length
    · rw [if_pos h1, if_pos (by simp only [List.length_cons]; omega)]
      rw [show i - (off + k) = (i - (off + (k + 1))) + 1 by omega, List.getElem?_cons_succ]
    · rw [if_neg h1]
      by_cases h2 : off + k = i
      · subst h2
        rw [if_pos (by simp only [List.length_cons]; omega)]
        simp only [Nat.sub_self, List.getElem?_cons_zero]
        rw [Array.getElem?_setIfInBounds_self_of_lt (by omega)]
      · rw [if_neg (by simp only [List.length_cons]; omega), Array.getElem?_setIfInBounds_ne (by omega)]
theorem boxV_rep {W : World} {D : Bool → Nat → Prop} {σ : Sg} {v : V} {cs : List V} {c : Value} (h : boxV v = some cs) (hr : RepT W D σ v c) : c.cells.size = cs.length ∧ ∀ (j : Nat) u, cs[j]? = some u → ∃ w, c.cells[j]? = some w ∧ RepL W D σ u w := by
  have one : (∀ cs, c ≠ .agg cs) → boxV v = some [v] → RepL W D σ v c → [v] = cs → c.cells.size = cs.length ∧ ∀ (j : Nat) u, cs[j]? = some u → ∃ w, c.cells[j]? = some w ∧ RepL W D σ u w := fun h1 _ h2 h3 => by
    subst h3
    have : c.cells = #[c] := by cases c <;> first | rfl | exact absurd rfl (h1 _)
    rw [this]
    refine ⟨rfl, fun j u hu => ?_⟩
    cases j with
    | zero => simp at hu; subst hu; exact ⟨c, rfl, h2⟩
    | succ j => simp at hu
  cases v with
  | agg xs =>
    simp only [boxV, Option.some.injEq] at h
    subst h
    obtain ⟨a, rfl, h1, h2⟩ := hr.agg_
    exact ⟨h1, h2⟩
  | int k n => exact one (by rw [hr.int_]; simp) rfl hr (by simpa [boxV] using h)
  | bool b => exact one (by rw [hr.bool_]; simp) rfl hr (by simpa [boxV] using h)
  | nil => exact one (by rw [hr.nil_]; simp) rfl hr (by simpa [boxV] using h)
  | sl f s es => exact one (by cases hr.sl_; simp) rfl hr (by simpa [boxV] using h)
  | ref i => exact one (by rw [hr.ref_]; simp) rfl hr (by simpa [boxV] using h)
  | ptr i j o => exact one (by rw [hr.ptr_]; simp) rfl hr (by simpa [boxV] using h)
  | fat f e o => exact one (by obtain ⟨ad, rfl, _⟩ := hr.fat_; simp) rfl hr (by simpa [boxV] using h)
  | _ => simp [boxV] at h
theorem shut1_rep {W : World} {D : Bool → Nat → Prop} {σ : Sg} {v : V} {c : Value} (h : shut1 v = true) (hr : RepL W D σ v c) : RepC W (D true) v c := by
  unfold shut1 at h
  split at h
  · have e : c = _ := hr; subst e; exact .int _ _
  · have e : c = _ := hr; subst e; exact .bool _
  · have e : c = _ := hr; subst e; exact .nil
  · exact hr
  · cases h
theorem rowV_rep {W : World} {D : Bool → Nat → Prop} {σ : Sg} {v : V} {cs : List V} {c : Value} (h : rowV v = some cs) (hr : RepT W D σ v c) : c.cells.size = cs.length ∧ ∀ (j : Nat) u, cs[j]? = some u → ∃ w, c.cells[j]? = some w ∧ RepC W (D true) u w := by
  have one : shut1 v = true → (∀ xs, v ≠ .agg xs) → RepT W D σ v c → [v] = cs → c.cells.size = cs.length ∧ ∀ (j : Nat) u, cs[j]? = some u → ∃ w, c.cells[j]? = some w ∧ RepC W (D true) u w := fun h1 _ hr h3 => by
    subst h3
    have hc : RepC W (D true) v c := by
      refine shut1_rep (σ := σ) h1 ?_
      cases v <;> first | (simp [shut1] at h1; done) | exact hr
    have : c.cells = #[c] := by cases hc <;> rfl
    rw [this]
    refine ⟨rfl, fun j u hu => ?_⟩
    cases j with
    | zero => simp at hu; subst hu; exact ⟨c, rfl, hc⟩
    | succ j => simp at hu
  unfold rowV at h
  split at h
  · next xs =>
    cases ha : xs.all shut1 with
    | false => rw [ha] at h; cases h
    | true =>
      rw [ha] at h
      obtain rfl := Option.some.inj h
      obtain ⟨a, rfl, h1, h2⟩ := hr.agg_
      refine ⟨h1, fun j u hu => ?_⟩
      obtain ⟨w, hw, hrw⟩ := h2 j u hu
      exact ⟨w, hw, shut1_rep (List.all_eq_true.1 ha u (List.mem_of_getElem? hu)) hrw⟩
  · next hv =>
    cases ha : shut1 v with
    | false => rw [ha] at h; cases h
    | true =>
      rw [ha] at h
      exact one ha hv hr (Option.some.inj h)
theorem rowsV_spec (T : Nat → V) : ∀ (k : Nat) (ps : List (Nat × Operand)) (es : List (List V)), rowsV T k ps = some es → ps = ((ps.map (·.2)).zipIdx k).map (fun x => (x.2, x.1)) ∧ es.length = ps.length ∧ ∀ (j : Nat) x, (ps.map (·.2))[j]? = some x → ∃ c, es[j]? = some c ∧ rowV (ev T x) = some c
  | k, [], es, h => by simp [rowsV] at h; subst h; simp
  | k, (i, x) :: ps, es, h => by
    unfold rowsV at h
    cases hk : i == k with
    | false => rw [hk] at h; cases h
    | true =>
      rw [hk] at h
      have hk' : i = k := by simpa using hk
      subst hk'
      simp only [cond_true] at h
      split at h
      · next c cs h1 h2 =>
        obtain rfl := Option.some.inj h
        obtain ⟨h3, h4, h5⟩ := rowsV_spec T (i + 1) ps cs h2
        refine ⟨by simp only [List.map_cons, List.zipIdx_cons]; rw [← h3], by simp [h4], fun j y hy => ?_⟩
        cases j with
        | zero => simp at hy; subst hy; exact ⟨c, rfl, h1⟩
        | succ j => simpa using h5 j y (by simpa using hy)
      · cases h
theorem fill_rep {W : World} {D : Bool → Nat → Prop} {σ : Sg} {T : Nat → V} {eva : Operand → Value} (hev : ∀ x, RepT W D σ (ev T x) (eva x)) (ps : List (Nat × Nat)) : ∀ (parts : List (Nat × Operand)) (A : Array Value) (L L' : List V), A.size = L.length →
    (∀ (j : Nat) v, L[j]? = some v → ∃ u, A[j]? = some u ∧ RepL W D σ v u) → fillV T ps L parts = some L' →
    ∃ A', Instr.fill (ps.toArray[·]?) A (parts.map fun x => (x.1, eva x.2)) = some A' ∧ A'.size = L'.length ∧ ∀ (j : Nat) v, L'[j]? = some v → ∃ u, A'[j]? = some u ∧ RepL W D σ v u
  | [], A, L, L', hs, hr, h => by
    obtain rfl := Option.some.inj h
    exact ⟨A, rfl, hs, hr⟩
  | (i, x) :: rest, A, L, L', hs, hr, h => by
    simp only [fillV] at h
    split at h
    · next off n vs hp hb =>
      cases hc : (vs.length == n && Nat.ble (off + n) L.length) with
      | false => rw [hc] at h; cases h
      | true =>
        rw [hc] at h
        simp only [cond_true] at h
        simp only [Bool.and_eq_true, beq_iff_eq] at hc
        obtain ⟨h1, h2⟩ := hc
        have h2 := Nat.le_of_ble_eq_true h2
        obtain ⟨hz, hcell⟩ := boxV_rep hb (hev x)
        have hsf := setFold off (eva x).cells.toList 0 A (by simp only [Array.length_toList]; omega)
        have hn : (eva x).cells.size = n := by omega
        obtain ⟨A', e1, e2, e3⟩ := fill_rep hev ps rest (((eva x).cells.toList.zipIdx 0).foldl (fun cs (x : Value × Nat) => cs.setIfInBounds (off + x.2) x.1) A) _ L' (by rw [hsf.1]; simp; omega) (fun j v hv => by
          rw [hsf.2 j]
          simp only [Array.length_toList, Nat.add_zero, hn]
          by_cases hj1 : j < off
          · rw [if_neg (by omega)]
            rw [List.getElem?_append_left (by simp; omega), List.getElem?_append_left (by simp; omega), List.getElem?_take, if_pos hj1] at hv
            exact hr j v hv
          · by_cases hj2 : j < off + n
            · rw [if_pos (by omega)]
              rw [List.getElem?_append_left (by simp; omega), List.getElem?_append_right (by simp; omega)] at hv
              have hl : (L.take off).length = off := by simp; omega
              rw [hl] at hv
              obtain ⟨w, hw, hrw⟩ := hcell _ _ hv
              exact ⟨w, by simpa using hw, hrw⟩
            · rw [if_neg (by omega)]
              rw [List.getElem?_append_right (by simp; omega), List.getElem?_drop] at hv
              have hl : (L.take off ++ vs).length = off + n := by simp; omega
              rw [hl, show off + n + (j - (off + n)) = j by omega] at hv
              exact hr j v hv) h
        refine ⟨A', ?_, e2, e3⟩
        simp only [List.map_cons, Instr.fill]
        have hp' : ps.toArray[i]? = some (off, n) := by simpa using hp
        rw [hp']
        simp only
        rw [if_neg (by simp only [hn, hs]; simp; omega)]
        rw [← Array.foldl_toList]
        simp only [Array.toList_zipIdx]
        exact e1
    · cases h
end Go.Proofs.YtfakhgopbhnocaaVM
namespace Go.Proofs.YtfakhgopbhnocaaVM
open Go

theorem grown_alloc (W : World) (o : Obj) : W.grownBy (W.alloc o) none := World.grownBy_alloc W o none
theorem flat_len {s : Nat} : ∀ (es : List (List V)), (∀ e ∈ es, e.length = s) → ∀ (j o : Nat) e v, es[j]? = some e → e[o]? = some v → j * s + o < es.length * s := fun es hs j o e v he hv => by
  have h1 := (List.getElem?_eq_some_iff.1 he).1
  have h2 := (List.getElem?_eq_some_iff.1 hv).1
  rw [hs e (List.mem_of_getElem? he)] at h2
  calc j * s + o < j * s + s := by omega
    _ = (j + 1) * s := by rw [Nat.add_mul, Nat.one_mul]
    _ ≤ es.length * s := Nat.mul_le_mul_right _ h1
theorem idx_of {s j o : Nat} (h : o < s) : (j * s + o) / s = j ∧ (j * s + o) % s = o := by
  have hs : 0 < s := by omega
  constructor
  · rw [Nat.mul_comm, Nat.mul_add_div hs, Nat.div_eq_of_lt h, Nat.add_zero]
  · rw [Nat.mul_comm, Nat.mul_add_mod, Nat.mod_eq_of_lt h]

theorem zrep_leaf {v : V} {u : Value} (h : zrep v u) (W : World) (D : Nat → Prop) : RepC W D v u := by
  cases v <;> simp only [zrep] at h <;> subst h
  · exact .int _ _
  · exact .bool _
  · exact .nil
theorem RepC_leafL {W : World} {D : Bool → Nat → Prop} {σ : Sg} {v : V} {u : Value} (h : zrep v u) : RepL W D σ v u := by
  cases v <;> simp only [zrep] at h <;> subst h <;> rfl

def addB (B : Nat → Option Blk) (id : Nat) : Option Blk → Nat → Option Blk
  | none => B
  | some x => upd B id (some x)
/-- an operation that writes nothing: what the machine does is what 'qop' says -/
theorem qop_sound (E : Env) {F : Fr} (hP : F.P = E.P) {σ : Sg} {S : AS} {a : Act} {W : World} (h : Sim F σ S a W) (o : Oper) (ow : Bool) (id : Nat) {C : Prop} {v : V} {nb : Option Blk} (hq : qop E ow S.B S.T id o.op = some (C, v, nb)) (hC : C)
    (hid0 : nb.isSome = true → 0 ≠ id) (habs : nb.isSome = true → Absent (· = id) S) (hd : ∀ k, o.dst = some k → k < F.N) :
    ∃ c W' σ', (execOp a.eval o).run E.P W = .ok (.value c) W' ∧ Sim F σ' ⟨updO S.T o.dst v, addB S.B id nb⟩ (a.put o.dst c) W' := by
  -- what stays in the world that it found
  have still : ∀ (v : V) (c : Value), (execOp a.eval o).run E.P W = .ok (.value c) W → RepT W (Dm F σ S.B) σ v c → ∃ c W' σ', (execOp a.eval o).run E.P W = .ok (.value c) W' ∧ Sim F σ' ⟨updO S.T o.dst v, S.B⟩ (a.put o.dst c) W' :=
    fun v c h1 h2 => ⟨c, W, σ, h1, h.put hd h2⟩
  obtain ⟨dst, op, type, pos, after, guard⟩ := o
  dsimp only at hq hd still ⊢
  cases op
  case move x =>
    simp only [qop] at hq
    simp only [Option.some.injEq, Prod.mk.injEq] at hq
    obtain ⟨rfl, rfl, rfl⟩ := hq
    exact still _ _ (by simp [execOp]) (h.ev x)
  case nilCheck x =>
    simp only [qop] at hq
    have hx := h.ev x
    split at hq
    · next i j o e =>
      simp only [Option.some.injEq, Prod.mk.injEq] at hq
      obtain ⟨rfl, rfl, rfl⟩ := hq
      rw [e] at hx
      exact still _ (a.eval x) (by simp [execOp, hx.ptr_]) hx
    · cases hq
  case build t parts =>
    simp only [qop] at hq
    split at hq
    · next y ps hy hps =>
      split at hq
      · next cs hcs =>
        simp only [Option.some.injEq, Prod.mk.injEq] at hq
        obtain ⟨rfl, rfl, rfl⟩ := hq
        obtain ⟨i, z, h1, h2, h3, h4, h5, h6, h7⟩ := (E.hti _ _ hy).info
        obtain ⟨fs, h8, h9⟩ := E.hpl _ _ hps
        obtain ⟨A', e1, e2, e3⟩ := fill_rep (fun x => h.ev x) ps parts.toList z.cells y.zero cs (by rw [h5, h6]) (fun j v hv => by
          obtain ⟨u, hu, hz⟩ := h7 j v hv
          exact ⟨u, hu, RepC_leafL hz⟩) hcs
        have hb : E.P.built t (parts.map fun (i, x) => (i, a.eval x)).toList = some A' := by
          unfold Program.built
          simp only [h1, h8, h2, h9]
          simp only [Array.toList_map]
          exact e1
        exact still _ (.agg A') (by simp only [execOp, Sem.run_bind, run_build W t _ _ hb, Result.andThen_ok, Sem.run_pure]) (RepT_ofA ⟨A', rfl, e2, e3⟩)
      · cases hq
    · cases hq
  case assign x =>
    simp only [qop] at hq
    simp only [Option.some.injEq, Prod.mk.injEq] at hq
    obtain ⟨rfl, rfl, rfl⟩ := hq
    exact still _ _ (by simp [execOp]) (h.ev x)
  case pick c x y =>
    simp only [qop] at hq
    have hc := h.ev c
    split at hq
    · next e =>
      simp only [Option.some.injEq, Prod.mk.injEq] at hq
      obtain ⟨rfl, rfl, rfl⟩ := hq
      rw [e] at hc
      exact still _ _ (by simp [execOp, hc.bool_, asBool]) (h.ev x)
    · next e =>
      simp only [Option.some.injEq, Prod.mk.injEq] at hq
      obtain ⟨rfl, rfl, rfl⟩ := hq
      rw [e] at hc
      exact still _ _ (by simp [execOp, hc.bool_, asBool]) (h.ev y)
    · cases hq
  case unOp op t x =>
    simp only [qop] at hq
    have hx := h.ev x
    split at hq
    · next u1 u2 b e =>
      simp only [Option.some.injEq, Prod.mk.injEq] at hq
      obtain ⟨rfl, rfl, rfl⟩ := hq
      rw [e] at hx
      exact still _ (.bool (!b)) (by simp [execOp, hx.bool_, Op.unary]) rfl
    · next u1 u2 k n e =>
      simp only [Option.some.injEq, Prod.mk.injEq] at hq
      obtain ⟨rfl, rfl, rfl⟩ := hq
      rw [e] at hx
      exact still _ (.int k (k.wrap (0 - n))) (by simp [execOp, hx.int_, Op.unary, Op.intArith]) rfl
    · cases hq
  case binOp op t x y t' =>
    simp only [qop] at hq
    split at hq
    · next C' v' e =>
      simp only [Option.some.injEq, Prod.mk.injEq] at hq
      obtain ⟨rfl, rfl, rfl⟩ := hq
      obtain ⟨c, h1, h2⟩ := qBin_sound E e hC (h.ev x) (h.ev y) x y
      exact still _ c (by simp only [execOp, Sem.run_bind] at h1 ⊢; rw [h1]; rfl) h2
    · cases hq
  case fieldAddr t x k =>
    simp only [qop] at hq
    have hx := h.ev x
    split at hq
    · next f e =>
      obtain ⟨fs, g, i, h1, h2, h3, h4, h5⟩ := E.hfo _ _ _ e
      have run : ∀ ad : Addr, a.eval x = .pointer (some ad) → (execOp a.eval ⟨dst, .fieldAddr t x k, type, pos, after, guard⟩).run E.P W = .ok (.value (.pointer (some (ad.add f)))) W := fun ad he => by
        simp [execOp, Instr.fieldAt, run_underlying h1, h2, he, Instr.sureAddr, fieldPlace, sizeOf, typeInfo, h4, h5, h3]
      split at hq
      · next i j o e' =>
        simp only [Option.some.injEq, Prod.mk.injEq] at hq
        obtain ⟨rfl, rfl, rfl⟩ := hq
        rw [e'] at hx
        have r := run ((⟨σ.g i, 0, none⟩ : Addr).add (j * σ.s i + o)) hx.ptr_
        refine still _ _ r ?_
        refine RepT_of0 ?_
        simp only [RepL0]
        rw [add_add, Nat.add_assoc]
      · next g' e'' o e' =>
        simp only [Option.some.injEq, Prod.mk.injEq] at hq
        obtain ⟨rfl, rfl, rfl⟩ := hq
        rw [e'] at hx
        obtain ⟨ad, had, hr⟩ := hx.fat_
        have r := run ad had
        refine still _ _ r (RepT_of0 ⟨_, rfl, fun j v hv => ?_⟩)
        rw [Nat.add_assoc] at hv
        obtain ⟨u, h6, h7, h8⟩ := hr _ v hv
        exact ⟨u, by rw [add_add]; exact h6, by rw [add_block]; exact h7, h8⟩
      · cases hq
    · cases hq
  case load t x =>
    simp only [qop] at hq
    split at hq
    · next y e =>
      split at hq
      · next C' v' e' =>
        simp only [Option.some.injEq, Prod.mk.injEq] at hq
        obtain ⟨rfl, rfl, rfl⟩ := hq
        obtain ⟨c, h1, h2⟩ := qLoad_sound E hP h e e' hC (h.ev x)
        exact still _ c (by simp only [execOp, Sem.run_bind, h1]; rfl) h2
      · cases hq
    · cases hq
  case indexAddr t x i =>
    simp only [qop] at hq
    split at hq
    · next C' v' e' =>
      simp only [Option.some.injEq, Prod.mk.injEq] at hq
      obtain ⟨rfl, rfl, rfl⟩ := hq
      obtain ⟨c, h1, h2⟩ := qIndex_sound E hP h e' hC (h.ev x) (h.ev i)
      exact still _ c (by simp only [execOp, Sem.run_bind, h1]; rfl) h2
    · cases hq
  case extract x i =>
    simp only [qop] at hq
    have hx := h.ev x
    split at hq
    · next vs e =>
      split at hq
      · cases hq
      · next v' _ e' =>
        simp only [Option.some.injEq, Prod.mk.injEq] at hq
        obtain ⟨rfl, rfl, rfl⟩ := hq
        rw [e] at hx
        obtain ⟨ar, h1, h2, h3⟩ := hx.tup_
        obtain ⟨u, h4, h5⟩ := h3 _ _ e'
        exact still _ u (by simp [execOp, h1, Instr.extract, h4]) (RepT_ofA h5)
      · cases hq
    · cases hq
  case convert s d x =>
    simp only [qop] at hq
    split at hq
    · next k' k k2 n e1 e2 e3 =>
      simp only [Option.some.injEq, Prod.mk.injEq] at hq
      obtain ⟨rfl, rfl, rfl⟩ := hq
      have hx := h.ev x
      rw [e3] at hx
      exact still _ (.int k (k.wrap n)) (by simp [execOp, convert, run_underlying (E.hio _ _ e1), run_underlying (E.hio _ _ e2), hx.int_, Conv.intToInt]) rfl
    · cases hq
  case call c =>
    simp only [qop] at hq
    split at hq
    · next b hcal =>
      unfold qCall at hq
      split at hq
      · next bb as ts x t has hts =>
        split at hq
        · next e he =>
          obtain ⟨callee, args, argTypes⟩ := c
          simp only at hcal has hts
          have e1 : args = #[x] := by apply Array.ext'; simpa using has
          have e2 : argTypes = #[t] := by apply Array.ext'; simpa using hts
          subst hcal e1 e2
          have hx := h.ev x
          have run : ∀ (A : Option Addr) (n cap : Nat), a.eval x = .slice A n cap → (execOp a.eval ⟨dst, .call ⟨.builtin .len, #[x], #[t]⟩, type, pos, after, guard⟩).run E.P W = .ok (.value (.int .i64 n)) W := fun A n cap hs => by
            simp only [execOp, resolve, invoke, builtin, Sem.run_bind, Sem.run_pure, Result.andThen_ok, List.map_toArray, List.map_cons, List.map_nil, hs, Builtin.len_]
            simp [run_underlying (E.hel _ _ he), goInt]
          split at hq
          · next f s es e3 =>
            simp only [Option.some.injEq, Prod.mk.injEq] at hq
            obtain ⟨rfl, rfl, rfl⟩ := hq
            rw [e3] at hx
            have hsl := hx.sl_
            generalize hv : a.eval x = vx at hsl
            cases hsl with
            | sl _ _ _ A cap ad cvv hA hs hc hr => exact still _ _ (run _ _ _ hv) rfl
          · next e3 =>
            simp only [Option.some.injEq, Prod.mk.injEq] at hq
            obtain ⟨rfl, rfl, rfl⟩ := hq
            rw [e3] at hx
            exact still _ _ (run _ _ _ hx.nil_) rfl
          · next i e3 =>
            split at hq
            · next e' s es hB =>
              simp only [Option.some.injEq, Prod.mk.injEq] at hq
              obtain ⟨rfl, rfl, rfl⟩ := hq
              rw [e3] at hx
              obtain ⟨cur, hg, hn, _⟩ := h.b i _ hB
              refine still _ _ (run _ _ _ hx.ref_) ?_
              rw [hn]; rfl
            · cases hq
          · cases hq
        · cases hq
      · next bb as ts x y has =>
        obtain ⟨callee, args, argTypes⟩ := c
        simp only at hcal has
        have e1 : args = #[x, y] := by apply Array.ext'; simpa using has
        subst hcal e1
        have hx := h.ev x
        have hy := h.ev y
        split at hq
        · next k p k' q e3 e4 =>
          simp only [Option.some.injEq, Prod.mk.injEq] at hq
          obtain ⟨rfl, rfl, rfl⟩ := hq
          rw [e3] at hx
          rw [e4] at hy
          refine still _ (.int k (if q < p then q else p)) ?_ rfl
          simp only [execOp, resolve, invoke, builtin, Sem.run_bind, Sem.run_pure, Result.andThen_ok, List.map_toArray, List.map_cons, List.map_nil, hx.int_, hy.int_, Builtin.min_, Builtin.min2, List.foldlM_cons, List.foldlM_nil]
        · cases hq
      · next bb as ts x y has =>
        obtain ⟨callee, args, argTypes⟩ := c
        simp only at hcal has
        have e1 : args = #[x, y] := by apply Array.ext'; simpa using has
        subst hcal e1
        have hx := h.ev x
        have hy := h.ev y
        split at hq
        · next k p k' q e3 e4 =>
          simp only [Option.some.injEq, Prod.mk.injEq] at hq
          obtain ⟨rfl, rfl, rfl⟩ := hq
          rw [e3] at hx
          rw [e4] at hy
          refine still _ (.int k (if p < q then q else p)) ?_ rfl
          simp only [execOp, resolve, invoke, builtin, Sem.run_bind, Sem.run_pure, Result.andThen_ok, List.map_toArray, List.map_cons, List.map_nil, hx.int_, hy.int_, Builtin.max_, Builtin.max2, List.foldlM_cons, List.foldlM_nil, gt_iff_lt]
        · cases hq
      · cases hq
    · cases hq
  case box t x =>
    simp only [qop] at hq
    split at hq
    · next cs e =>
      simp only [Option.some.injEq, Prod.mk.injEq] at hq
      obtain ⟨rfl, rfl, rfl⟩ := hq
      obtain ⟨h1, h2⟩ := boxV_rep e (h.ev x)
      refine ⟨.pointer (some ⟨W.heap.size, 0, none⟩), W.alloc (.cells (a.eval x).cells t), σ.at id W.heap.size 0 0 0, by simp [execOp, Instr.box, newVar, newRow], ?_⟩
      have hab := habs rfl
      have hk : Sim F σ S a (W.alloc (.cells (a.eval x).cells t)) := h.grow (grown_alloc _ _)
      refine Sim.new (x := .box cs) h (grown_alloc _ _) (hid0 rfl) hab (Nat.le_refl _) ⟨(a.eval x).cells, t, ?_, h1, ?_⟩ hd ?_
      · simp only [Sg.at, upd_same]; exact heap_alloc_new W _
      · intro j v hv
        obtain ⟨w, hw, hr⟩ := h2 j v hv
        refine ⟨w, hw, RepL.keep hr (N := (· = id)) ⟨fun f b hdb hlt => ?_, fun f b _ hlt => (grown_alloc W _).block b hlt (by simp), fun i hi => Sg.at_ne _ _ _ _ _ hi⟩ ?_⟩
        · cases f with
          | false => exact hdb
          | true =>
            refine ⟨hdb.1, ?_⟩
            rintro ⟨i, y, hi, hgi⟩
            by_cases hii : i = id
            · subst hii; simp only [Sg.at, upd_same] at hgi; omega
            · rw [upd_ne _ _ hii] at hi; rw [(Sg.at_ne σ _ _ _ _ hii).1] at hgi; exact hdb.2 ⟨i, y, hi, hgi⟩
        · -- the value's own addresses are old ones
          have hn : noT (· = id) (ev S.T x) := by
            cases x with
            | tmp t => exact hab.1 t
            | const w =>
              simp only [ev]; unfold cv
              split
              · intro y hy
                obtain ⟨z, _, rfl⟩ := List.mem_map.1 hy
                unfold cv0; split <;> simp [noL, no0]
              · unfold cv0; split <;> simp [noT, noA, no0]
            | _ => simp [ev, noT, noA, no0]
          have hmem := List.mem_of_getElem? hv
          cases hx : ev S.T x with
          | agg xs =>
            rw [hx] at hn e
            simp only [boxV, Option.some.injEq] at e
            subst e
            exact hn v hmem
          | _ =>
            rw [hx] at hn e
            simp only [boxV, Option.some.injEq, reduceCtorEq] at e
            try (subst e; simp only [List.mem_singleton] at hmem; subst hmem; simp only [noT, noA] at hn; simp only [noL]; exact hn)
      · refine RepT_of0 ?_
        simp only [RepL0, Sg.at, upd_same, Nat.zero_mul, Nat.zero_add, Addr.add_lit]
    · cases hq
  case alloc t =>
    simp only [qop] at hq
    split at hq
    · next y e =>
      simp only [Option.some.injEq, Prod.mk.injEq] at hq
      obtain ⟨rfl, rfl, rfl⟩ := hq
      obtain ⟨i, z, h1, h2, h3, h4, h5, h6, h7⟩ := (E.hti _ _ e).info
      refine ⟨.pointer (some ⟨W.heap.size, 0, none⟩), W.alloc (.cells z.cells t), σ.at id W.heap.size 0 0 0, by simp [execOp, Instr.alloc, zeroValue, typeInfo, h1, h2, newVar, newRow], ?_⟩
      refine Sim.new (x := .box y.zero) h (grown_alloc _ _) (hid0 rfl) (habs rfl) (Nat.le_refl _) ⟨z.cells, t, ?_, by rw [h5, h6], ?_⟩ hd ?_
      · simp only [Sg.at, upd_same]; exact heap_alloc_new W _
      · intro j v hv
        obtain ⟨u, hu, hz⟩ := h7 j v hv
        exact ⟨u, hu, RepC_leafL hz⟩
      · refine RepT_of0 ?_
        simp only [RepL0, Sg.at, upd_same, Nat.zero_mul, Nat.zero_add, Addr.add_lit]
    · cases hq
  case makeSlice t l c =>
    simp only [qop] at hq
    split at hq
    · next e he =>
      split at hq
      · next y kl n kc m hy hl hc =>
        simp only [Option.some.injEq, Prod.mk.injEq] at hq
        obtain ⟨rfl, rfl, rfl⟩ := hq
        obtain ⟨rfl, h0, hb⟩ := hC
        have el := h.ev l
        have ec := h.ev c
        rw [hl] at el
        rw [hc] at ec
        have hty := E.hti _ _ hy
        obtain ⟨i, z, h1, h2, h3, h4, h5, h6, h7⟩ := hty.info
        have hbp := hty.bpos
        have hnb : n ≤ 281474976710656 := by
          refine Int.le_trans ?_ hb
          have : n * 1 ≤ n * (y.bytes : Int) := Int.mul_le_mul_of_nonneg_left (by omega) h0
          simpa using this
        have hr := run_make (P := E.P) W t e i z (E.hel _ _ he) h1 h2 kl kc n n h0 (Int.le_refl _) (by rw [h4, Int.mul_comm]; exact hb) (by omega)
        rw [h3] at hr
        refine ⟨_, _, σ.at id W.heap.size n.toNat n.toNat y.size, by simp only [execOp, el.int_, ec.int_, Sem.run_bind, hr, Result.andThen_ok]; rfl, ?_⟩
        refine Sim.new (x := .row e y.size (List.replicate n.toNat y.zero)) h (grown_alloc _ _) (hid0 rfl) (habs rfl) (Nat.le_refl _) ⟨madeCells z.cells (n.toNat * y.size), ?_, by simp [Sg.at, upd_same], by simp [Sg.at, upd_same], by simp [Sg.at, upd_same], by simp [Sg.at, upd_same, maxLen]; omega, by simp [Sg.at, upd_same, size_madeCells], ?_, ?_⟩ hd ?_
        · simp only [Sg.at, upd_same]; exact heap_alloc_new W _
        · intro e' he'
          rw [List.mem_replicate] at he'
          rw [he'.2, h6]
        · intro j e' he' o v hv
          have hje : e' = y.zero := (List.mem_replicate.1 (List.mem_of_getElem? he')).2
          subst hje
          have hjl : j < n.toNat := by simpa using (List.getElem?_eq_some_iff.1 he').1
          have hol : o < y.size := by have := (List.getElem?_eq_some_iff.1 hv).1; omega
          obtain ⟨u, hu, hz⟩ := h7 o v hv
          have hlt : j * y.size + o < n.toNat * y.size := by
            calc j * y.size + o < j * y.size + y.size := by omega
              _ = (j + 1) * y.size := by rw [Nat.add_mul, Nat.one_mul]
              _ ≤ _ := Nat.mul_le_mul_right _ hjl
          refine ⟨u, ?_, zrep_leaf hz _ _⟩
          have hmod : (j * y.size + o) % z.cells.size = o := by rw [h5]; exact (idx_of hol).2
          simp only [madeCells, Array.getElem?_map, Array.getElem?_range, hlt, if_true, Option.map_some, hmod]
          rw [getElem!_pos z.cells o (by omega)]
          rw [Array.getElem?_eq_getElem (by omega)] at hu
          exact hu
        · refine RepT_of0 ?_
          simp only [RepL0, Sg.at, upd_same]
      · cases hq
    · cases hq
  case buildSlice t len parts =>
    simp only [qop] at hq
    split at hq
    · next e he =>
      split at hq
      · next y es hy hes =>
        have hty := E.hti _ _ hy
        obtain ⟨i, z, h1, h2, h3, h4, h5, h6, h7⟩ := hty.info
        have hpos := hty.pos
        obtain ⟨hz1, hz2, hz3⟩ := rowsV_spec S.T 0 parts.toList es hes
        -- what the cells are
        have main : es.length = len ∧ len * y.size ≤ 16777216 ∧ (∀ e ∈ es, e.length = y.size) → ∃ cells : Array Value, (execOp a.eval ⟨dst, .buildSlice t len parts, type, pos, after, guard⟩).run E.P W = .ok (.value (.slice (some ⟨W.heap.size, 0, none⟩) len len)) (W.alloc (.cells cells e)) ∧
            cells.size = len * y.size ∧ ∀ (j : Nat) e', es[j]? = some e' → ∀ (o : Nat) v, e'[o]? = some v → ∃ u, cells[j * y.size + o]? = some u ∧ RepC W (Dm F σ S.B true) v u := by
          rintro ⟨g1, g3, g4⟩
          let vs : List Value := (parts.toList.map (·.2)).map a.eval
          have hvs : ∀ (j : Nat) w, vs[j]? = some w → ∃ e', es[j]? = some e' ∧ w.cells.size = e'.length ∧ ∀ (o : Nat) v, e'[o]? = some v → ∃ u, w.cells[o]? = some u ∧ RepC W (Dm F σ S.B true) v u := fun j w hw => by
            simp only [vs, List.getElem?_map] at hw
            obtain ⟨x, hx, rfl⟩ := Option.map_eq_some_iff.1 hw
            obtain ⟨c, hc, hrc⟩ := hz3 j x (by rw [List.getElem?_map]; exact hx)
            obtain ⟨k1, k2⟩ := rowV_rep hrc (h.ev x)
            exact ⟨c, hc, k1, k2⟩
          have hvl : vs.length = len := by simp only [vs, List.length_map]; rw [← g1, hz2]
          have hsz : ∀ w ∈ vs, w.cells.size = i.size := fun w hw => by
            obtain ⟨j, hj⟩ := List.getElem?_of_mem hw
            obtain ⟨e', he', h8, _⟩ := hvs j w hj
            rw [h8, g4 e' (List.mem_of_getElem? he'), h3]
          have hfill := Great.fill_whole (s := i.size) (by omega) vs ((Array.range (len * i.size)).map (z.cells[· % z.cells.size]!)) hsz (by simp [hvl])
          have hparts : (parts.map fun (x : Nat × Operand) => (x.1, a.eval x.2)).toList = (vs.zipIdx 0).map fun x => (x.2, x.1) := by
            rw [Array.toList_map]
            conv => lhs; rw [hz1]
            simp only [vs, List.zipIdx_map, List.map_map]
            rfl
          have hlen : (vs.flatMap fun v => v.cells.toList).length = len * y.size := by
            rw [← hvl, ← h3]
            clear hfill hparts hvl hvs
            generalize vs = l at hsz
            induction l with
            | nil => simp
            | cons w l ih =>
              rw [List.flatMap_cons, List.length_append, ih (fun w hw => hsz w (List.mem_cons_of_mem _ hw)), List.length_cons, Nat.add_mul, Nat.one_mul, Array.length_toList, hsz w List.mem_cons_self, Nat.add_comm]
          refine ⟨(vs.flatMap fun v => v.cells.toList).toArray, ?_, by simpa using hlen, fun j e' he' o v hv => ?_⟩
          · rcases Nat.eq_zero_or_pos len with h0 | g2
            · have hv0 : vs = [] := List.eq_nil_of_length_eq_zero (by omega)
              have hp1 : parts.toList = [] := List.eq_nil_of_length_eq_zero (by omega)
              have hb : (Instr.buildSlice t len (parts.map fun (x : Nat × Operand) => (x.1, a.eval x.2))).run E.P W = .ok (.slice (some ⟨W.heap.size, 0, none⟩) len len) (W.alloc (.cells #[] e)) := by
                subst h0
                simp [Instr.buildSlice, run_underlying (E.hel _ _ he), sizeOf, typeInfo, zeroValue, h1, h2, hp1, Instr.fill, newRow, show Array.range 0 = #[] from rfl]
              rw [hv0]
              simp only [execOp, Sem.run_bind]
              rw [hb]; rfl
            · have hb := run_buildSlice (P := E.P) W t e len _ _ i z (E.hel _ _ he) h1 h2 (by rw [h3]; omega) (by rw [h3]; exact Nat.ne_of_gt (Nat.mul_pos g2 hpos)) (by rw [← hparts] at hfill; exact hfill)
              simp only [execOp, Sem.run_bind]
              rw [hb]; rfl
          · have hjl := (List.getElem?_eq_some_iff.1 he').1
            have hol := (List.getElem?_eq_some_iff.1 hv).1
            rw [g4 e' (List.mem_of_getElem? he')] at hol
            obtain ⟨w, hw⟩ : ∃ w, vs[j]? = some w := ⟨_, List.getElem?_eq_getElem (by omega)⟩
            obtain ⟨e2, he2, _, k2⟩ := hvs j w hw
            rw [he'] at he2
            obtain rfl := Option.some.inj he2
            obtain ⟨u, hu, hr⟩ := k2 o v hv
            refine ⟨u, ?_, hr⟩
            simp only [List.getElem?_toArray]
            rw [Great.flat_get (s := i.size) (by omega) vs hsz]
            rw [h3, (idx_of hol).1, (idx_of hol).2, hw]
            exact hu
        split at hq
        · -- an own row
          simp only [Option.some.injEq, Prod.mk.injEq] at hq
          obtain ⟨rfl, rfl, rfl⟩ := hq
          obtain ⟨cells, m1, m2, m3⟩ := main hC
          obtain ⟨g1, g3, g4⟩ := hC
          refine ⟨_, _, σ.at id W.heap.size len len y.size, m1, ?_⟩
          have hlb : len ≤ 16777216 := Nat.le_trans (Nat.le_mul_of_pos_right _ hpos) g3
          refine Sim.new (x := .row e y.size es) h (grown_alloc _ _) (hid0 rfl) (habs rfl) (Nat.le_refl _) ⟨cells, ?_, by simp [Sg.at, upd_same, g1], by simp [Sg.at, upd_same], by simp [Sg.at, upd_same, g1], by simp [Sg.at, upd_same, maxLen]; omega, by simp [Sg.at, upd_same, m2], g4, ?_⟩ hd ?_
          · simp only [Sg.at, upd_same]; exact heap_alloc_new W _
          · intro j e' he' o v hv
            obtain ⟨u, hu, hr⟩ := m3 j e' he' o v hv
            refine ⟨u, hu, hr.mono (fun b hdb hlt => ⟨hdb.1, ?_⟩) (fun b _ hlt => (grown_alloc W _).block b hlt (by simp))⟩
            rintro ⟨i, y, hi, hgi⟩
            by_cases hii : i = id
            · subst hii; simp only [Sg.at, upd_same] at hgi; omega
            · rw [upd_ne _ _ hii] at hi; rw [(Sg.at_ne σ _ _ _ _ hii).1] at hgi; exact hdb.2 ⟨i, y, hi, hgi⟩
          · refine RepT_of0 ?_
            simp only [RepL0, Sg.at, upd_same]
        · -- a row that stays as it is
          simp only [Option.some.injEq, Prod.mk.injEq] at hq
          obtain ⟨rfl, rfl, rfl⟩ := hq
          obtain ⟨cells, m1, m2, m3⟩ := main hC
          obtain ⟨g1, g3, g4⟩ := hC
          refine ⟨_, _, σ, m1, (h.grow (grown_alloc _ _)).put hd (RepT_of0 ?_)⟩
          have hD : Dm F σ S.B true W.heap.size := by
            refine ⟨h.ext.size, ?_⟩
            rintro ⟨i, y, hi, hgi⟩
            have := h.blk_lt hi; omega
          have hcell : ∀ (j : Nat) e', es[j]? = some e' → ∀ (o : Nat) v, e'[o]? = some v → (W.alloc (.cells cells e)).cell? ((⟨W.heap.size, 0, none⟩ : Addr).add (j * y.size + o)) = some ((cells[j * y.size + o]?).getD undef) := fun j e' he' o v hv => by
            obtain ⟨u, hu, _⟩ := m3 j e' he' o v hv
            rw [Addr.add_lit, Nat.zero_add]
            have hn := heap_alloc_new W (.cells cells e)
            simp only [World.cell?, hn, hu, Option.getD_some]; rfl
          have := RepC.sl (W := W.alloc (.cells cells e)) (D := Dm F σ S.B true) true y.size es (some ⟨W.heap.size, 0, none⟩) len ⟨W.heap.size, 0, none⟩ (fun j o => (cells[j * y.size + o]?).getD undef) (fun _ => rfl) g4 (fun j e' he' o v hv => ⟨hcell j e' he' o v hv, hD⟩) (fun j e' he' o v hv => by
            obtain ⟨u, hu, hr⟩ := m3 j e' he' o v hv
            rw [hu]
            exact hr.mono (fun b hdb _ => hdb) (fun b _ hlt => (grown_alloc W _).block b hlt (by simp)))
          rw [g1] at this
          exact this
      · cases hq
    · cases hq
  all_goals (simp only [qop] at hq; cases hq)
end Go.Proofs.YtfakhgopbhnocaaVM
namespace Go.Proofs.YtfakhgopbhnocaaVM
open Go

/-- one step of whatever kind: the ids in N are made anew (or are used up), one own block may be written -/
theorem Sim.step {F : Fr} {σ : Sg} {S : AS} {a : Act} {W W' : World} (h : Sim F σ S a W) {row : Option Nat} (hg : W.grownBy W' row) {N : Nat → Prop} {σ' : Sg} {B' : Nat → Option Blk} (h00 : ¬ N 0)
    (hT : ∀ t, noT N (S.T t)) (hNB : ∀ i x, S.B i = some x → ¬ N i → noB N x)
    (hσ : ∀ i, ¬ N i → σ'.g i = σ.g i ∧ σ'.c i = σ.c i ∧ σ'.n i = σ.n i ∧ σ'.s i = σ.s i)
    (hr : ∀ k, row = some k → ∃ p x, S.B p = some x ∧ σ.g p = k)
    (hB : ∀ i, ¬ N i → row ≠ some (σ.g i) → B' i = S.B i)
    (hP : ∀ i x, ¬ N i → row = some (σ.g i) → B' i = some x → S.B i ≠ none)
    (hN : ∀ i x, N i → B' i = some x → W.heap.size ≤ σ'.g i ∨ ∃ j y, N j ∧ S.B j = some y ∧ σ.g j = σ'.g i)
    (hinj : ∀ i j x y, N i → N j → B' i = some x → B' j = some y → σ'.g i = σ'.g j → i = j)
    (hK : Keep W W' (Dm F σ S.B) (Dm F σ' B') σ σ' N → ∀ i x, (N i ∨ row = some (σ.g i)) → B' i = some x → BlkOK W' (Dm F σ' B') σ' i x) :
    Keep W W' (Dm F σ S.B) (Dm F σ' B') σ σ' N ∧ Sim F σ' ⟨S.T, B'⟩ a W' := by
  -- what was there of an id that is not made anew
  have old : ∀ i x, ¬ N i → B' i = some x → S.B i ≠ none := fun i x hi hx => by
    by_cases e : row = some (σ.g i)
    · exact hP i x hi e hx
    · rw [hB i hi e] at hx; rw [hx]; simp
  have old' : ∀ i x, ¬ N i → B' i = some x → ∃ y, S.B i = some y := fun i x hi hx => Option.ne_none_iff_exists'.1 (old i x hi hx)
  have own : ∀ b, Own σ' B' b → Own σ S.B b ∨ W.heap.size ≤ b := by
    rintro b ⟨i, x, hi, rfl⟩
    by_cases hn : N i
    · rcases hN i x hn hi with h1 | ⟨j, y, _, h2, h3⟩
      · exact .inr h1
      · exact .inl ⟨j, y, h2, h3⟩
    · obtain ⟨y, hy⟩ := old' i x hn hi
      exact .inl ⟨i, y, hy, (hσ i hn).1.symm⟩
  have k : Keep W W' (Dm F σ S.B) (Dm F σ' B') σ σ' N := by
    refine ⟨fun f b hdb hlt => ?_, fun f b hdb hlt => hg.block b hlt (fun e => ?_), hσ⟩
    · cases f with
      | false => exact hdb
      | true =>
        refine ⟨hdb.1, fun ho => ?_⟩
        rcases own b ho with h1 | h1
        · exact hdb.2 h1
        · omega
    · obtain ⟨p, x, hp, hpk⟩ := hr b e.symm
      exact h.dm_ne hp hdb hpk.symm
  refine ⟨k, h.df, h.sz, fun t => (h.t t).keep k (hT t), fun i x hx => ?_, fun i j x y hi hj hgg => ?_, fun i x hx => ?_, h.ext.grown hg (fun kk hk => ?_), by rw [(hσ 0 h00).1]; exact h.z⟩
  · by_cases hn : N i
    · exact hK k i x (.inl hn) hx
    · by_cases e : row = some (σ.g i)
      · exact hK k i x (.inr e) hx
      · have hx' := hx
        simp only at hx'
        rw [hB i hn e] at hx'
        exact (h.b i x hx').keep k hn (hNB i x hx' hn) (hg.block _ (h.blk_lt hx') (fun e' => e e'.symm))
  · by_cases hni : N i <;> by_cases hnj : N j
    · exact hinj i j x y hni hnj hi hj hgg
    · obtain ⟨z, hz⟩ := old' j y hnj hj
      rw [(hσ j hnj).1] at hgg
      rcases hN i x hni hi with h1 | ⟨j', y', h2, h3, h4⟩
      · have := h.blk_lt hz; omega
      · have := h.inj j' j y' z h3 hz (h4.trans hgg)
        subst this; exact absurd h2 hnj
    · obtain ⟨z, hz⟩ := old' i x hni hi
      rw [(hσ i hni).1] at hgg
      rcases hN j y hnj hj with h1 | ⟨j', y', h2, h3, h4⟩
      · have := h.blk_lt hz; omega
      · have := h.inj j' i y' z h3 hz (h4.trans hgg.symm)
        subst this; exact absurd h2 hni
    · obtain ⟨z, hz⟩ := old' i x hni hi
      obtain ⟨z', hz'⟩ := old' j y hnj hj
      rw [(hσ i hni).1, (hσ j hnj).1] at hgg
      exact h.inj i j z z' hz hz' hgg
  · by_cases hn : N i
    · rcases hN i x hn hx with h1 | ⟨j, y, _, h3, h4⟩
      · have := h.ext.size; exact .inl (by omega)
      · rw [← h4]; exact h.ge j y h3
    · obtain ⟨z, hz⟩ := old' i x hn hx
      rw [(hσ i hn).1]; exact h.ge i z hz
  · obtain ⟨p, x, hp, rfl⟩ := hr kk hk
    exact h.ge p x hp

/-! ### a store -/
/-- the cells of a box or a row behind a store of the cells vs at element j, cell o -/
def setL {α : Type} (cs : List α) (o : Nat) : List α → List α
  | [] => cs
  | v :: vs => setL (cs.set o v) (o + 1) vs
def stored1 (B : Nat → Option Blk) (vs : List V) : V → Option (Prop × Nat × Blk)
  | .ptr i j o => match B i with
    | some (.box cs) => match j with
      | 0 => some (o + vs.length ≤ cs.length, i, .box (setL cs o vs))
      | _ => none
    | some (.row e s es) => bif vs.all shut1 then some (j < es.length ∧ o + vs.length ≤ s, i, .row e s (es.set j (setL (es.getD j []) o vs))) else none
    | none => none
  | _ => none
theorem setL_length {α : Type} : ∀ (vs : List α) (cs : List α) (o : Nat), (setL cs o vs).length = cs.length
  | [], cs, o => rfl
  | v :: vs, cs, o => by simp [setL, setL_length vs]
theorem setL_get {α : Type} : ∀ (vs : List α) (cs : List α) (o k : Nat) (v : α), (setL cs o vs)[k]? = some v → (o ≤ k ∧ k < o + vs.length ∧ vs[k - o]? = some v) ∨ ((k < o ∨ o + vs.length ≤ k) ∧ cs[k]? = some v)
  | [], cs, o, k, v, h => .inr ⟨by simp; omega, h⟩
  | u :: vs, cs, o, k, v, h => by
    rcases setL_get vs (cs.set o u) (o + 1) k v h with ⟨h1, h2, h3⟩ | ⟨h1, h2⟩
    · exact .inl ⟨by omega, by simp; omega, by rw [show k - o = (k - (o + 1)) + 1 by omega]; simpa using h3⟩
    · by_cases e : k = o
      · subst e
        rw [List.getElem?_set] at h2
        simp only [if_true] at h2
        split at h2
        · exact .inl ⟨Nat.le_refl _, by simp, by simpa using h2⟩
        · cases h2
      · rw [List.getElem?_set_ne (fun e' => e e'.symm)] at h2
        refine .inr ⟨?_, h2⟩
        simp only [List.length_cons]
        omega
end Go.Proofs.YtfakhgopbhnocaaVM
namespace Go.Proofs.YtfakhgopbhnocaaVM
open Go

def known1 : V → Bool
  | .int _ _ | .bool _ | .nil | .sl _ _ _ | .ref _ | .ptr _ _ _ | .fat _ _ _ => true
  | _ => false
theorem known1_one {W : World} {D : Bool → Nat → Prop} {σ : Sg} {v : V} {c : Value} (h : known1 v = true) (hr : RepL W D σ v c) : c.oneCell' = true := by
  unfold known1 at h
  split at h
  · have e : c = _ := hr; subst e; rfl
  · have e : c = _ := hr; subst e; rfl
  · have e : c = _ := hr; subst e; rfl
  · exact RepC.oneCell hr
  · have e : c = _ := hr; subst e; rfl
  · have e : c = _ := hr; subst e; rfl
  · obtain ⟨ad, rfl, _⟩ := hr; rfl
  · cases h
theorem splice_get (l us : List Value) (o k : Nat) (h : o + us.length ≤ l.length) : (l.take o ++ us ++ l.drop (o + us.length))[k]? = if o ≤ k ∧ k < o + us.length then us[k - o]? else l[k]? := by
  have hl : (l.take o).length = o := by rw [List.length_take]; omega
  rw [List.append_assoc]
  by_cases h1 : k < o
  · rw [List.getElem?_append_left (by omega), if_neg (by omega), List.getElem?_take, if_pos h1]
  · rw [List.getElem?_append_right (by omega), hl]
    by_cases h2 : k < o + us.length
    · rw [List.getElem?_append_left (by omega), if_pos ⟨by omega, h2⟩]
    · rw [List.getElem?_append_right (by omega), if_neg (by omega), List.getElem?_drop]
      congr 1; omega
theorem setRow_grown (W : World) (g : Nat) (cs : Array Value) : W.grownBy (W.setRow g cs) (some g) :=
  ⟨rfl, rfl, rfl, by simp [World.setRow], fun k _ hk => setRow_other W g k cs (fun e => hk (by rw [e]))⟩
theorem keep_write {F : Fr} {σ : Sg} {S : AS} {a : Act} {W W' : World} (h : Sim F σ S a W) {i : Nat} {x : Blk} (hx : S.B i = some x) (hg : W.grownBy W' (some (σ.g i))) : Keep W W' (Dm F σ S.B) (Dm F σ S.B) σ σ (fun _ => False) :=
  ⟨fun f b hdb _ => hdb, fun f b hdb hlt => hg.block b hlt (fun e => h.dm_ne hx hdb (Option.some.inj e)), fun _ _ => ⟨rfl, rfl, rfl, rfl⟩⟩

theorem store_sound (E : Env) {F : Fr} (hP : F.P = E.P) {σ : Sg} {S : AS} {a : Act} {W : World} (h : Sim F σ S a W) (o : Oper) {t : TypeId} {p x : Operand} (ho : o.op = .store t p x) (hdst : o.dst = none) {y : TI} (hy : E.ti t = some y) {vs : List V}
    (hv : boxV (ev S.T x) = some vs) (hk : vs.all known1 = true) (hl : vs.length = y.size) {C : Prop} {i : Nat} {blk : Blk} (hs : stored1 S.B vs (ev S.T p) = some (C, i, blk)) (hC : C) :
    ∃ W', (execOp a.eval o).run E.P W = .ok .skip W' ∧ Sim F σ ⟨S.T, upd S.B i (some blk)⟩ (a.put o.dst undef) W' := by
  obtain ⟨hb1, hb2⟩ := boxV_rep hv (h.ev x)
  have hone : ∀ u ∈ (a.eval x).cells.toList, u.oneCell' = true := fun u hu => by
    obtain ⟨j, hj⟩ := List.getElem?_of_mem hu
    have hjl : j < vs.length := by have := (List.getElem?_eq_some_iff.1 hj).1; simpa [hb1] using this
    obtain ⟨w, hw, hr⟩ := hb2 j _ (List.getElem?_eq_getElem hjl)
    rw [← Array.getElem?_toList, hj] at hw
    obtain rfl := Option.some.inj hw
    exact known1_one (List.all_eq_true.1 hk _ (List.getElem_mem hjl)) hr
  have hlen : (a.eval x).cells.toList.length = vs.length := by simpa using hb1
  have hp := h.ev p
  -- the machine's side
  have run : ∀ (off : Nat) (cur : Array Value) (e : TypeId), a.eval p = .pointer (some ⟨σ.g i, off, none⟩) → W.heap[σ.g i]? = some (.cells cur e (0, 0)) → off + vs.length ≤ cur.size →
      (execOp a.eval o).run E.P W = .ok .skip (W.setRow (σ.g i) (cur.toList.take off ++ (a.eval x).cells.toList ++ cur.toList.drop (off + (a.eval x).cells.toList.length)).toArray) := fun off cur e he hg hle => by
    have hst := run_storeCells_at E.P (σ.g i) off e (a.eval x).cells.toList 0 cur W hg (by rw [hlen]; simpa using hle) hone
    simp only [Nat.add_zero] at hst
    simp only [execOp, ho, Instr.storeAt, storeVar, Sem.run_bind, he, Instr.sureAddr, Sem.run_pure, Result.andThen_ok, run_size (E.hti _ _ hy)]
    rw [if_neg (by rw [hb1, hl]; simp)]
    simp only [hst, Result.andThen_ok]
  have hput : a.put o.dst undef = a := by rw [hdst]; rfl
  rw [hput]
  unfold stored1 at hs
  split at hs
  · next ii j oo hpe =>
    rw [hpe] at hp
    have hpp := hp.ptr_
    split at hs
    · next cs hB =>
      split at hs
      · simp only [Option.some.injEq, Prod.mk.injEq] at hs
        obtain ⟨rfl, rfl, rfl⟩ := hs
        obtain ⟨cur, e, hg, hsz, hr⟩ := h.b ii _ hB
        rw [Nat.zero_mul, Nat.zero_add, Addr.add_lit, Nat.zero_add] at hpp
        refine ⟨_, run oo cur e hpp hg (by omega), ?_⟩
        have hgr := setRow_grown W (σ.g ii) (cur.toList.take oo ++ (a.eval x).cells.toList ++ cur.toList.drop (oo + (a.eval x).cells.toList.length)).toArray
        have hkp := keep_write h hB hgr
        refine Sim.write h hB hgr ⟨_, e, setRow_heap W _ cur _ e (0, 0) hg, ?_, fun j v hv' => ?_⟩
        · rw [setL_length, ← hsz]
          simp only [List.size_toArray, List.length_append, List.length_take, List.length_drop, Array.length_toList, hb1]
          omega
        · have hget : ∀ k, ((cur.toList.take oo ++ (a.eval x).cells.toList ++ cur.toList.drop (oo + (a.eval x).cells.toList.length)).toArray)[k]? = if oo ≤ k ∧ k < oo + vs.length then (a.eval x).cells[k - oo]? else cur[k]? := fun k => by
            rw [List.getElem?_toArray, splice_get _ _ _ _ (by rw [hlen]; simpa [hsz] using hC), hlen]
            simp
          rw [hget]
          rcases setL_get vs cs oo j v hv' with ⟨h1, h2, h3⟩ | ⟨h1, h2⟩
          · rw [if_pos ⟨h1, h2⟩]
            obtain ⟨u, hu, hru⟩ := hb2 _ _ h3
            exact ⟨u, hu, hru.keep hkp (noL_false _)⟩
          · rw [if_neg (by omega)]
            obtain ⟨u, hu, hru⟩ := hr _ _ h2
            exact ⟨u, hu, hru.keep hkp (noL_false _)⟩
      · cases hs
    · next e s es hB =>
      cases hsh : vs.all shut1 with
      | false => rw [hsh] at hs; cases hs
      | true =>
        rw [hsh] at hs
        simp only [cond_true, Option.some.injEq, Prod.mk.injEq] at hs
        obtain ⟨rfl, rfl, rfl⟩ := hs
        obtain ⟨hj, hos⟩ := hC
        obtain ⟨cur, hg, hn, hss, h1, h2, h3, h4, hr⟩ := h.b ii _ hB
        have hje : es[j]? = some (es.getD j []) := by rw [List.getD_eq_getElem?_getD, List.getElem?_eq_getElem hj]; rfl
        have hel := h4 _ (List.mem_of_getElem? hje)
        rw [hss, Addr.add_lit, Nat.zero_add] at hpp
        have hfit : j * s + oo + vs.length ≤ cur.size := by
          rw [h3]
          calc j * s + oo + vs.length ≤ j * s + s := by omega
            _ = (j + 1) * s := by rw [Nat.add_mul, Nat.one_mul]
            _ ≤ σ.c ii * s := Nat.mul_le_mul_right _ (by omega)
        refine ⟨_, run (j * s + oo) cur e hpp hg hfit, ?_⟩
        have hgr := setRow_grown W (σ.g ii) (cur.toList.take (j * s + oo) ++ (a.eval x).cells.toList ++ cur.toList.drop (j * s + oo + (a.eval x).cells.toList.length)).toArray
        have hkp := keep_write h hB hgr
        have hget : ∀ k, ((cur.toList.take (j * s + oo) ++ (a.eval x).cells.toList ++ cur.toList.drop (j * s + oo + (a.eval x).cells.toList.length)).toArray)[k]? = if j * s + oo ≤ k ∧ k < j * s + oo + vs.length then (a.eval x).cells[k - (j * s + oo)]? else cur[k]? := fun k => by
            rw [List.getElem?_toArray, splice_get _ _ _ _ (by rw [hlen]; simpa using hfit), hlen]
            simp
        refine Sim.write h hB hgr ⟨_, setRow_heap W _ cur _ e (0, 0) hg, by rw [List.length_set]; exact hn, hss, by rw [List.length_set]; exact h1, h2, ?_, fun e' he' => ?_, fun j' e' he' o' v hv' => ?_⟩
        · rw [← h3]
          simp only [List.size_toArray, List.length_append, List.length_take, List.length_drop, Array.length_toList, hb1]
          omega
        · rcases List.mem_or_eq_of_mem_set he' with he' | rfl
          · exact h4 e' he'
          · rw [setL_length]; exact hel
        · rw [hget]
          have ho'e : e'.length = s := by
            rcases List.mem_or_eq_of_mem_set (List.mem_of_getElem? he') with he2 | rfl
            · exact h4 e' he2
            · rw [setL_length]; exact hel
          have ho' : o' < s := by have := (List.getElem?_eq_some_iff.1 hv').1; omega
          by_cases hjj : j' = j
          · subst hjj
            rw [List.getElem?_set_self (by omega)] at he'
            obtain rfl := Option.some.inj he'
            rcases setL_get vs _ oo o' v hv' with ⟨g1, g2, g3⟩ | ⟨g1, g2⟩
            · rw [if_pos (by omega)]
              obtain ⟨u, hu, hru⟩ := hb2 _ _ g3
              refine ⟨u, by rw [show j' * s + o' - (j' * s + oo) = o' - oo by omega]; exact hu, ?_⟩
              exact (shut1_rep (List.all_eq_true.1 hsh _ (List.mem_of_getElem? g3)) hru).mono (hkp.d true) (hkp.w true)
            · rw [if_neg (by omega)]
              obtain ⟨u, hu, hru⟩ := hr _ _ hje _ _ g2
              exact ⟨u, hu, hru.mono (hkp.d true) (hkp.w true)⟩
          · rw [List.getElem?_set_ne (fun e => hjj e.symm)] at he'
            obtain ⟨u, hu, hru⟩ := hr _ _ he' _ _ hv'
            refine ⟨u, ?_, hru.mono (hkp.d true) (hkp.w true)⟩
            rw [if_neg ?_]; exact hu
            rintro ⟨g1, g2⟩
            rcases Nat.lt_or_gt_of_ne hjj with hlt | hlt
            · have : (j' + 1) * s ≤ j * s := Nat.mul_le_mul_right _ hlt
              rw [Nat.add_mul, Nat.one_mul] at this; omega
            · have : (j + 1) * s ≤ j' * s := Nat.mul_le_mul_right _ hlt
              rw [Nat.add_mul, Nat.one_mul] at this; omega
    · cases hs
  · cases hs
end Go.Proofs.YtfakhgopbhnocaaVM
namespace Go.Proofs.YtfakhgopbhnocaaVM
open Go

/-! ### forgetting what names a used-up block -/
def kill0 (i : Nat) : V → V
  | .ref k => bif k == i then .und else .ref k
  | .ptr k j o => bif k == i then .und else .ptr k j o
  | v => v
def killL (i : Nat) : V → V
  | .con u v => .con u (kill0 i v)
  | v => kill0 i v
def killA (i : Nat) : V → V
  | .agg cs => .agg (cs.map (killL i))
  | v => kill0 i v
def killT (i : Nat) : V → V
  | .tup cs => .tup (cs.map (killA i))
  | v => killA i v
def killB (i : Nat) : Blk → Blk
  | .box cs => .box (cs.map (killL i))
  | b => b
section
variable {W : World} {D : Bool → Nat → Prop} {σ : Sg} {v : V} {c : Value}
theorem kill0_rep (i : Nat) (h : RepL0 W D σ v c) : RepL0 W D σ (kill0 i v) c := by
  cases v <;> first | exact h | (simp only [kill0]; cases hk : (_ == i) <;> first | exact h | trivial)
theorem killL_rep (i : Nat) (h : RepL W D σ v c) : RepL W D σ (killL i v) c := by
  cases v with
  | con u v => exact ⟨h.1, kill0_rep i h.2⟩
  | _ => exact RepL_of0 (kill0_rep i (by simpa only [RepL] using h))
theorem killA_rep (i : Nat) (h : RepA W D σ v c) : RepA W D σ (killA i v) c := by
  cases v with
  | agg cs =>
    obtain ⟨a, h1, h2, h3⟩ := h
    refine ⟨a, h1, by simpa using h2, fun j v hv => ?_⟩
    rw [List.getElem?_map] at hv
    obtain ⟨w, hw, rfl⟩ := Option.map_eq_some_iff.1 hv
    obtain ⟨u, hu, hr⟩ := h3 j w hw
    exact ⟨u, hu, killL_rep i hr⟩
  | _ => exact RepA_of0 (kill0_rep i (by simpa only [RepA] using h))
theorem killT_rep (i : Nat) (h : RepT W D σ v c) : RepT W D σ (killT i v) c := by
  cases v with
  | tup cs =>
    obtain ⟨a, h1, h2, h3⟩ := h
    refine ⟨a, h1, by simpa using h2, fun j v hv => ?_⟩
    rw [List.getElem?_map] at hv
    obtain ⟨w, hw, rfl⟩ := Option.map_eq_some_iff.1 hv
    obtain ⟨u, hu, hr⟩ := h3 j w hw
    exact ⟨u, hu, killA_rep i hr⟩
  | _ => exact RepT_ofA (killA_rep i (by simpa only [RepT] using h))
theorem killB_rep (i : Nat) {k : Nat} {x : Blk} (h : BlkOK W D σ k x) : BlkOK W D σ k (killB i x) := by
  cases x with
  | row e s es => exact h
  | box cs =>
    obtain ⟨cur, e, h1, h2, h3⟩ := h
    refine ⟨cur, e, h1, by simpa using h2, fun j v hv => ?_⟩
    rw [List.getElem?_map] at hv
    obtain ⟨w, hw, rfl⟩ := Option.map_eq_some_iff.1 hv
    obtain ⟨u, hu, hr⟩ := h3 j w hw
    exact ⟨u, hu, killL_rep i hr⟩
end
/-- either of two sets of ids -/
theorem no0_or {N M : Nat → Prop} {v : V} (h : no0 N v) (k : no0 M v) : no0 (fun i => N i ∨ M i) v := by
  cases v <;> simp only [no0] at * <;> simp [*]
theorem noL_or {N M : Nat → Prop} {v : V} (h : noL N v) (k : noL M v) : noL (fun i => N i ∨ M i) v := by
  cases v with
  | con u v => exact no0_or (v := v) h k
  | _ => simp only [noL] at *; exact no0_or h k
theorem noA_or {N M : Nat → Prop} {v : V} (h : noA N v) (k : noA M v) : noA (fun i => N i ∨ M i) v := by
  cases v with
  | agg cs => exact fun v hv => noL_or (h v hv) (k v hv)
  | _ => simp only [noA] at *; exact no0_or h k
theorem noT_or {N M : Nat → Prop} {v : V} (h : noT N v) (k : noT M v) : noT (fun i => N i ∨ M i) v := by
  cases v with
  | tup cs => exact fun v hv => noA_or (h v hv) (k v hv)
  | _ => simp only [noT] at *; exact noA_or h k
theorem noB_or {N M : Nat → Prop} {v : Blk} (h : noB N v) (k : noB M v) : noB (fun i => N i ∨ M i) v := by
  cases v with
  | row => trivial
  | box cs => exact fun v hv => noL_or (h v hv) (k v hv)
theorem kill0_cases (i : Nat) (v : V) : kill0 i v = v ∨ kill0 i v = .und := by
  cases v with
  | ref k => simp only [kill0]; cases k == i <;> simp
  | ptr k j o => simp only [kill0]; cases k == i <;> simp
  | _ => exact .inl rfl
theorem kill0_con {i : Nat} {v : V} (h : ∀ u w, v ≠ .con u w) : ∀ u w, kill0 i v ≠ .con u w := by rcases kill0_cases i v with e | e <;> rw [e] <;> first | exact h | simp
theorem kill0_agg {i : Nat} {v : V} (h : ∀ u, v ≠ .agg u) : ∀ u, kill0 i v ≠ .agg u := by rcases kill0_cases i v with e | e <;> rw [e] <;> first | exact h | simp
theorem kill0_tup {i : Nat} {v : V} (h : ∀ u, v ≠ .tup u) : ∀ u, kill0 i v ≠ .tup u := by rcases kill0_cases i v with e | e <;> rw [e] <;> first | exact h | simp
theorem no0_kill (i : Nat) (v : V) : no0 (· = i) (kill0 i v) := by
  cases v with
  | ref k => simp only [kill0]; by_cases h : k = i <;> simp [beq_iff_eq, h, no0, beq_eq_false_iff_ne.2]
  | ptr k j o => simp only [kill0]; by_cases h : k = i <;> simp [h, no0, beq_eq_false_iff_ne.2]
  | _ => trivial
theorem noL_of0 {N : Nat → Prop} {v : V} (h : no0 N v) (hc : ∀ u w, v ≠ .con u w) : noL N v := by
  cases v with
  | con u w => exact absurd rfl (hc u w)
  | _ => simpa only [noL] using h
theorem noA_of0 {N : Nat → Prop} {v : V} (h : no0 N v) (hc : ∀ u, v ≠ .agg u) : noA N v := by
  cases v with
  | agg w => exact absurd rfl (hc w)
  | _ => simpa only [noA] using h
theorem noT_ofA {N : Nat → Prop} {v : V} (h : noA N v) (hc : ∀ u, v ≠ .tup u) : noT N v := by
  cases v with
  | tup w => exact absurd rfl (hc w)
  | _ => simpa only [noT] using h
/-- killing brings in no new names -/
theorem no0_kill_of {N : Nat → Prop} (i : Nat) {v : V} (h : no0 N v) : no0 N (kill0 i v) := by
  rcases kill0_cases i v with e | e <;> rw [e]
  · exact h
  · trivial
theorem noL_lift {N M : Nat → Prop} (i : Nat) (h0 : ∀ v, no0 M v → no0 N (kill0 i v)) (v : V) (h : noL M v) : noL N (killL i v) := by
  cases v with
  | con u v => exact h0 v h
  | _ => simp only [killL]; simp only [noL] at h; exact noL_of0 (h0 _ h) (kill0_con (by simp))
theorem noA_lift {N M : Nat → Prop} (i : Nat) (h0 : ∀ v, no0 M v → no0 N (kill0 i v)) (v : V) (h : noA M v) : noA N (killA i v) := by
  cases v with
  | agg cs => intro v hv; obtain ⟨w, hw, rfl⟩ := List.mem_map.1 hv; exact noL_lift i h0 w (h w hw)
  | _ => simp only [killA]; simp only [noA] at h; exact noA_of0 (h0 _ h) (kill0_agg (by simp))
theorem killA_tup {i : Nat} {v : V} (h : ∀ u, v ≠ .tup u) : ∀ u, killA i v ≠ .tup u := by
  cases v with
  | agg cs => simp [killA]
  | _ => simp only [killA]; exact kill0_tup h
theorem noT_lift {N M : Nat → Prop} (i : Nat) (h0 : ∀ v, no0 M v → no0 N (kill0 i v)) (v : V) (h : noT M v) : noT N (killT i v) := by
  cases v with
  | tup cs => intro v hv; obtain ⟨w, hw, rfl⟩ := List.mem_map.1 hv; exact noA_lift i h0 w (h w hw)
  | _ => simp only [killT]; simp only [noT] at h; exact noT_ofA (noA_lift i h0 _ h) (killA_tup (by simp))
theorem noB_lift {N M : Nat → Prop} (i : Nat) (h0 : ∀ v, no0 M v → no0 N (kill0 i v)) (x : Blk) (h : noB M x) : noB N (killB i x) := by
  cases x with
  | row => trivial
  | box cs => intro v hv; obtain ⟨w, hw, rfl⟩ := List.mem_map.1 hv; exact noL_lift i h0 w (h w hw)
theorem noT_kill (i : Nat) (v : V) : noT (· = i) (killT i v) := noT_lift i (M := fun _ => False) (fun v _ => no0_kill i v) v (noT_false v)
theorem noB_kill (i : Nat) (x : Blk) : noB (· = i) (killB i x) := noB_lift i (M := fun _ => False) (fun v _ => no0_kill i v) x (noB_false x)
theorem noT_kill_of {N : Nat → Prop} (i : Nat) {v : V} (h : noT N v) : noT N (killT i v) := noT_lift i (fun _ => no0_kill_of i) v h
theorem noB_kill_of {N : Nat → Prop} (i : Nat) {x : Blk} (h : noB N x) : noB N (killB i x) := noB_lift i (fun _ => no0_kill_of i) x h

/-- the state behind killing: the block itself stays -/
def killS (i : Nat) (S : AS) : AS := ⟨fun t => killT i (S.T t), fun k => (S.B k).map (killB i)⟩
theorem Sim.kill {F : Fr} {σ : Sg} {S : AS} {a : Act} {W : World} (h : Sim F σ S a W) (i : Nat) : Sim F σ (killS i S) a W := by
  have hsome : ∀ k x, (S.B k).map (killB i) = some x → ∃ y, S.B k = some y ∧ killB i y = x := fun k x hx => Option.map_eq_some_iff.1 hx
  have hO : ∀ b, Own σ (killS i S).B b ↔ Own σ S.B b := fun b => by
    constructor
    · rintro ⟨k, x, hk, e⟩; obtain ⟨y, hy, _⟩ := hsome k x hk; exact ⟨k, y, hy, e⟩
    · rintro ⟨k, x, hk, e⟩; exact ⟨k, killB i x, by simp [killS, hk], e⟩
  have hD : Dm F σ (killS i S).B = Dm F σ S.B := by funext f b; cases f <;> simp only [Dm, hO]
  refine ⟨h.df, h.sz, fun t => by rw [hD]; exact killT_rep i (h.t t), fun k x hx => ?_, fun k j x y hk hj => ?_, fun k x hx => ?_, h.ext, h.z⟩
  · obtain ⟨y, hy, rfl⟩ := hsome k x hx
    rw [hD]; exact killB_rep i (h.b k y hy)
  · obtain ⟨x', hx', _⟩ := hsome k x hk
    obtain ⟨y', hy', _⟩ := hsome j y hj
    exact h.inj k j x' y' hx' hy'
  · obtain ⟨y, hy, _⟩ := hsome k x hx
    exact h.ge k y hy
end Go.Proofs.YtfakhgopbhnocaaVM
namespace Go.Proofs.YtfakhgopbhnocaaVM
open Go

def scal : V → Bool
  | .int _ _ | .bool _ | .nil => true
  | _ => false
theorem scal_rep {W W' : World} {D D' : Nat → Prop} {v : V} {c : Value} (h : scal v = true) (hr : RepC W D v c) : RepC W' D' v c := by
  cases hr with
  | int k n => exact .int k n
  | bool b => exact .bool b
  | nil => exact .nil
  | sl => simp [scal] at h

/-- the state behind an append: id holds the row; what held the row appended to holds it no more -/
def appS (id : Nat) (d : Option Nat) (old : Option Nat) (blk : Blk) (S : AS) : AS :=
  match old with
  | none => ⟨updO S.T d (.ref id), upd S.B id (some blk)⟩
  | some i => ⟨updO (killS i S).T d (.ref id), upd (upd (killS i S).B i none) id (some blk)⟩
theorem run_append_none {P : Program} (w : World) (t ty e : TypeId) (i : TypeInfo) (ht : P.underlying t = some (.slice e)) (hi : P.info? e = some i) (ad : Addr) (n c c' : Nat) (hc : n ≤ c) :
    (Builtin.append_ #[t, t] ty #[.slice (some ad) n c, .slice none 0 c']).run P w = .ok (.slice (some ad) n c) w := by
  simp [Builtin.append_, run_underlying ht, sizeOf, typeInfo, hi, Builtin.lenOf, Builtin.firstCells, storeCells, hc]
theorem append_sound (E : Env) {F : Fr} (hP : F.P = E.P) {σ : Sg} {S : AS} {a : Act} {W : World} (h : Sim F σ S a W) (o : Oper) {t : TypeId} {s x : Operand} (ho : o.op = .call { callee := .builtin .append, args := #[s, x], argTypes := #[t, t] })
    (hd : ∀ k, o.dst = some k → k < F.N) {e : TypeId} {y : TI} (he : E.el t = some e) (hy : E.ti e = some y) (id : Nat) {old : Option Nat} {es : List (List V)} (hs : (ev S.T s = .nil ∧ old = none ∧ es = []) ∨ ∃ i, ev S.T s = .ref i ∧ old = some i ∧ S.B i = some (.row e y.size es))
    {f : Bool} {ss : Nat} {ys : List (List V)} (hx : ev S.T x = .sl f ss ys) (hf : f = true ∨ ∀ e ∈ ys, ∀ v ∈ e, scal v = true) (hss : ss = y.size) (hes : ∀ e ∈ es, e.length = y.size) (hne : old = none → ys ≠ [])
    (hb : (es.length + ys.length) * y.bytes ≤ 140737488355328) (hid0 : 0 ≠ id) (hold0 : ∀ i, old = some i → 0 ≠ i) (habs : old = some id ∨ Absent (· = id) S) :
    ∃ c W' σ', (execOp a.eval o).run E.P W = .ok (.value c) W' ∧ Sim F σ' (appS id o.dst old (.row e y.size (es ++ ys)) S) (a.put o.dst c) W' := by
  subst hss
  have hty := E.hti _ _ hy
  obtain ⟨i0, z, h1, h2, h3, h4, h5, h6, h7⟩ := hty.info
  have hpos := hty.pos
  -- what is appended
  have hxx := h.ev x
  rw [hx] at hxx
  have hys : ∀ e ∈ ys, e.length = y.size := by
    have hsl := hxx.sl_
    generalize a.eval x = vx at hsl
    cases hsl with
    | sl _ _ _ A cap ad cvv hA hs' hc hr => exact hs'
  have hsrc : (∃ ad m cap, ∃ news : List Value, a.eval x = .slice (some ad) m cap ∧ m = ys.length ∧ news.length = m * y.size ∧ (∀ (j : Nat) u, news[j]? = some u → W.cell? (ad.add j) = some u) ∧
      ∀ (j : Nat) e, ys[j]? = some e → ∀ (o : Nat) v, e[o]? = some v → ∃ u, news[j * y.size + o]? = some u ∧ RepC W (Dm F σ S.B f) v u) ∨ (ys = [] ∧ ∃ cap, a.eval x = .slice none 0 cap) := by
    have hsl := hxx.sl_
    generalize a.eval x = vx at hsl
    cases hsl with
    | sl _ _ _ A cap ad cvv hA hs' hc hr =>
      have hlen : ∀ (j : Nat) e, ys[j]? = some e → e.length = y.size := fun j e hj => hs' e (List.mem_of_getElem? hj)
      rcases hAA : A with _ | ad0
      · have hy0 : ys = [] := by
          cases ys with
          | nil => rfl
          | cons q qs => have := hA (by simp); rw [hAA] at this; cases this
        subst hy0
        exact .inr ⟨rfl, cap, rfl⟩
      by_cases hne0 : ys = []
      · subst hne0
        exact .inl ⟨ad0, 0, cap, [], rfl, rfl, by simp, fun j u hu => by simp at hu, fun j e' he' => by simp at he'⟩
      have hne := hne0
      rw [← hAA]
      left
      refine ⟨ad, ys.length, cap, (List.range (ys.length * y.size)).map (fun k => cvv (k / y.size) (k % y.size)), by rw [hA hne], rfl, by simp, fun j u hu => ?_, fun j e' he' o' v hv => ?_⟩
      · rw [List.getElem?_map] at hu
        obtain ⟨k, hk, rfl⟩ := Option.map_eq_some_iff.1 hu
        have hkl := (List.getElem?_eq_some_iff.1 hk).1
        have hkk : j = k := by have := (List.getElem?_eq_some_iff.1 hk).2; simpa using this
        subst hkk
        simp only [List.length_range] at hkl
        have hq : j / y.size < ys.length := (Nat.div_lt_iff_lt_mul hpos).2 hkl
        have hej := List.getElem?_eq_getElem hq
        have hel := hlen _ _ hej
        have hm : j % y.size < (ys[j / y.size]).length := by rw [hel]; exact Nat.mod_lt _ hpos
        have := (hc _ _ hej _ _ (List.getElem?_eq_getElem hm)).1
        rw [Nat.mul_comm, Nat.div_add_mod] at this
        exact this
      · have hol : o' < y.size := by have := (List.getElem?_eq_some_iff.1 hv).1; rw [hlen _ _ he'] at this; exact this
        have hlt := flat_len ys hs' j o' e' v he' hv
        refine ⟨cvv j o', ?_, hr _ _ he' _ _ hv⟩
        rw [List.getElem?_map, List.getElem?_range hlt]
        simp only [Option.map_some, (idx_of hol).1, (idx_of hol).2]
  -- what it is appended to
  obtain ⟨v, xs, hsv, hown, hxs, hvb⟩ : ∃ v, ∃ xs : List Value, a.eval s = v ∧ W.ownsRow 0 e y.size v es.length xs ∧ (∀ (j : Nat) e, es[j]? = some e → ∀ (o : Nat) v, e[o]? = some v → ∃ u, xs[j * y.size + o]? = some u ∧ RepC W (Dm F σ S.B true) v u) ∧
      ((old = none ∧ v.ownBlock = none) ∨ ∃ i b, old = some i ∧ S.B i = some b ∧ v.ownBlock = some (σ.g i)) := by
    have hsr := h.ev s
    rcases hs with ⟨hse, rfl, rfl⟩ | ⟨i, hse, rfl, hB⟩
    · rw [hse] at hsr
      exact ⟨_, [], hsr.nil_, World.ownsRow_nil _ _ _ _, fun j e hj => by simp at hj, .inl ⟨rfl, rfl⟩⟩
    · rw [hse] at hsr
      obtain ⟨cur, hg, hn, hsz, g1, g2, g3, g4, g5⟩ := h.b i _ hB
      have hcl : cur.toList.length = cur.size := by simp
      have hle : es.length * y.size ≤ cur.size := by rw [g3]; exact Nat.mul_le_mul_right _ g1
      refine ⟨_, cur.toList.take (es.length * y.size), hsr.ref_, ⟨by rw [List.length_take, hcl]; omega, .inr ⟨σ.g i, σ.c i, cur, by rw [hn], Nat.zero_le _, hg, g1, g2, g3, rfl⟩⟩, fun j e' he' o' v' hv' => ?_, .inr ⟨i, _, rfl, hB, rfl⟩⟩
      obtain ⟨u, hu, hr⟩ := g5 j e' he' o' v' hv'
      refine ⟨u, ?_, hr⟩
      rw [List.getElem?_take, if_pos (flat_len es g4 j o' e' v' he' hv')]
      simpa using hu
  -- the machine
  have h63 : es.length + ys.length ≤ maxLen := by
    have := Nat.le_trans (Nat.le_mul_of_pos_right (es.length + ys.length) hty.bpos) hb
    simp only [maxLen]; omega
  have hvn : old ≠ none → v ≠ .slice none 0 0 := fun ho e0 => by
    rcases hvb with ⟨h8, _⟩ | ⟨i, b, _, _, h8⟩
    · exact ho h8
    · rw [e0] at h8; simp [Value.ownBlock] at h8
  obtain ⟨news, hnl, hnrep, v', W', hrun, hown', hgr, hnil, hblk⟩ : ∃ news : List Value, news.length = ys.length * y.size ∧ (∀ (j : Nat) e, ys[j]? = some e → ∀ (o : Nat) v, e[o]? = some v → ∃ u, news[j * y.size + o]? = some u ∧ RepC W (Dm F σ S.B f) v u) ∧
      ∃ v' W', (Builtin.append_ #[t, t] o.type #[v, a.eval x]).run E.P W = .ok v' W' ∧ W'.ownsRow 0 e y.size v' (es.length + ys.length) (xs ++ news) ∧ W.grownBy W' v.ownBlock ∧ (v' = .slice none 0 0 ↔ v = .slice none 0 0 ∧ ys.length = 0) ∧ (v'.ownBlock = v.ownBlock ∨ v'.ownBlock = some W.heap.size) := by
    rcases hsrc with ⟨ad, m, cap, news, hxv, hml, hnl, hnews, hnrep⟩ | ⟨hy0, cap, hxv⟩
    · have hnone : ∀ u ∈ news, u.oneCell' = true := fun u hu => by
        obtain ⟨j, hj⟩ := List.getElem?_of_mem hu
        have hjl := (List.getElem?_eq_some_iff.1 hj).1
        rw [hnl, hml] at hjl
        have hq : j / y.size < ys.length := (Nat.div_lt_iff_lt_mul hpos).2 hjl
        have hej := List.getElem?_eq_getElem hq
        have hm : j % y.size < (ys[j / y.size]).length := by rw [hys _ (List.mem_of_getElem? hej)]; exact Nat.mod_lt _ hpos
        obtain ⟨u', hu', hr'⟩ := hnrep _ _ hej _ _ (List.getElem?_eq_getElem hm)
        rw [Nat.mul_comm, Nat.div_add_mod, hj] at hu'
        obtain rfl := Option.some.inj hu'
        exact hr'.oneCell
      subst hml
      obtain ⟨v', W', hrun, q1, q2, q3, q4⟩ := run_append_own_at (P := E.P) W 0 t o.type e i0 z y.size y.bytes (E.hel _ _ he) h1 h2 h3 h4 h5 hpos v es.length xs hown ad ys.length cap news hnl hnews hnone h63 hb (Nat.zero_le _)
      exact ⟨news, hnl, hnrep, v', W', by rw [hxv]; exact hrun, q1, q2, q3, q4⟩
    · subst hy0
      have ho : old ≠ none := fun h => hne h rfl
      have hv := hvn ho
      refine ⟨[], by simp, fun j e hj => by simp at hj, v, W, ?_, by simpa using hown, World.grownBy.refl _ _, by simp [hv], .inl rfl⟩
      rcases hown.2 with ⟨hv0, _⟩ | ⟨G, cp, cur', hv', _, hG, hle, hcm', hcs', htk⟩
      · exact absurd hv0 hv
      · rw [hxv, hv']; exact run_append_none W t o.type e i0 (E.hel _ _ he) h1 _ _ _ _ hle
  rcases hown'.2 with ⟨hv0, _⟩ | ⟨G, cp, cur', hv', _, hG, hn', hcm', hcs', htk⟩
  · exfalso
    obtain ⟨q1, q2⟩ := hnil.1 hv0
    by_cases ho : old = none
    · exact hne ho (List.eq_nil_of_length_eq_zero q2)
    · exact hvn ho q1
  refine ⟨v', W', σ.at id G cp (es.length + ys.length) y.size, ?_, ?_⟩
  · simp only [execOp, ho, resolve, invoke, builtin, Sem.run_bind, Sem.run_pure, Result.andThen_ok, List.map_toArray, List.map_cons, List.map_nil, hsv, hrun]
  have hGat : (σ.at id G cp (es.length + ys.length) y.size).g id = G := by simp [Sg.at, upd_same]
  have hcells : ∀ (D' : Nat → Prop), (∀ b, Dm F σ S.B true b → b < W.heap.size → D' b) → (∀ b, Dm F σ S.B true b → b < W.heap.size → W'.heap[b]? = W.heap[b]?) →
      ∀ (j : Nat) e', (es ++ ys)[j]? = some e' → ∀ (o : Nat) v, e'[o]? = some v → ∃ u, cur'[j * y.size + o]? = some u ∧ RepC W' D' v u := fun D' hD hW j e' he' o' v'' hv'' => by
    have hall : ∀ e ∈ es ++ ys, e.length = y.size := fun e he => by
      rcases List.mem_append.1 he with h8 | h8
      · exact hes e h8
      · exact hys e h8
    have hlt := flat_len (es ++ ys) hall j o' e' v'' he' hv''
    rw [List.length_append] at hlt
    have hcur : cur'[j * y.size + o']? = (xs ++ news)[j * y.size + o']? := by
      rw [← htk, List.getElem?_take, if_pos hlt]
      simp
    rw [hcur]
    by_cases hj : j < es.length
    · rw [List.getElem?_append_left hj] at he'
      obtain ⟨u, hu, hr⟩ := hxs j e' he' o' v'' hv''
      refine ⟨u, ?_, hr.mono hD hW⟩
      rw [List.getElem?_append_left (List.getElem?_eq_some_iff.1 hu).1]
      exact hu
    · rw [List.getElem?_append_right (by omega)] at he'
      obtain ⟨u, hu, hr⟩ := hnrep _ e' he' o' v'' hv''
      have hxl : xs.length = es.length * y.size := hown.1
      have hge : es.length * y.size ≤ j * y.size := Nat.mul_le_mul_right _ (by omega)
      refine ⟨u, ?_, ?_⟩
      · rw [List.getElem?_append_right (by omega), hxl]
        rw [show j * y.size + o' - es.length * y.size = (j - es.length) * y.size + o' by rw [Nat.mul_sub_right_distrib]; omega]
        exact hu
      · rcases hf with rfl | hf
        · exact hr.mono hD hW
        · exact scal_rep (hf _ (List.mem_of_getElem? he') _ (List.mem_of_getElem? hv'')) hr
  have hrow : ∀ (B' : Nat → Option Blk), Keep W W' (Dm F σ S.B) (Dm F (σ.at id G cp (es.length + ys.length) y.size) B') σ (σ.at id G cp (es.length + ys.length) y.size) (fun k => k = id ∨ old = some k) →
      BlkOK W' (Dm F (σ.at id G cp (es.length + ys.length) y.size) B') (σ.at id G cp (es.length + ys.length) y.size) id (.row e y.size (es ++ ys)) := fun B' k => by
    refine ⟨cur', by rw [hGat]; exact hG, by simp [Sg.at, upd_same], by simp [Sg.at, upd_same], by simp [Sg.at, upd_same]; omega, by simp [Sg.at, upd_same]; exact hcm', by simp [Sg.at, upd_same, hcs'], fun e' he' => ?_, hcells _ (k.d true) (k.w true)⟩
    rcases List.mem_append.1 he' with h8 | h8
    · exact hes e' h8
    · exact hys e' h8
  have hvrep : ∀ (D : Bool → Nat → Prop), RepT W' D (σ.at id G cp (es.length + ys.length) y.size) (.ref id) v' := fun D => by
    refine RepT_of0 ?_
    simp only [RepL0, Sg.at, upd_same]
    exact hv'
  rcases hvb with ⟨rfl, hv0⟩ | ⟨i, b, rfl, hBi, hvi⟩
  · -- a nil slice
    have ha : Absent (· = id) S := habs.resolve_left (by simp)
    have hGn : W.heap.size ≤ G := by
      rcases hblk with h8 | h8
      · rw [hv0, hv'] at h8; simp [Value.ownBlock] at h8
      · rw [hv'] at h8; simp [Value.ownBlock] at h8; omega
    rw [hv0] at hgr
    have st := Sim.step h hgr (N := fun k => k = id ∨ (none : Option Nat) = some k) (σ' := σ.at id G cp (es.length + ys.length) y.size) (B' := upd S.B id (some (.row e y.size (es ++ ys)))) (by simp [hid0])
      (fun t => by simpa using ha.1 t) (fun i x hi _ => by simpa using (ha.2 i x hi).2) (fun i hi => Sg.at_ne _ _ _ _ _ (fun e => hi (.inl e))) (by simp) (fun i hi _ => upd_ne _ _ (fun e => hi (.inl e))) (by simp)
      (fun i x hi _ => .inl (by rcases hi with rfl | hi; rw [hGat]; exact hGn; cases hi)) (fun i j x y hi hj _ _ _ => by simp at hi hj; rw [hi, hj])
      (fun k i x hi hx => by
        rcases hi with (rfl | hi) | hi
        · rw [upd_same] at hx; obtain rfl := Option.some.inj hx; exact hrow _ k
        · cases hi
        · cases hi)
    exact st.2.put hd (hvrep _)
  · -- an own row
    have hk := h.kill i
    rw [hvi] at hgr hblk
    have hBk : (killS i S).B i = some (killB i b) := by simp [killS, hBi]
    have hDk : Dm F σ (killS i S).B = Dm F σ S.B := by
      have hO : ∀ b, Own σ (killS i S).B b ↔ Own σ S.B b := fun b => by
        constructor
        · rintro ⟨k, x, hk, e⟩
          obtain ⟨y, hy, _⟩ := Option.map_eq_some_iff.1 hk
          exact ⟨k, y, hy, e⟩
        · rintro ⟨k, x, hk, e⟩; exact ⟨k, killB i x, by simp [killS, hk], e⟩
      funext f b; cases f <;> simp only [Dm, hO]
    have hGo : G = σ.g i ∨ G = W.heap.size := by
      rw [hv'] at hblk
      simpa [Value.ownBlock] using hblk
    have hkeep := hrow
    rw [← hDk] at hkeep
    have hidn : id = i ∨ Absent (· = id) S := by
      rcases habs with h8 | h8
      · exact .inl (Option.some.inj h8).symm
      · exact .inr h8
    have st := Sim.step hk hgr (N := fun k => k = id ∨ some i = some k) (σ' := σ.at id G cp (es.length + ys.length) y.size) (B' := upd (upd (killS i S).B i none) id (some (.row e y.size (es ++ ys)))) (by have := hold0 i rfl; simp [hid0]; exact fun e => this e.symm)
      (fun t => by
        show noT _ (killT i (S.T t))
        rcases hidn with rfl | ha
        · have := noT_kill id (S.T t)
          exact noT_or this (by simpa [eq_comm] using this)
        · refine noT_or (noT_kill_of i (ha.1 t)) ?_
          have := noT_kill i (S.T t)
          simpa [eq_comm] using this)
      (fun j x hj _ => by
        obtain ⟨z, hz, rfl⟩ := Option.map_eq_some_iff.1 hj
        rcases hidn with rfl | ha
        · have := noB_kill id z
          exact noB_or this (by simpa [eq_comm] using this)
        · refine noB_or (noB_kill_of i (ha.2 j z hz).2) ?_
          have := noB_kill i z
          simpa [eq_comm] using this)
      (fun j hj => Sg.at_ne _ _ _ _ _ (fun e => hj (.inl e)))
      (fun k hk' => ⟨i, _, hBk, Option.some.inj hk'⟩)
      (fun j hj _ => by
        rw [upd_ne _ _ (fun e => hj (.inl e)), upd_ne _ _ (fun e => hj (.inr (by rw [e])))])
      (fun j x hj hr' hx => by
        exfalso
        rw [upd_ne _ _ (fun e => hj (.inl e)), upd_ne _ _ (fun e => hj (.inr (by rw [e])))] at hx
        have := hk.inj i j _ _ hBk hx (Option.some.inj hr')
        exact hj (.inr (by rw [this])))
      (fun j x hj hx => by
        by_cases hji : j = id
        · subst hji
          rw [hGat]
          rcases hGo with h8 | h8
          · exact .inr ⟨i, _, .inr rfl, hBk, h8.symm⟩
          · exact .inl (by omega)
        · rcases hj with hj | hj
          · exact absurd hj hji
          · have hij : j = i := (Option.some.inj hj).symm
            subst hij
            rw [upd_ne _ _ hji, upd_same] at hx
            cases hx)
      (fun j j' x y2 hj hj' hx hx' _ => by
        have key : ∀ k z, (k = id ∨ some i = some k) → upd (upd (killS i S).B i none) id (some (Blk.row e y.size (es ++ ys))) k = some z → k = id := fun k z hk' hz => by
          by_cases hki : k = id
          · exact hki
          · rcases hk' with hk' | hk'
            · exact absurd hk' hki
            · have hij : k = i := (Option.some.inj hk').symm
              subst hij
              rw [upd_ne _ _ hki, upd_same] at hz
              cases hz
        rw [key j x hj hx, key j' y2 hj' hx'])
      (fun k j x hj hx => by
        have hjd : j = id := by
          by_cases hji : j = id
          · exact hji
          · exfalso
            by_cases hii : j = i
            · subst hii; rw [upd_ne _ _ hji, upd_same] at hx; cases hx
            · rw [upd_ne _ _ hji, upd_ne _ _ hii] at hx
              rcases hj with (hj | hj) | hj
              · exact hji hj
              · exact hii (Option.some.inj hj).symm
              · exact hii (hk.inj i j _ _ hBk hx (Option.some.inj hj)).symm
        subst hjd
        rw [upd_same] at hx; obtain rfl := Option.some.inj hx
        rw [hDk] at k
        exact hrow _ k)
    exact st.2.put hd (hvrep _)
end Go.Proofs.YtfakhgopbhnocaaVM
namespace Go.Proofs.YtfakhgopbhnocaaVM
open Go

/-! ### a function's contract over values -/
def DA (W : World) (par : Nat → Prop) : Bool → Nat → Prop
  | true, _ => False
  | false, b => b < W.heap.size ∧ ¬ par b
def sg1 (g : Nat) : Sg := ⟨fun _ => g, fun _ => 0, fun _ => 0, fun _ => 0⟩
def parOf (mem : Option (List V)) (g : Nat) : Nat → Prop := fun b => mem.isSome = true ∧ b = g
def MemOK (W : World) (D : Bool → Nat → Prop) (σ : Sg) (g : Nat) : Option (List V) → Prop
  | none => True
  | some cs => ∃ cur e, W.heap[g]? = some (.cells cur e (0, 0)) ∧ cur.size = cs.length ∧ ∀ (j : Nat) v, cs[j]? = some v → ∃ u, cur[j]? = some u ∧ RepL0 W D σ v u
def cellAfter (old : Option Value) : V → Option Value
  | .int k n => some (.int k n)
  | .bool b => some (.bool b)
  | _ => old
def MemAfter (W W' : World) (g : Nat) : Option (List V) → Prop
  | none => True
  | some cs => ∃ (cur : Array Value) (e : TypeId) (cur' : Array Value) (e' : TypeId), W.heap[g]? = some (.cells cur e (0, 0)) ∧ W'.heap[g]? = some (.cells cur' e' (0, 0)) ∧ cur'.size = cur.size ∧ cs.length = cur.size ∧ ∀ (j : Nat) v, cs[j]? = some v → cur'[j]? = cellAfter cur[j]? v
abbrev RowD := TypeId × Nat × List (List V)
def DR (W : World) (rows : List RowD) (σ : Sg) : Bool → Nat → Prop
  | true, b => W.heap.size ≤ b ∧ ∀ j, j < rows.length → σ.g j ≠ b
  | false, _ => False
def After (W : World) (g : Nat) (mem : Option (List V)) (res : V) (rows : List RowD) (mem' : Option (List V)) (e : Ending) (W' : World) : Prop :=
  ∃ c σ, e = .returned c ∧ W.grownBy W' (mem.map fun _ => g) ∧ MemAfter W W' g mem' ∧
    (∀ j r, rows[j]? = some r → W.heap.size ≤ σ.g j ∧ BlkOK W' (DR W rows σ) σ j (.row r.1 r.2.1 r.2.2)) ∧ (∀ i j, i < rows.length → j < rows.length → σ.g i = σ.g j → i = j) ∧ RepT W' (DR W rows σ) σ res c
structure FnV (E : Env) (f : FuncId) (args : List V) (mem : Option (List V)) (res : V) (rows : List RowD) (mem' : Option (List V)) : Prop where
  fn : ∃ fn, E.P.funcs[f]? = some fn ∧ (fn.name == "runtime.NumGoroutine") = false ∧ fn.body.isNone = false
  few : rows.length ≤ 8
  same : mem.isSome = mem'.isSome
  run : ∀ (W : World) (cargs : Array Value) (g : Nat), MemOK W (DA W (parOf mem g)) (sg1 g) g mem → cargs.size = args.length →
    (∀ (j : Nat) v, args[j]? = some v → ∃ u, cargs[j]? = some u ∧ RepA W (DA W (parOf mem g)) (sg1 g) v u) → Calls E.P f cargs W (After W g mem res rows mem')

/-! ### what a callee sees of the caller's values -/
def viewL (B : Nat → Option Blk) : V → Option V
  | .int k n => some (.int k n)
  | .bool b => some (.bool b)
  | .nil => some .nil
  | .und => some .und
  | .sl _ s es => some (.sl false s es)
  | .ref i => match B i with
    | some (.row _ s es) => some (.sl false s es)
    | _ => none
  | _ => none
def viewLs (B : Nat → Option Blk) : List V → Option (List V)
  | [] => some []
  | v :: vs => match viewL B v, viewLs B vs with
    | some w, some ws => some (w :: ws)
    | _, _ => none
def viewA (p : Option Nat) (B : Nat → Option Blk) : V → Option V
  | .agg cs => match viewLs B cs with
    | some ws => some (.agg ws)
    | none => none
  | .ptr i 0 0 => match p with
    | some k => bif i == k then some (.ptr 0 0 0) else none
    | none => none
  | v => viewL B v
def viewAs (p : Option Nat) (B : Nat → Option Blk) : List V → Option (List V)
  | [] => some []
  | v :: vs => match viewA p B v, viewAs p B vs with
    | some w, some ws => some (w :: ws)
    | _, _ => none
theorem viewLs_spec {B : Nat → Option Blk} : ∀ (vs ws : List V), viewLs B vs = some ws → ws.length = vs.length ∧ ∀ (j : Nat) w, ws[j]? = some w → ∃ v, vs[j]? = some v ∧ viewL B v = some w
  | [], ws, h => by simp [viewLs] at h; subst h; simp
  | v :: vs, ws, h => by
    simp only [viewLs] at h
    split at h
    · next w ws' h1 h2 =>
      obtain rfl := Option.some.inj h
      obtain ⟨h3, h4⟩ := viewLs_spec vs ws' h2
      refine ⟨by simp [h3], fun j u hu => ?_⟩
      cases j with
      | zero => simp at hu; subst hu; exact ⟨v, rfl, h1⟩
      | succ j => simpa using h4 j u (by simpa using hu)
    · cases h
theorem viewAs_spec {p : Option Nat} {B : Nat → Option Blk} : ∀ (vs ws : List V), viewAs p B vs = some ws → ws.length = vs.length ∧ ∀ (j : Nat) w, ws[j]? = some w → ∃ v, vs[j]? = some v ∧ viewA p B v = some w
  | [], ws, h => by simp [viewAs] at h; subst h; simp
  | v :: vs, ws, h => by
    simp only [viewAs] at h
    split at h
    · next w ws' h1 h2 =>
      obtain rfl := Option.some.inj h
      obtain ⟨h3, h4⟩ := viewAs_spec vs ws' h2
      refine ⟨by simp [h3], fun j u hu => ?_⟩
      cases j with
      | zero => simp at hu; subst hu; exact ⟨v, rfl, h1⟩
      | succ j => simpa using h4 j u (by simpa using hu)
    · cases h

section
variable {F : Fr} {σ : Sg} {S : AS} {a : Act} {W : World}
/-- an own row, seen as a row that stays -/
theorem row_rep (h : Sim F σ S a W) {i : Nat} {e : TypeId} {s : Nat} {es : List (List V)} (hB : S.B i = some (.row e s es)) {D : Nat → Prop} (f : Bool) (hD : D (σ.g i)) (hDD : ∀ b, Dm F σ S.B true b → b < W.heap.size → D b) :
    RepC W D (.sl f s es) (.slice (some ⟨σ.g i, 0, none⟩) (σ.n i) (σ.c i)) := by
  obtain ⟨cur, hg, hn, hs, h1, h2, h3, h4, hr⟩ := h.b i _ hB
  rw [hn]
  refine RepC.sl f s es _ _ ⟨σ.g i, 0, none⟩ (fun j o => (cur[j * s + o]?).getD undef) (fun _ => rfl) h4 (fun j e' he' o v hv => ?_) (fun j e' he' o v hv => ?_)
  · obtain ⟨u, hu, _⟩ := hr j e' he' o v hv
    refine ⟨?_, hD⟩
    rw [Addr.add_lit, Nat.zero_add]
    simp [World.cell?, hg, hu]
  · obtain ⟨u, hu, hru⟩ := hr j e' he' o v hv
    rw [hu]
    exact hru.mono hDD (fun _ _ _ => rfl)
theorem viewL_rep (h : Sim F σ S a W) {par : Nat → Prop} (hpar : ∀ b, par b → ∃ i cs, S.B i = some (.box cs) ∧ σ.g i = b) {σ1 : Sg} {v w : V} {c : Value} (hv : viewL S.B v = some w) (hr : RepL W (Dm F σ S.B) σ v c) : RepL0 W (DA W par) σ1 w c := by
  have hD : ∀ f b, Dm F σ S.B f b → b < W.heap.size → DA W par false b := fun f b hdb hlt => ⟨hlt, fun hp => by
    obtain ⟨i, cs, hi, hgi⟩ := hpar b hp
    exact h.dm_ne hi hdb hgi.symm⟩
  unfold viewL at hv
  split at hv
  · obtain rfl := Option.some.inj hv; exact hr
  · obtain rfl := Option.some.inj hv; exact hr
  · obtain rfl := Option.some.inj hv; exact hr
  · obtain rfl := Option.some.inj hv; trivial
  · next f s es =>
    obtain rfl := Option.some.inj hv
    have hc : RepC W (Dm F σ S.B f) (.sl f s es) c := hr
    exact (hc.mono (hD f) (fun _ _ _ => rfl)).retag
  · next i =>
    split at hv
    · next e s es hB =>
      obtain rfl := Option.some.inj hv
      have hc : c = .slice (some ⟨σ.g i, 0, none⟩) (σ.n i) (σ.c i) := hr
      subst hc
      refine row_rep h hB false ⟨h.blk_lt hB, fun hp => ?_⟩ (hD true)
      obtain ⟨k, cs, hk, hgk⟩ := hpar _ hp
      have := h.inj k i _ _ hk hB hgk
      subst this
      rw [hB] at hk; cases hk
    · cases hv
  · cases hv
theorem viewA_rep (h : Sim F σ S a W) {p : Option Nat} {g : Nat} (hp : ∀ k, p = some k → σ.g k = g) {par : Nat → Prop} (hpar : ∀ b, par b → ∃ i cs, S.B i = some (.box cs) ∧ σ.g i = b) {v w : V} {c : Value} (hv : viewA p S.B v = some w) (hr : RepT W (Dm F σ S.B) σ v c) :
    RepA W (DA W par) (sg1 g) w c := by
  unfold viewA at hv
  split at hv
  · next cs =>
    split at hv
    · next ws hws =>
      obtain rfl := Option.some.inj hv
      obtain ⟨ar, rfl, h1, h2⟩ := hr.agg_
      obtain ⟨h3, h4⟩ := viewLs_spec _ _ hws
      refine ⟨ar, rfl, by rw [h1, h3], fun j w hw => ?_⟩
      obtain ⟨v, hv, hvw⟩ := h4 j w hw
      obtain ⟨u, hu, hru⟩ := h2 j v hv
      exact ⟨u, hu, RepL_of0 (viewL_rep h hpar hvw hru)⟩
    · cases hv
  · next i =>
    split at hv
    · next k =>
      cases hik : i == k with
      | false => rw [hik] at hv; cases hv
      | true =>
        rw [hik] at hv
        obtain rfl := Option.some.inj hv
        have hik' : i = k := by simpa using hik
        subst hik'
        have := hr.ptr_
        subst this
        refine RepA_of0 ?_
        simp only [RepL0, sg1, hp i rfl, Nat.zero_mul, Nat.zero_add]
    · cases hv
  · next hn1 hn2 =>
    have hr0 : RepL W (Dm F σ S.B) σ v c := by
      cases v with
      | agg cs => exact absurd rfl (hn1 cs)
      | tup cs => simp [viewL] at hv
      | con u w => simp [viewL] at hv
      | _ => exact hr
    exact RepA_of0 (viewL_rep h hpar hv hr0)
end

/-! ### what the caller has behind a call -/
def ren0 (id : Nat) : V → V
  | .ref j => bif j < 8 then .ref (id + j) else .und
  | .ptr _ _ _ => .und
  | v => v
def renL (id : Nat) : V → V
  | .con _ _ => .und
  | v => ren0 id v
def renA (id : Nat) : V → V
  | .agg cs => .agg (cs.map (renL id))
  | v => ren0 id v
def renT (id : Nat) : V → V
  | .tup cs => .tup (cs.map (renA id))
  | v => renA id v
def addRows (id : Nat) (B : Nat → Option Blk) : List RowD → Nat → Option Blk
  | [] => B
  | r :: rs => upd (addRows (id + 1) B rs) id (some (.row r.1 r.2.1 r.2.2))
def mergeL : List V → List V → List V
  | o :: os, v :: vs => (match v with
    | .int k n => .int k n
    | .bool b => .bool b
    | _ => o) :: mergeL os vs
  | os, _ => os
def memS (B : Nat → Option Blk) (p : Option Nat) (mem' : Option (List V)) : Nat → Option Blk :=
  match p, mem' with
  | some i, some vs => match B i with
    | some (.box os) => upd B i (some (.box (mergeL os vs)))
    | _ => B
  | _, _ => B
def callS (id : Nat) (d : Option Nat) (S : AS) (p : Option Nat) (res : V) (rows : List RowD) (mem' : Option (List V)) : AS :=
  ⟨updO S.T d (renT id res), addRows id (memS S.B p mem') rows⟩
end Go.Proofs.YtfakhgopbhnocaaVM
namespace Go.Proofs.YtfakhgopbhnocaaVM
open Go

theorem addRows_far (id : Nat) (B : Nat → Option Blk) : ∀ (rows : List RowD) (id : Nat) (i : Nat), (i < id ∨ id + rows.length ≤ i) → addRows id B rows i = B i
  | [], id, i, _ => rfl
  | r :: rs, id, i, h => by
    simp only [addRows]
    rw [upd_ne _ _ (by simp at h; omega)]
    exact addRows_far id B rs (id + 1) i (by simp at h; omega)
theorem addRows_at (B : Nat → Option Blk) : ∀ (rows : List RowD) (id j : Nat) (r : RowD), rows[j]? = some r → addRows id B rows (id + j) = some (.row r.1 r.2.1 r.2.2)
  | [], id, j, r, h => by simp at h
  | r0 :: rs, id, j, r, h => by
    cases j with
    | zero => simp at h; subst h; simp [addRows, upd_same]
    | succ j =>
      simp only [addRows]
      rw [upd_ne _ _ (by omega), show id + (j + 1) = id + 1 + j by omega]
      exact addRows_at B rs (id + 1) j r (by simpa using h)

section
variable {W : World} {D D' : Bool → Nat → Prop} {σ σ' : Sg} {v : V} {c : Value} {id : Nat}
/-- a result's value, named anew -/
theorem ren0_rep (h : RepL0 W D σ v c) (hd : ∀ f b, D f b → D' f b) (hσ : ∀ j, j < 8 → σ'.g (id + j) = σ.g j ∧ σ'.c (id + j) = σ.c j ∧ σ'.n (id + j) = σ.n j) : RepL0 W D' σ' (ren0 id v) c := by
  cases v with
  | ref j =>
    simp only [ren0]
    by_cases hj : j < 8
    · obtain ⟨h1, h2, h3⟩ := hσ j hj
      simp only [hj, decide_true, cond_true, RepL0, h1, h2, h3]
      exact h
    · simp only [hj, decide_false, cond_false, RepL0]
  | ptr i j o => trivial
  | sl f s es => exact RepC.mono h (fun b hb _ => hd f b hb) (fun _ _ _ => rfl)
  | fat f e o =>
    obtain ⟨ad, h1, h2⟩ := h
    refine ⟨ad, h1, fun j v hv => ?_⟩
    obtain ⟨u, h3, h4, h5⟩ := h2 j v hv
    exact ⟨u, h3, hd _ _ h4, h5.mono (fun b hb _ => hd f b hb) (fun _ _ _ => rfl)⟩
  | _ => exact h
theorem renL_rep (h : RepL W D σ v c) (hd : ∀ f b, D f b → D' f b) (hσ : ∀ j, j < 8 → σ'.g (id + j) = σ.g j ∧ σ'.c (id + j) = σ.c j ∧ σ'.n (id + j) = σ.n j) : RepL W D' σ' (renL id v) c := by
  cases v with
  | con u v => trivial
  | _ => simp only [renL]; simp only [RepL] at h; exact RepL_of0 (ren0_rep h hd hσ)
theorem renA_rep (h : RepA W D σ v c) (hd : ∀ f b, D f b → D' f b) (hσ : ∀ j, j < 8 → σ'.g (id + j) = σ.g j ∧ σ'.c (id + j) = σ.c j ∧ σ'.n (id + j) = σ.n j) : RepA W D' σ' (renA id v) c := by
  cases v with
  | agg cs =>
    obtain ⟨a, h1, h2, h3⟩ := h
    refine ⟨a, h1, by simpa using h2, fun j v hv => ?_⟩
    rw [List.getElem?_map] at hv
    obtain ⟨w, hw, rfl⟩ := Option.map_eq_some_iff.1 hv
    obtain ⟨u, hu, hr⟩ := h3 j w hw
    exact ⟨u, hu, renL_rep hr hd hσ⟩
  | _ => simp only [renA]; simp only [RepA] at h; exact RepA_of0 (ren0_rep h hd hσ)
theorem renT_rep (h : RepT W D σ v c) (hd : ∀ f b, D f b → D' f b) (hσ : ∀ j, j < 8 → σ'.g (id + j) = σ.g j ∧ σ'.c (id + j) = σ.c j ∧ σ'.n (id + j) = σ.n j) : RepT W D' σ' (renT id v) c := by
  cases v with
  | tup cs =>
    obtain ⟨a, h1, h2, h3⟩ := h
    refine ⟨a, h1, by simpa using h2, fun j v hv => ?_⟩
    rw [List.getElem?_map] at hv
    obtain ⟨w, hw, rfl⟩ := Option.map_eq_some_iff.1 hv
    obtain ⟨u, hu, hr⟩ := h3 j w hw
    exact ⟨u, hu, renA_rep hr hd hσ⟩
  | _ => simp only [renT]; simp only [RepT] at h; exact RepT_ofA (renA_rep h hd hσ)
end

theorem mergeL_length : ∀ (os vs : List V), (mergeL os vs).length = os.length
  | [], vs => by cases vs <;> rfl
  | o :: os, [] => rfl
  | o :: os, v :: vs => by simp [mergeL, mergeL_length os vs]
theorem mergeL_get : ∀ (os vs : List V) (j : Nat) (w : V), (mergeL os vs)[j]? = some w → (os[j]? = some w ∧ (∀ v, vs[j]? = some v → ∀ old, cellAfter old v = old)) ∨ (vs[j]? = some w ∧ ((∃ k n, w = .int k n) ∨ ∃ b, w = .bool b))
  | [], vs, j, w, h => by cases vs <;> simp [mergeL] at h
  | o :: os, [], j, w, h => .inl ⟨h, fun v hv => by simp at hv⟩
  | o :: os, v :: vs, j, w, h => by
    cases j with
    | zero =>
      simp only [mergeL, List.getElem?_cons_zero, Option.some.injEq] at h
      cases v with
      | int k n => subst h; exact .inr ⟨rfl, .inl ⟨_, _, rfl⟩⟩
      | bool b => subst h; exact .inr ⟨rfl, .inr ⟨_, rfl⟩⟩
      | _ => subst h; exact .inl ⟨rfl, fun v' hv' old => by simp at hv'; subst hv'; rfl⟩
    | succ j => simpa using mergeL_get os vs j w (by simpa [mergeL] using h)

theorem memS_ne {B : Nat → Option Blk} {p : Option Nat} {mem' : Option (List V)} {i : Nat} (h : p ≠ some i) : memS B p mem' i = B i := by
  unfold memS
  cases p with
  | none => cases mem' <;> rfl
  | some k =>
    cases mem' with
    | none => rfl
    | some vs =>
      simp only
      cases hb : B k with
      | none => rfl
      | some x =>
        cases x with
        | row e s es => rfl
        | box os => exact upd_ne _ _ (fun e => h (by rw [e]))
theorem memS_none {B : Nat → Option Blk} {p : Option Nat} {mem' : Option (List V)} {i : Nat} (h : B i = none) : memS B p mem' i = none := by
  by_cases hp : p = some i
  · subst hp
    cases mem' with
    | none => exact h
    | some vs => simp only [memS, h]
  · rw [memS_ne hp, h]
/-- a call: what the callee's contract says comes over into the caller's state -/
theorem call_sound (E : Env) {F : Fr} (hP : F.P = E.P) {σ : Sg} {S : AS} {a : Act} {W : World} (h : Sim F σ S a W) (o : Oper) {f : FuncId} {args : Array Operand} {ts : Array TypeId} (ho : o.op = .call { callee := .value (.func f), args := args, argTypes := ts })
    (hd : ∀ k, o.dst = some k → k < F.N) (id : Nat) (p : Option Nat) {vargs : List V} {mem : Option (List V)} {res : V} {rows : List RowD} {mem' : Option (List V)}
    (hargs : viewAs p S.B (args.toList.map (ev S.T)) = some vargs)
    (hmem : (p = none ∧ mem = none) ∨ ∃ i cs ws, p = some i ∧ S.B i = some (.box cs) ∧ viewLs S.B (cs.map unc) = some ws ∧ mem = some ws)
    (hf : FnV E f vargs mem res rows mem') (hid0 : 0 < id) (habs : Absent (fun i => id ≤ i ∧ i < id + 8) S)
    {next : Act → World → Prop} {Q : Exit → Act → World → Prop} (hnext : ∀ c W' σ', Sim F σ' (callS id o.dst S p res rows mem') (a.put o.dst c) W' → next (a.put o.dst c) W') :
    o.wp E.P a W next Q := by
  obtain ⟨fn, hfn, hname, hbody⟩ := hf.fn
  let g : Nat := (p.map σ.g).getD W.heap.size
  have hg : ∀ k, p = some k → σ.g k = g := fun k hk => by simp [g, hk]
  have hpar : ∀ b, parOf mem g b → ∃ i cs, S.B i = some (.box cs) ∧ σ.g i = b := by
    rintro b ⟨h1, rfl⟩
    rcases hmem with ⟨rfl, rfl⟩ | ⟨i, cs, ws, rfl, hB, _, rfl⟩
    · simp at h1
    · exact ⟨i, cs, hB, rfl⟩
  -- the arguments
  obtain ⟨hl, hv⟩ := viewAs_spec _ _ hargs
  have hca : ∀ (j : Nat) v, vargs[j]? = some v → ∃ u, (args.map a.eval)[j]? = some u ∧ RepA W (DA W (parOf mem g)) (sg1 g) v u := fun j v hj => by
    obtain ⟨w, hw, hvw⟩ := hv j v hj
    rw [List.getElem?_map] at hw
    obtain ⟨x, hx, rfl⟩ := Option.map_eq_some_iff.1 hw
    refine ⟨a.eval x, by rw [Array.getElem?_map, ← Array.getElem?_toList, hx]; rfl, viewA_rep h hg hpar hvw (h.ev x)⟩
  have hms : MemOK W (DA W (parOf mem g)) (sg1 g) g mem := by
    rcases hmem with ⟨rfl, rfl⟩ | ⟨i, cs, ws, rfl, hB, hws, rfl⟩
    · trivial
    · obtain ⟨cur, e, h1, h2, h3⟩ := h.b i _ hB
      obtain ⟨h4, h5⟩ := viewLs_spec _ _ hws
      refine ⟨cur, e, h1, by rw [h2, h4, List.length_map], fun j w hw => ?_⟩
      obtain ⟨v, hv, hvw⟩ := h5 j w hw
      rw [List.getElem?_map] at hv
      obtain ⟨v0, hv0, rfl⟩ := Option.map_eq_some_iff.1 hv
      obtain ⟨u, hu, hru⟩ := h3 j v0 hv0
      exact ⟨u, hu, viewL_rep h hpar hvw (RepL_of0 hru.unc)⟩
  have hcall := hf.run W (args.map a.eval) g hms (by rw [hl]; simp) hca
  unfold Oper.wp
  have hex : (execOp a.eval o).run E.P W = .ok (.enter f (args.map a.eval)) W := by
    simp only [execOp, ho, resolve, Act.eval, Deferred.ofValue, Sem.run_bind, Sem.run_pure, Result.andThen_ok, invoke, callFunc, run_program, hfn, hname, hbody]
    simp
  rw [hex]
  simp only [Oper.upon]
  refine hcall.mono ?_
  rintro e W' ⟨c, σc, rfl, hgr, hma, hrows, hinj, hres⟩
  simp only
  -- the names of the caller
  let N : Nat → Prop := fun i => id ≤ i ∧ i < id + 8
  let σ' : Sg := ⟨fun i => if id ≤ i ∧ i < id + 8 then σc.g (i - id) else σ.g i, fun i => if id ≤ i ∧ i < id + 8 then σc.c (i - id) else σ.c i, fun i => if id ≤ i ∧ i < id + 8 then σc.n (i - id) else σ.n i, fun i => if id ≤ i ∧ i < id + 8 then σc.s (i - id) else σ.s i⟩
  have hσn : ∀ i, ¬ N i → σ'.g i = σ.g i ∧ σ'.c i = σ.c i ∧ σ'.n i = σ.n i ∧ σ'.s i = σ.s i := fun i hi => by
    have hi' : ¬ (id ≤ i ∧ i < id + 8) := hi
    simp only [σ', if_neg hi', and_self]
  have hσj : ∀ j, j < 8 → σ'.g (id + j) = σc.g j ∧ σ'.c (id + j) = σc.c j ∧ σ'.n (id + j) = σc.n j ∧ σ'.s (id + j) = σc.s j := fun j hj => by
    have hi' : id ≤ id + j ∧ id + j < id + 8 := by omega
    simp only [σ', if_pos hi', Nat.add_sub_cancel_left, and_self]
  have hfew := hf.few
  -- what the own blocks are
  have hnone : ∀ i, N i → memS S.B p mem' i = none := fun i hi => memS_none (by
    cases hb : S.B i with
    | none => rfl
    | some x => exact absurd hi (habs.2 i x hb).1)
  have hBN : ∀ i x, N i → addRows id (memS S.B p mem') rows i = some x → ∃ j r, i = id + j ∧ rows[j]? = some r ∧ x = .row r.1 r.2.1 r.2.2 := fun i x hi hx => by
    have hi' : id ≤ i ∧ i < id + 8 := hi
    by_cases hlt : i < id + rows.length
    · obtain ⟨j, rfl⟩ : ∃ j, i = id + j := ⟨i - id, by omega⟩
      have hj : j < rows.length := by omega
      refine ⟨j, rows[j], rfl, List.getElem?_eq_getElem hj, ?_⟩
      rw [addRows_at _ _ _ _ _ (List.getElem?_eq_getElem hj)] at hx
      exact (Option.some.inj hx).symm
    · rw [addRows_far id _ _ _ _ (.inr (by omega)), hnone i hi] at hx
      cases hx
  have hBo : ∀ i, ¬ N i → addRows id (memS S.B p mem') rows i = memS S.B p mem' i := fun i hi => by
    have hi' : ¬ (id ≤ i ∧ i < id + 8) := hi
    exact addRows_far id _ _ _ _ (by omega)
  have hown : ∀ b, Own σ' (addRows id (memS S.B p mem') rows) b → (∃ j, j < rows.length ∧ σc.g j = b) ∨ Own σ S.B b := by
    rintro b ⟨i, x, hx, rfl⟩
    by_cases hi : N i
    · obtain ⟨j, r, rfl, hj, _⟩ := hBN i x hi hx
      have hjl := (List.getElem?_eq_some_iff.1 hj).1
      exact .inl ⟨j, hjl, (hσj j (by omega)).1.symm⟩
    · rw [hBo i hi] at hx
      refine .inr ?_
      rw [(hσn i hi).1]
      cases hb : S.B i with
      | none => rw [memS_none hb] at hx; cases hx
      | some y => exact ⟨i, y, hb, rfl⟩
  have hDR : ∀ f b, DR W rows σc f b → Dm F σ' (addRows id (memS S.B p mem') rows) f b := fun f b hb => by
    cases f with
    | false => exact hb.elim
    | true =>
      refine ⟨Nat.le_trans h.ext.size hb.1, fun ho' => ?_⟩
      rcases hown b ho' with ⟨j, hj, hjb⟩ | ⟨i, x, hx, hgi⟩
      · exact hb.2 j hj hjb
      · have := h.blk_lt hx
        have := hb.1
        omega
  have hrow : W.grownBy W' (p.map σ.g) := by
    have : mem.map (fun _ => g) = p.map σ.g := by
      rcases hmem with ⟨rfl, rfl⟩ | ⟨i, cs, ws, rfl, _, _, rfl⟩
      · rfl
      · simp [g]
    rw [← this]; exact hgr
  have hpN : ∀ i, p = some i → ¬ N i := fun i hi => by
    rcases hmem with ⟨rfl, _⟩ | ⟨k, cs, ws, rfl, hB, _, _⟩
    · cases hi
    · obtain rfl := Option.some.inj hi
      exact (habs.2 _ _ hB).1
  have st := Sim.step h hrow (N := N) (σ' := σ') (B' := addRows id (memS S.B p mem') rows) (by simp only [N]; omega) habs.1 (fun i x hx _ => (habs.2 i x hx).2) hσn
    (fun k hk => by
      rcases hmem with ⟨rfl, _⟩ | ⟨i, cs, ws, rfl, hB, _, _⟩
      · cases hk
      · exact ⟨i, _, hB, Option.some.inj hk⟩)
    (fun i hi hne => by
      rw [hBo i hi]
      exact memS_ne (fun e => hne (by rw [e]; rfl)))
    (fun i x hi hr hx => by
      rcases hmem with ⟨rfl, _⟩ | ⟨k, cs, ws, rfl, hB, _, _⟩
      · cases hr
      · have hgi : σ.g k = σ.g i := Option.some.inj hr
        rw [hBo i hi] at hx
        by_cases hik : i = k
        · subst hik; rw [hB]; simp
        · rw [memS_ne (fun e => hik (Option.some.inj e).symm)] at hx; rw [hx]; simp)
    (fun i x hi hx => by
      obtain ⟨j, r, rfl, hj, _⟩ := hBN i x hi hx
      have hjl := (List.getElem?_eq_some_iff.1 hj).1
      rw [(hσj j (by omega)).1]
      exact .inl (hrows j r hj).1)
    (fun i j x y hi hj hx hy hgg => by
      obtain ⟨i', r, rfl, hi', _⟩ := hBN i x hi hx
      obtain ⟨j', r', rfl, hj', _⟩ := hBN j y hj hy
      have hil := (List.getElem?_eq_some_iff.1 hi').1
      have hjl := (List.getElem?_eq_some_iff.1 hj').1
      rw [(hσj i' (by omega)).1, (hσj j' (by omega)).1] at hgg
      rw [hinj i' j' hil hjl hgg])
    (fun k i x hi hx => by
      by_cases hn : N i
      · obtain ⟨j, r, rfl, hj, rfl⟩ := hBN i x hn hx
        have hjl := (List.getElem?_eq_some_iff.1 hj).1
        obtain ⟨k1, k2, k3, k4⟩ := hσj j (by omega)
        obtain ⟨cur, g1, g2, g3, g4, g5, g6, g7, g8⟩ := (hrows j r hj).2
        exact ⟨cur, by rw [k1]; exact g1, by rw [k3]; exact g2, by rw [k4]; exact g3, by rw [k2]; exact g4, by rw [k2]; exact g5, by rw [k2]; exact g6, g7, fun j' e' he' o' v hv' => by
          obtain ⟨u, hu, hru⟩ := g8 j' e' he' o' v hv'
          exact ⟨u, hu, hru.mono (fun b hb _ => hDR true b hb) (fun _ _ _ => rfl)⟩⟩
      · have hr := hi.resolve_left hn
        rcases hmem with ⟨rfl, _⟩ | ⟨kk, cs, ws, rfl, hB, hws, rfl⟩
        · cases hr
        · have hgi : σ.g kk = σ.g i := Option.some.inj hr
          rw [hBo i hn] at hx
          have hik : i = kk := by
            by_cases hik : i = kk
            · exact hik
            · rw [memS_ne (fun e => hik (Option.some.inj e).symm)] at hx
              exact (h.inj kk i _ _ hB hx hgi).symm
          subst hik
          cases hmm : mem' with
          | none => have := hf.same; rw [hmm] at this; simp at this
          | some vs =>
            rw [hmm] at hx hma k
            simp only [memS, hB, upd_same, Option.some.injEq] at hx
            subst hx
            obtain ⟨cur, e, cur', e', m1, m2, m3, m4, m5⟩ := hma
            obtain ⟨cur0, e0, n1, n2, n3⟩ := h.b i _ hB
            have hgg : g = σ.g i := (hg i rfl).symm
            rw [hgg, n1] at m1
            have hcc : cur0 = cur := by simpa using (Option.some.inj m1 |> fun e => by injection e)
            subst hcc
            refine ⟨cur', e', by rw [(hσn i hn).1, ← hgg]; exact m2, by rw [mergeL_length, m3, n2], fun j w hw => ?_⟩
            rcases mergeL_get cs vs j w hw with ⟨q1, q2⟩ | ⟨q1, q2⟩
            · obtain ⟨u, hu, hru⟩ := n3 j w q1
              have hjl : j < vs.length := by have := (List.getElem?_eq_some_iff.1 q1).1; omega
              have := m5 j _ (List.getElem?_eq_getElem hjl)
              rw [q2 _ (List.getElem?_eq_getElem hjl)] at this
              exact ⟨u, by rw [this]; exact hu, hru.keep k ((habs.2 _ _ hB).2 w (List.mem_of_getElem? q1))⟩
            · have := m5 j w q1
              rcases q2 with ⟨kk, n, rfl⟩ | ⟨b, rfl⟩
              · exact ⟨_, this, rfl⟩
              · exact ⟨_, this, rfl⟩)
  exact hnext c W' σ' (st.2.put hd (renT_rep hres hDR (fun j hj => ⟨(hσj j hj).1, (hσj j hj).2.1, (hσj j hj).2.2.1⟩)))
end Go.Proofs.YtfakhgopbhnocaaVM
namespace Go.Proofs.YtfakhgopbhnocaaVM
open Go

/-! ### one operation of a region -/
def wantedA (ops : Array Oper) (T : Nat → V) (o : Oper) : Option Bool :=
  match o.guard with
  | none => some true
  | some (j, want) => match (ops[j]?).bind (·.dst) with
    | some d => match T d with
      | .bool b => some (b == want)
      | .skip => some false
      | _ => none
    | none => none
def nid (o : Oper) : Nat := match o.dst with
  | some d => 8 * (d + 1)
  | none => 0
theorem nid_pos {o : Oper} (h : o.dst ≠ none) : 0 ≠ nid o := by
  unfold nid
  cases hd : o.dst with
  | none => exact absurd hd h
  | some d => simp only; exact (Nat.ne_of_lt (Nat.mul_pos (by decide) (Nat.succ_pos d)))
abbrev Dl := List (Nat × Option Blk)
def patch : Dl → (Nat → Option Blk) → Nat → Option Blk
  | [], B => B
  | (i, x) :: δ, B => upd (patch δ B) i x
def nbD (id : Nat) : Option Blk → Dl
  | none => []
  | some x => [(id, some x)]
def rowsD (id : Nat) : List RowD → Dl
  | [] => []
  | r :: rs => (id, some (.row r.1 r.2.1 r.2.2)) :: rowsD (id + 1) rs
def memD (B : Nat → Option Blk) (p : Option Nat) (mem' : Option (List V)) : Dl :=
  match p, mem' with
  | some i, some vs => match B i with
    | some (.box os) => [(i, some (.box (mergeL os vs)))]
    | _ => []
  | _, _ => []
theorem patch_append (δ δ' : Dl) (B : Nat → Option Blk) : patch (δ ++ δ') B = patch δ (patch δ' B) := by
  induction δ with
  | nil => rfl
  | cons x δ ih => obtain ⟨i, y⟩ := x; simp only [List.cons_append, patch, ih]
theorem patch_rows (B : Nat → Option Blk) : ∀ (rows : List RowD) (id : Nat), patch (rowsD id rows) B = addRows id B rows
  | [], id => rfl
  | r :: rs, id => by simp only [rowsD, patch, addRows, patch_rows B rs (id + 1)]
theorem patch_mem (B : Nat → Option Blk) (p : Option Nat) (mem' : Option (List V)) : patch (memD B p mem') B = memS B p mem' := by
  unfold memD memS
  cases p with
  | none => cases mem' <;> rfl
  | some i =>
    cases mem' with
    | none => rfl
    | some vs =>
      simp only
      cases B i with
      | none => rfl
      | some x => cases x <;> rfl
theorem patch_nb (B : Nat → Option Blk) (id : Nat) (nb : Option Blk) : patch (nbD id nb) B = addB B id nb := by cases nb <;> rfl

inductive AStep (E : Env) (ops : Array Oper) (S : AS) (o : Oper) : V → Dl → Prop
  | skip (hw : wantedA ops S.T o = some false) : AStep E ops S o .skip []
  | quiet (hw : wantedA ops S.T o = some true) (hd : o.dst ≠ none) (ow : Bool) (C : Prop) (v : V) (nb : Option Blk) (hq : qop E ow S.B S.T (nid o) o.op = some (C, v, nb)) (hC : C) : AStep E ops S o v (nbD (nid o) nb)
  | call (hw : wantedA ops S.T o = some true) (hd : o.dst ≠ none) (f : FuncId) (args : Array Operand) (ts : Array TypeId) (ho : o.op = .call { callee := .value (.func f), args := args, argTypes := ts }) (p : Option Nat) (hl : E.loud f = p.isSome) (vargs : List V) (mem : Option (List V)) (res : V) (rows : List RowD) (mem' : Option (List V))
      (hargs : viewAs p S.B (args.toList.map (ev S.T)) = some vargs) (hmem : (p = none ∧ mem = none) ∨ ∃ i cs ws x, p = some i ∧ x ∈ args.toList ∧ ev S.T x = .ptr i 0 0 ∧ S.B i = some (.box cs) ∧ viewLs S.B (cs.map unc) = some ws ∧ mem = some ws) (hf : FnV E f vargs mem res rows mem') :
      AStep E ops S o (renT (nid o) res) (rowsD (nid o) rows ++ memD S.B p mem')
  | store (hw : wantedA ops S.T o = some true) (hd : o.dst = none) (t : TypeId) (p x : Operand) (ho : o.op = .store t p x) (y : TI) (hy : E.ti t = some y) (vs : List V) (hv : boxV (ev S.T x) = some vs) (hk : vs.all known1 = true) (hl : vs.length = y.size)
      (C : Prop) (i : Nat) (blk : Blk) (hs : stored1 S.B vs (ev S.T p) = some (C, i, blk)) (hC : C) : AStep E ops S o .und [(i, some blk)]
def after (S : AS) (o : Oper) (v : V) (δ : Dl) : AS := ⟨updO S.T o.dst v, patch δ S.B⟩
def ids (o : Oper) : Nat → Prop := fun i => nid o ≤ i ∧ i < nid o + 8
/-- does an operation make own blocks? -/
def makes (o : Oper) : Bool :=
  match o.op with
  | .box _ _ | .alloc _ | .makeSlice _ _ _ | .buildSlice _ _ _ => true
  | .call c => match c.callee with
    | .value _ => true
    | _ => false
  | _ => false

section
variable {E : Env} {F : Fr} {σ : Sg} {S : AS} {a : Act} {W : World} {ops : Array Oper} {o : Oper}
theorem wanted_of (h : Sim F σ S a W) {b : Bool} (hw : wantedA ops S.T o = some b) : Region.wanted o (yielded ops a.tmps) = b := by
  unfold wantedA at hw
  unfold Region.wanted
  split at hw
  · next hg => simpa [hg] using hw
  · next j want hg =>
    simp only [hg]
    split at hw
    · next d hd =>
      have ht := h.t d
      unfold yielded
      rw [hd]
      simp only [Option.bind_some]
      split at hw
      · next b' hT =>
        obtain rfl := Option.some.inj hw
        rw [hT] at ht
        have hc := ht.bool_
        have : a.tmps[d]? = some (.bool b') := by
          rw [Array.getD_eq_getD_getElem?] at hc
          cases hx : a.tmps[d]? with
          | none => rw [hx] at hc; simp [undef] at hc
          | some y => rw [hx] at hc; simp at hc; rw [hc]
        rw [this]
        cases b' <;> cases want <;> rfl
      · next hT =>
        obtain rfl := Option.some.inj hw
        rw [hT] at ht
        have hc : a.tmps.getD d undef = undef := ht
        rw [Array.getD_eq_getD_getElem?] at hc
        cases hx : a.tmps[d]? with
        | none => rfl
        | some y => rw [hx] at hc; simp [undef] at hc; rw [hc]; rfl
      · cases hw
    · cases hw
/-- an operation's step is what the machine does -/
theorem AStep.sound (hP : F.P = E.P) (h : Sim F σ S a W) (hd : ∀ k, o.dst = some k → k < F.N) {v : V} {δ : Dl} (st : AStep E ops S o v δ) (habs : makes o = true → Absent (ids o) S) {i : Nat} (hi : ops[i]? = some o) {K : Act → World → Prop} {Q : Exit → Act → World → Prop}
    (hK : ∀ a' W' σ', Sim F σ' (after S o v δ) a' W' → K a' W') : wpOp E.P ops Q i K a W := by
  unfold wpOp
  simp only [hi]
  cases st with
  | skip hw =>
    rw [wanted_of h hw]
    simp only [Bool.false_eq_true, if_false]
    exact hK _ _ _ (h.put hd (RepT_of0 rfl))
  | quiet hw hdn ow C v nb hq hC =>
    rw [wanted_of h hw]
    simp only [if_true]
    refine .inl ?_
    have hab : nb.isSome = true → Absent (· = nid o) S := fun hs => by
      have hm : makes o = true := by
        unfold makes
        cases hop : o.op <;> rw [hop] at hq <;> simp only [qop] at hq ⊢ <;> first | rfl | skip
        all_goals (exfalso; revert hq; (repeat' split) <;> intro hq <;> first | (cases hq; done) | (simp only [Option.some.injEq, Prod.mk.injEq] at hq; obtain ⟨_, _, rfl⟩ := hq; cases hs; done) | skip)
        all_goals (unfold qCall at hq; revert hq; (repeat' split) <;> intro hq <;> first | (cases hq; done) | (simp only [Option.some.injEq, Prod.mk.injEq] at hq; obtain ⟨_, _, rfl⟩ := hq; cases hs; done))
      have := habs hm
      have hn : ∀ v, no0 (ids o) v → no0 (· = nid o) v := fun v hv => by
        cases v <;> first | trivial | (simp only [no0] at hv ⊢; rintro rfl; exact hv ⟨Nat.le_refl _, by omega⟩)
      have hnL : ∀ v, noL (ids o) v → noL (· = nid o) v := fun v hv => by
        cases v with
        | con u w => exact hn w hv
        | _ => simp only [noL] at hv ⊢; exact hn _ hv
      have hnA : ∀ v, noA (ids o) v → noA (· = nid o) v := fun v hv => by
        cases v with
        | agg cs => exact fun w hw => hnL w (hv w hw)
        | _ => simp only [noA] at hv ⊢; exact hn _ hv
      have hnT : ∀ v, noT (ids o) v → noT (· = nid o) v := fun v hv => by
        cases v with
        | tup cs => exact fun w hw => hnA w (hv w hw)
        | _ => simp only [noT] at hv ⊢; exact hnA _ hv
      refine ⟨fun t => hnT _ (this.1 t), fun i x hx => ⟨?_, ?_⟩⟩
      · rintro rfl; exact (this.2 _ _ hx).1 ⟨Nat.le_refl _, by omega⟩
      · cases x with
        | row => trivial
        | box cs => exact fun w hw => hnL w ((this.2 _ _ hx).2 w hw)
    obtain ⟨c, W', σ', hr, hs⟩ := qop_sound E hP h o ow (nid o) hq hC (fun _ => nid_pos hdn) hab hd
    unfold Oper.wp
    rw [hr]
    rw [← patch_nb] at hs
    exact hK _ _ _ hs
  | call hw hdn f args ts ho p hl vargs mem res rows mem' hargs hmem hf =>
    rw [wanted_of h hw]
    simp only [if_true]
    refine .inl ?_
    have hm : makes o = true := by unfold makes; rw [ho]
    refine call_sound E hP h o ho hd (nid o) p hargs ?_ hf (Nat.pos_of_ne_zero (Ne.symm (nid_pos hdn))) (habs hm) (fun c W' σ' hs => hK _ _ σ' ?_)
    · rcases hmem with h1 | ⟨i, cs, ws, x, h1, _, _, h2, h3, h4⟩
      · exact .inl h1
      · exact .inr ⟨i, cs, ws, h1, h2, h3, h4⟩
    · unfold after
      rw [patch_append, patch_rows, patch_mem]
      exact hs
  | store hw hdn t p x ho y hy vs hv hk hl C i' blk hs hC =>
    rw [wanted_of h hw]
    simp only [if_true]
    refine .inl ?_
    obtain ⟨W', hr, hs'⟩ := store_sound E hP h o ho hdn hy hv hk hl hs hC
    unfold Oper.wp
    rw [hr]
    refine hK _ _ σ ?_
    unfold after
    rw [hdn] at hs' ⊢
    exact hs'
end
end Go.Proofs.YtfakhgopbhnocaaVM
namespace Go.Proofs.YtfakhgopbhnocaaVM
open Go

/-! ### an operation looks at its operands and at the own blocks that they name -/
def cls (E : Env) (o : Oper) : Nat :=
  match o.op with
  | .move _ | .assign _ | .pick _ _ _ | .unOp _ _ _ | .binOp _ _ _ _ _ | .fieldAddr _ _ _ | .extract _ _ | .convert _ _ _ | .nilCheck _ | .build _ _ | .box _ _ | .alloc _ | .makeSlice _ _ _ | .buildSlice _ _ _ => 0
  | .load _ _ | .indexAddr _ _ _ => 1
  | .call c => match c.callee with
    | .builtin .append => 3
    | .builtin _ => 1
    | .value (.func f) => bif E.loud f then 2 else 1
    | _ => 3
  | .store _ _ _ => 2
  | _ => 3

theorem patch_far : ∀ (δ : Dl) (B : Nat → Option Blk) (i : Nat), (∀ x ∈ δ, x.1 ≠ i) → patch δ B i = B i
  | [], B, i, _ => rfl
  | (k, x) :: δ, B, i, h => by
    simp only [patch]
    rw [upd_ne _ _ (fun e => h (k, x) List.mem_cons_self e.symm)]
    exact patch_far δ B i (fun y hy => h y (List.mem_cons_of_mem _ hy))
theorem patch_same : ∀ (δ : Dl) (B B' : Nat → Option Blk) (i : Nat), (∃ x ∈ δ, x.1 = i) → patch δ B i = patch δ B' i
  | [], B, B', i, h => by obtain ⟨x, hx, _⟩ := h; cases hx
  | (k, x) :: δ, B, B', i, h => by
    simp only [patch]
    by_cases hk : i = k
    · subst hk; simp [upd_same]
    · rw [upd_ne _ _ hk, upd_ne _ _ hk]
      obtain ⟨y, hy, e⟩ := h
      rcases List.mem_cons.1 hy with rfl | hy
      · exact absurd e.symm hk
      · exact patch_same δ B B' i ⟨y, hy, e⟩
theorem patch_comm (δ δ' : Dl) (B : Nat → Option Blk) (h : ∀ x ∈ δ, ∀ y ∈ δ', x.1 ≠ y.1) : patch δ (patch δ' B) = patch δ' (patch δ B) := by
  funext i
  by_cases h1 : ∃ x ∈ δ, x.1 = i
  · have h2 : ∀ y ∈ δ', y.1 ≠ i := fun y hy e => by obtain ⟨x, hx, e'⟩ := h1; exact h x hx y hy (e'.trans e.symm)
    rw [patch_far δ' (patch δ B) i h2]
    exact patch_same δ _ _ i h1
  · have h1' : ∀ x ∈ δ, x.1 ≠ i := fun x hx e => h1 ⟨x, hx, e⟩
    rw [patch_far δ (patch δ' B) i h1']
    by_cases h2 : ∃ y ∈ δ', y.1 = i
    · exact patch_same δ' _ _ i h2
    · have h2' : ∀ x ∈ δ', x.1 ≠ i := fun x hx e => h2 ⟨x, hx, e⟩
      rw [patch_far _ _ i h2', patch_far _ _ i h2', patch_far _ _ i h1']

/-- the two states look alike to o -/
structure Alike (M : Nat → Prop) (o : Oper) (ops : Array Oper) (S S' : AS) : Prop where
  t : ∀ x ∈ o.looksAt ops, S'.T x = S.T x
  n : ∀ x ∈ o.looksAt ops, noT M (S.T x)
  b : ∀ i, ¬ M i → S'.B i = S.B i
section
variable {E : Env} {ops : Array Oper} {S S' : AS} {o : Oper} {M : Nat → Prop}
theorem looks_tmp {t : Tmp} (h : Operand.tmp t ∈ o.op.operands) : t ∈ o.looksAt ops :=
  List.mem_append_left _ (List.mem_filterMap.2 ⟨.tmp t, by simpa using h, rfl⟩)
theorem ev_alike (h : ∀ x ∈ o.looksAt ops, S'.T x = S.T x) {x : Operand} (hx : x ∈ o.op.operands) : ev S'.T x = ev S.T x := by
  cases x with
  | tmp t => exact h t (looks_tmp hx)
  | _ => rfl
theorem noT_cv (M : Nat → Prop) (v : Value) : noT M (cv v) := by
  unfold cv
  split
  · intro w hw
    obtain ⟨z, _, rfl⟩ := List.mem_map.1 hw
    unfold cv0; split <;> simp [noL, no0]
  · unfold cv0; split <;> simp [noT, noA, no0]
theorem noT_ev (h : ∀ x ∈ o.looksAt ops, noT M (S.T x)) {x : Operand} (hx : x ∈ o.op.operands) : noT M (ev S.T x) := by
  cases x with
  | tmp t => exact h t (looks_tmp hx)
  | const v => exact noT_cv M v
  | _ => trivial
theorem wanted_alike (h : ∀ x ∈ o.looksAt ops, S'.T x = S.T x) : wantedA ops S'.T o = wantedA ops S.T o := by
  unfold wantedA
  cases hg : o.guard with
  | none => rfl
  | some jw =>
    obtain ⟨j, w⟩ := jw
    simp only
    cases hd : (ops[j]?).bind (·.dst) with
    | none => rfl
    | some d =>
      have : S'.T d = S.T d := h d (List.mem_append_right _ (by simp [hg, hd]))
      simp only [this]

theorem qLoad_alike {x : TI} {B B' : Nat → Option Blk} {v : V} (hn : noT M v) (hB : ∀ i, ¬ M i → B' i = B i) : qLoad E x B' v = qLoad E x B v := by
  unfold qLoad
  cases v with
  | ptr i j o => simp only [noT, noA, no0] at hn; simp only [hB i hn]
  | _ => rfl
theorem qIndex_alike {t : TypeId} {B B' : Nat → Option Blk} {v w : V} (hn : noT M v) (hB : ∀ i, ¬ M i → B' i = B i) : qIndex E t B' v w = qIndex E t B v w := by
  cases v with
  | ref i => cases w <;> first | rfl | (simp only [noT, noA, no0] at hn; simp only [qIndex, hB i hn])
  | _ => cases w <;> rfl
theorem rowsV_alike {T T' : Nat → V} : ∀ (k : Nat) (ps : List (Nat × Operand)), (∀ x ∈ ps, ev T' x.2 = ev T x.2) → rowsV T' k ps = rowsV T k ps
  | k, [], h => rfl
  | k, (i, x) :: ps, h => by
    simp only [rowsV]
    rw [h (i, x) List.mem_cons_self, rowsV_alike (k + 1) ps (fun y hy => h y (List.mem_cons_of_mem _ hy))]
theorem fillV_alike {T T' : Nat → V} {ps : List (Nat × Nat)} : ∀ (cs : List V) (parts : List (Nat × Operand)), (∀ x ∈ parts, ev T' x.2 = ev T x.2) → fillV T' ps cs parts = fillV T ps cs parts
  | cs, [], h => rfl
  | cs, (i, x) :: rest, h => by
    simp only [fillV]
    have hx : ev T' x = ev T x := h (i, x) List.mem_cons_self
    rw [hx]
    have ih := fun ds => fillV_alike (ps := ps) ds rest (fun y hy => h y (List.mem_cons_of_mem _ hy))
    simp only [ih]
theorem viewL_alike {B B' : Nat → Option Blk} {v : V} (hn : noL M v) (hB : ∀ i, ¬ M i → B' i = B i) : viewL B' v = viewL B v := by
  cases v with
  | ref i => simp only [noL, no0] at hn; simp only [viewL, hB i hn]
  | _ => rfl
theorem viewLs_alike {B B' : Nat → Option Blk} (hB : ∀ i, ¬ M i → B' i = B i) : ∀ (vs : List V), (∀ v ∈ vs, noL M v) → viewLs B' vs = viewLs B vs
  | [], h => rfl
  | v :: vs, h => by
    simp only [viewLs]
    rw [viewL_alike (h v List.mem_cons_self) hB, viewLs_alike hB vs (fun y hy => h y (List.mem_cons_of_mem _ hy))]
theorem viewA_alike {p : Option Nat} {B B' : Nat → Option Blk} {v : V} (hn : noT M v) (hB : ∀ i, ¬ M i → B' i = B i) : viewA p B' v = viewA p B v := by
  unfold viewA
  split
  · next cs => rw [viewLs_alike hB cs (by simpa only [noT, noA] using hn)]
  · rfl
  · next h1 h2 =>
    cases v with
    | ref i => exact viewL_alike (M := M) (by simpa only [noT, noA, noL] using hn) hB
    | _ => rfl
theorem viewAs_alike {p : Option Nat} {B B' : Nat → Option Blk} (hB : ∀ i, ¬ M i → B' i = B i) : ∀ (vs : List V), (∀ v ∈ vs, noT M v) → viewAs p B' vs = viewAs p B vs
  | [], h => rfl
  | v :: vs, h => by
    simp only [viewAs]
    rw [viewA_alike (h v List.mem_cons_self) hB, viewAs_alike hB vs (fun y hy => h y (List.mem_cons_of_mem _ hy))]
theorem stored1_alike {B B' : Nat → Option Blk} {vs : List V} {v : V} (hn : noT M v) (hB : ∀ i, ¬ M i → B' i = B i) : stored1 B' vs v = stored1 B vs v := by
  unfold stored1
  cases v with
  | ptr i j o => simp only [noT, noA, no0] at hn; simp only [hB i hn]
  | _ => rfl

/-- what 'qop' says where the operands are the same; the blocks count only for what reads -/
theorem qop_alike {ow : Bool} {id : Nat} (hT : ∀ x ∈ o.op.operands, ev S'.T x = ev S.T x) (h : cls E o = 0 ∨ ((∀ x ∈ o.op.operands, noT M (ev S.T x)) ∧ ∀ i, ¬ M i → S'.B i = S.B i)) : qop E ow S'.B S'.T id o.op = qop E ow S.B S.T id o.op := by
  unfold cls at h
  cases hop : o.op <;> rw [hop] at hT h <;> simp only [Op.operands] at hT h <;> simp only [qop]
  case move x => rw [hT x (by simp)]
  case assign x => rw [hT x (by simp)]
  case nilCheck x => rw [hT x (by simp)]
  case build t parts =>
    have := fun (ps : List (Nat × Nat)) (cs : List V) => fillV_alike (T := S.T) (T' := S'.T) (ps := ps) cs parts.toList (fun x hx => hT x.2 (by simp only [List.mem_toArray, List.mem_map]; exact ⟨x, hx, rfl⟩))
    simp only [this]
  case pick c a b => rw [hT a (by simp), hT b (by simp), hT c (by simp)]
  case unOp op t x => rw [hT x (by simp)]
  case binOp op t x y t' => rw [hT x (by simp), hT y (by simp)]
  case fieldAddr t x k => rw [hT x (by simp)]
  case load t x =>
    rw [hT x (by simp)]
    have h' := h.resolve_left (by simp)
    simp only [qLoad_alike (E := E) (h'.1 x (by simp)) h'.2]
  case indexAddr t x i =>
    rw [hT x (by simp), hT i (by simp)]
    have h' := h.resolve_left (by simp)
    simp only [qIndex_alike (E := E) (h'.1 x (by simp)) h'.2]
  case extract x i => rw [hT x (by simp)]
  case convert s d x => rw [hT x (by simp)]
  case box t x => rw [hT x (by simp)]
  case makeSlice t l c => rw [hT l (by simp), hT c (by simp)]
  case buildSlice t len parts =>
    rw [rowsV_alike (T := S.T) (T' := S'.T) 0 parts.toList (fun x hx => hT x.2 (by simp only [List.mem_toArray, List.mem_map]; exact ⟨x, hx, rfl⟩))]
  case call c =>
    obtain ⟨callee, args, ts⟩ := c
    cases callee with
    | builtin b =>
      simp only
      unfold qCall
      split
      · next bb la lt as t has hts =>
        have hmem : as ∈ ({ callee := .builtin .len, args := args, argTypes := ts } : Call).operands := by
          simp only [Call.operands]
          have : as ∈ args.toList := by rw [has]; simp
          simpa using this
        rw [hT as hmem]
        have h' := h.resolve_left (by simp)
        have hn := h'.1 as hmem
        split
        · cases hv : ev S.T as with
          | ref i => rw [hv] at hn; simp only [noT, noA, no0] at hn; simp only [h'.2 i hn]
          | _ => rfl
        · rfl
      · next bb la lt x y has =>
        have hmx : x ∈ args.toList := by rw [has]; simp
        have hmy : y ∈ args.toList := by rw [has]; simp
        rw [hT x (by simp only [Call.operands]; simpa using hmx), hT y (by simp only [Call.operands]; simpa using hmy)]
      · next bb la lt x y has =>
        have hmx : x ∈ args.toList := by rw [has]; simp
        have hmy : y ∈ args.toList := by rw [has]; simp
        rw [hT x (by simp only [Call.operands]; simpa using hmx), hT y (by simp only [Call.operands]; simpa using hmy)]
      · rfl
    | _ => rfl
end
end Go.Proofs.YtfakhgopbhnocaaVM
namespace Go.Proofs.YtfakhgopbhnocaaVM
open Go

def newIds (o : Oper) : Nat → Prop := fun i => makes o = true ∧ ids o i
section
variable {E : Env} {ops : Array Oper} {S S' : AS} {o o1 o2 : Oper} {M : Nat → Prop} {v v1 v2 : V} {δ δ1 δ2 : Dl}

theorem AStep.alike (st : AStep E ops S o v δ) (hT : ∀ x ∈ o.looksAt ops, S'.T x = S.T x) (h : cls E o = 0 ∨ ((∀ x ∈ o.op.operands, noT M (ev S.T x)) ∧ (∀ i, ¬ M i → S'.B i = S.B i) ∧ (cls E o = 2 → ∀ i x, ¬ M i → S.B i = some x → noB M x))) : AStep E ops S' o v δ := by
  cases st with
  | skip hw => exact .skip (by rw [wanted_alike hT]; exact hw)
  | quiet hw hd ow C v nb hq hC =>
    refine .quiet (by rw [wanted_alike hT]; exact hw) hd ow C v nb ?_ hC
    rw [qop_alike (M := M) (S := S) (fun x hx => ev_alike hT hx) (h.imp id (fun h => ⟨fun x hx => h.1 x hx, h.2.1⟩))]
    exact hq
  | call hw hd f args ts ho p hl vargs mem res rows mem' hargs hmem hf =>
    have hcl : cls E o ≠ 0 := by unfold cls; rw [ho]; simp only; cases E.loud f <;> simp
    obtain ⟨hn, hB, hbl⟩ := h.resolve_left hcl
    have hop : ∀ x ∈ args.toList, x ∈ o.op.operands := fun x hx => by
      rw [ho]; simp only [Op.operands, Call.operands]
      simp at hx ⊢; exact .inr hx
    have e1 : args.toList.map (ev S'.T) = args.toList.map (ev S.T) := List.map_congr_left fun x hx => ev_alike hT (hop x hx)
    have e2 : ∀ i x, x ∈ args.toList → ev S.T x = .ptr i 0 0 → ¬ M i := fun i x hx he => by
      have := hn x (hop x hx)
      rw [he] at this
      exact this
    have hv : ∀ v ∈ args.toList.map (ev S.T), noT M v := fun v hv => by
      obtain ⟨x, hx, rfl⟩ := List.mem_map.1 hv
      exact hn x (hop x hx)
    rcases hmem with ⟨rfl, rfl⟩ | ⟨i, cs, ws, x, rfl, hx, hxe, hBi, hws, rfl⟩
    · have := AStep.call (E := E) (ops := ops) (S := S') (o := o) (by rw [wanted_alike hT]; exact hw) hd f args ts ho none hl vargs none res rows mem' (by rw [e1, viewAs_alike hB _ hv]; exact hargs) (.inl ⟨rfl, rfl⟩) hf
      exact this
    · have hni := e2 i x hx hxe
      have hBi' : S'.B i = some (.box cs) := by rw [hB i hni]; exact hBi
      have hcs : ∀ v ∈ cs.map unc, noL M v := fun v hv => by
        obtain ⟨w, hw, rfl⟩ := List.mem_map.1 hv
        have hc2 : cls E o = 2 := by unfold cls; rw [ho]; simp only; rw [hl]; rfl
        have : noL M w := hbl hc2 i _ hni hBi w hw
        cases w with
        | con u z =>
          cases z <;> first | trivial | exact this
        | _ => exact this
      have := AStep.call (E := E) (ops := ops) (S := S') (o := o) (by rw [wanted_alike hT]; exact hw) hd f args ts ho (some i) hl vargs (some ws) res rows mem' (by rw [e1, viewAs_alike hB _ hv]; exact hargs)
        (.inr ⟨i, cs, ws, x, rfl, hx, by rw [ev_alike hT (hop x hx)]; exact hxe, hBi', by rw [viewLs_alike hB _ hcs]; exact hws, rfl⟩) hf
      have e3 : memD S'.B (some i) mem' = memD S.B (some i) mem' := by cases mem' <;> simp only [memD, hBi, hBi']
      rw [e3] at this
      exact this
  | store hw hd t p x ho y hy vs hv hk hl C i blk hs hC =>
    have hcl : cls E o ≠ 0 := by unfold cls; rw [ho]; simp
    obtain ⟨hn, hB, hbl⟩ := h.resolve_left hcl
    have hp : p ∈ o.op.operands := by rw [ho]; simp [Op.operands]
    have hx : x ∈ o.op.operands := by rw [ho]; simp [Op.operands]
    refine .store (by rw [wanted_alike hT]; exact hw) hd t p x ho y hy vs (by rw [ev_alike hT hx]; exact hv) hk hl C i blk ?_ hC
    rw [ev_alike hT hp, stored1_alike (hn p hp) hB]
    exact hs

/-- which blocks a step touches -/
theorem rowsD_keys : ∀ (rows : List RowD) (id : Nat) (x : Nat × Option Blk), x ∈ rowsD id rows → id ≤ x.1 ∧ x.1 < id + rows.length
  | [], id, x, h => by cases h
  | r :: rs, id, x, h => by
    simp only [rowsD] at h
    rcases List.mem_cons.1 h with rfl | h
    · simp
    · have := rowsD_keys rs (id + 1) x h
      simp only [List.length_cons]
      omega
theorem qop_makes {ow : Bool} {id : Nat} {C : Prop} {v : V} {x : Blk} {B : Nat → Option Blk} {T : Nat → V} (hq : qop E ow B T id o.op = some (C, v, some x)) : makes o = true := by
  unfold makes
  cases hop : o.op <;> rw [hop] at hq <;> simp only [qop] at hq ⊢ <;> first | rfl | skip
  all_goals (exfalso; revert hq; (repeat' split) <;> intro hq <;> first | (cases hq; done) | skip)
  all_goals (unfold qCall at hq; revert hq; (repeat' split) <;> intro hq <;> cases hq)
theorem AStep.keys (st : AStep E ops S o v δ) : ∀ x ∈ δ, (newIds o x.1 ∧ o.dst ≠ none) ∨ (cls E o = 2 ∧ ∃ y ∈ o.op.operands, ∃ j k, ev S.T y = .ptr x.1 j k) := by
  intro x hx
  cases st with
  | skip hw => cases hx
  | quiet hw hd ow C v nb hq hC =>
    cases nb with
    | none => cases hx
    | some b =>
      simp only [nbD, List.mem_singleton] at hx
      subst hx
      exact .inl ⟨⟨qop_makes hq, Nat.le_refl _, by omega⟩, hd⟩
  | call hw hd f args ts ho p hl vargs mem res rows mem' hargs hmem hf =>
    rcases List.mem_append.1 hx with hx | hx
    · have := rowsD_keys _ _ _ hx
      have hfew := hf.few
      refine .inl ⟨⟨by unfold makes; rw [ho], by omega, by omega⟩, hd⟩
    · refine .inr ?_
      rcases hmem with ⟨rfl, _⟩ | ⟨i, cs, ws, y, rfl, hy, hye, hBi, hws, rfl⟩
      · cases mem' <;> cases hx
      · cases mem' with
        | none => cases hx
        | some vs =>
          simp only [memD, hBi, List.mem_singleton] at hx
          subst hx
          refine ⟨by unfold cls; rw [ho]; simp [hl], y, ?_, 0, 0, hye⟩
          rw [ho]; simp only [Op.operands, Call.operands]
          simp at hy ⊢; exact .inr hy
  | store hw hd t p y ho z hz vs hv hk hl C i blk hs hC =>
    simp only [List.mem_singleton] at hx
    subst hx
    refine .inr ⟨by unfold cls; rw [ho], p, by rw [ho]; simp [Op.operands], ?_⟩
    unfold stored1 at hs
    split at hs
    · next ii j oo hpe =>
      refine ⟨j, oo, ?_⟩
      have : ii = i := by
        revert hs
        (repeat' split) <;> intro hs <;> first | (cases hs; done) | (simp only [Option.some.injEq, Prod.mk.injEq] at hs; exact hs.2.1) | skip
        cases hsh : vs.all shut1 <;> rw [hsh] at hs <;> simp only [cond_true, cond_false, Option.some.injEq, Prod.mk.injEq] at hs
        · cases hs
        · exact hs.2.1
      rw [hpe, this]
    · cases hs
end
end Go.Proofs.YtfakhgopbhnocaaVM
namespace Go.Proofs.YtfakhgopbhnocaaVM
open Go

section
variable {E : Env} {ops : Array Oper} {S S' : AS} {o o1 o2 : Oper} {M : Nat → Prop} {v v1 v2 : V} {δ δ1 δ2 : Dl}
theorem after_T (S : AS) (o : Oper) (v : V) (δ : Dl) {t : Nat} (h : ∀ d, o.dst = some d → t ≠ d) : (after S o v δ).T t = S.T t := by
  unfold after updO
  cases hd : o.dst with
  | none => rfl
  | some d => simp [h d hd]
/-- an operation that names nothing of the block 0, and one that writes no block but that and new ones -/
def Cl0 (N0 : Nat → Prop) (o : Oper) (T : Nat → V) : Prop := ∀ x ∈ o.op.operands, noT N0 (ev T x)
def Wr0 (N0 : Nat → Prop) (o : Oper) (T : Nat → V) : Prop := ∀ y ∈ o.op.operands, ∀ i j k, ev T y = .ptr i j k → N0 i
theorem AStep.comm {N0 : Nat → Prop} (h1 : AStep E ops S o1 v1 δ1) (h2 : AStep E ops (after S o1 v1 δ1) o2 v2 δ2) (hap : o1.apart ops o2 = true) (hcl : (cls E o1 ≤ 1 ∧ cls E o2 ≤ 1) ∨ (cls E o1 = 0 ∧ cls E o2 = 2) ∨ (cls E o1 = 2 ∧ cls E o2 = 0) ∨ (cls E o1 ≤ 1 ∧ cls E o2 = 2 ∧ Cl0 N0 o1 S.T ∧ Wr0 N0 o2 S.T) ∨ (cls E o1 = 2 ∧ cls E o2 ≤ 1 ∧ Wr0 N0 o1 S.T ∧ Cl0 N0 o2 S.T))
    (f1 : makes o1 = true → Absent (ids o1) S) (f2 : makes o2 = true → Absent (ids o2) S) :
    AStep E ops S o2 v2 δ2 ∧ AStep E ops (after S o2 v2 δ2) o1 v1 δ1 ∧ after (after S o2 v2 δ2) o1 v1 δ1 = after (after S o1 v1 δ1) o2 v2 δ2 := by
  obtain ⟨a1, a2, a3⟩ := Oper.apart_spec hap
  have n1 : (∀ t, noT (newIds o1) (S.T t)) ∧ ∀ i x, S.B i = some x → ¬ newIds o1 i ∧ noB (newIds o1) x := by
    by_cases hm : makes o1 = true
    · have e : newIds o1 = ids o1 := by funext i; simp [newIds, hm]
      rw [e]; exact f1 hm
    · have e : newIds o1 = fun _ => False := by funext i; simp [newIds, hm]
      rw [e]; exact ⟨fun t => noT_false _, fun i x _ => ⟨by simp, noB_false _⟩⟩
  have n2 : (∀ t, noT (newIds o2) (S.T t)) ∧ ∀ i x, S.B i = some x → ¬ newIds o2 i ∧ noB (newIds o2) x := by
    by_cases hm : makes o2 = true
    · have e : newIds o2 = ids o2 := by funext i; simp [newIds, hm]
      rw [e]; exact f2 hm
    · have e : newIds o2 = fun _ => False := by funext i; simp [newIds, hm]
      rw [e]; exact ⟨fun t => noT_false _, fun i x _ => ⟨by simp, noB_false _⟩⟩
  have t1 : ∀ x ∈ o2.looksAt ops, S.T x = (after S o1 v1 δ1).T x := fun x hx => (after_T S o1 v1 δ1 (fun d hd e => a1 d hd (e ▸ hx))).symm
  have t2 : ∀ x ∈ o1.looksAt ops, (after S o2 v2 δ2).T x = S.T x := fun x hx => after_T S o2 v2 δ2 (fun d hd e => a3 d hd (e ▸ hx))
  have far : ∀ (o : Oper) (v : V) (δ : Dl) (S : AS), AStep E ops S o v δ → cls E o ≤ 1 → ∀ i, ¬ newIds o i → (after S o v δ).B i = S.B i := fun o v δ S hs hc i hi => by
    refine patch_far δ S.B i (fun x hx e => ?_)
    rcases hs.keys x hx with ⟨h1, _⟩ | ⟨h1, _⟩
    · exact hi (e ▸ h1)
    · omega
  have e1 : ∀ x ∈ o2.op.operands, ev (after S o1 v1 δ1).T x = ev S.T x := fun x hx => (ev_alike (S := after S o1 v1 δ1) (S' := S) (fun y hy => t1 y hy) hx).symm
  have nev : ∀ (N : Nat → Prop), (∀ t, noT N (S.T t)) → ∀ x, noT N (ev S.T x) := fun N hN x => by
    cases x with
    | tmp t => exact hN t
    | const w => exact noT_cv N w
    | _ => trivial
  have far0 : ∀ (o : Oper) (v : V) (δ : Dl) (S : AS), AStep E ops S o v δ → Wr0 N0 o S.T → ∀ i, ¬ (newIds o i ∨ N0 i) → (after S o v δ).B i = S.B i := fun o v δ S hs hw i hi => by
    refine patch_far δ S.B i (fun x hx e => ?_)
    rcases hs.keys x hx with ⟨h1, _⟩ | ⟨h1, y, hy, j, k, he⟩
    · exact hi (.inl (e ▸ h1))
    · exact hi (.inr (e ▸ hw y hy _ _ _ he))
  have s2 : AStep E ops S o2 v2 δ2 := by
    rcases hcl with ⟨c1, c2⟩ | ⟨c1, c2⟩ | ⟨c1, c2⟩ | ⟨c1, c2, k1, k2⟩ | ⟨c1, c2, k1, k2⟩
    · exact h2.alike t1 (M := newIds o1) (.inr ⟨fun x hx => by rw [e1 x hx]; exact nev _ n1.1 x, fun i hi => (far o1 v1 δ1 S h1 c1 i hi).symm, fun _ i x hi hx => by rw [far o1 v1 δ1 S h1 c1 i hi] at hx; exact (n1.2 i x hx).2⟩)
    · exact h2.alike t1 (M := newIds o1) (.inr ⟨fun x hx => by rw [e1 x hx]; exact nev _ n1.1 x, fun i hi => (far o1 v1 δ1 S h1 (by omega) i hi).symm, fun _ i x hi hx => by rw [far o1 v1 δ1 S h1 (by omega) i hi] at hx; exact (n1.2 i x hx).2⟩)
    · exact h2.alike t1 (M := newIds o1) (.inl c2)
    · exact h2.alike t1 (M := newIds o1) (.inr ⟨fun x hx => by rw [e1 x hx]; exact nev _ n1.1 x, fun i hi => (far o1 v1 δ1 S h1 c1 i hi).symm, fun _ i x hi hx => by rw [far o1 v1 δ1 S h1 c1 i hi] at hx; exact (n1.2 i x hx).2⟩)
    · exact h2.alike t1 (M := fun i => newIds o1 i ∨ N0 i) (.inr ⟨fun x hx => by rw [e1 x hx]; exact noT_or (nev _ n1.1 x) (k2 x hx), fun i hi => (far0 o1 v1 δ1 S h1 k1 i hi).symm, fun hc => by omega⟩)
  have s1 : AStep E ops (after S o2 v2 δ2) o1 v1 δ1 := by
    rcases hcl with ⟨c1, c2⟩ | ⟨c1, c2⟩ | ⟨c1, c2⟩ | ⟨c1, c2, k1, k2⟩ | ⟨c1, c2, k1, k2⟩
    · exact h1.alike t2 (M := newIds o2) (.inr ⟨fun x hx => nev _ n2.1 x, far o2 v2 δ2 S s2 c2, fun _ i x hi hx => (n2.2 i x hx).2⟩)
    · exact h1.alike t2 (M := newIds o2) (.inl c1)
    · exact h1.alike t2 (M := newIds o2) (.inr ⟨fun x hx => nev _ n2.1 x, far o2 v2 δ2 S s2 (by omega), fun _ i x hi hx => (n2.2 i x hx).2⟩)
    · exact h1.alike t2 (M := fun i => newIds o2 i ∨ N0 i) (.inr ⟨fun x hx => noT_or (nev _ n2.1 x) (k1 x hx), far0 o2 v2 δ2 S s2 k2, fun hc => by omega⟩)
    · exact h1.alike t2 (M := newIds o2) (.inr ⟨fun x hx => nev _ n2.1 x, far o2 v2 δ2 S s2 c2, fun _ i x hi hx => (n2.2 i x hx).2⟩)
  refine ⟨s2, s1, ?_⟩
  have hT : updO (updO S.T o2.dst v2) o1.dst v1 = updO (updO S.T o1.dst v1) o2.dst v2 := by
    unfold updO
    cases h1 : o1.dst with
    | none => cases o2.dst <;> rfl
    | some d1 =>
      cases h2 : o2.dst with
      | none => rfl
      | some d2 =>
        have hne : d1 ≠ d2 := fun e => a2 d1 h1 (by rw [h2, e])
        funext t
        by_cases e1 : t = d1
        · subst e1; simp [hne]
        · by_cases e2 : t = d2
          · subst e2; simp [e1]
          · simp [e1, e2]
  have hB : patch δ1 (patch δ2 S.B) = patch δ2 (patch δ1 S.B) := by
    refine patch_comm δ1 δ2 S.B (fun x hx y hy e => ?_)
    have noptr : ∀ (o : Oper) (N : Nat → Prop), (∀ t, noT N (S.T t)) → ∀ z ∈ o.op.operands, ∀ i j k, ev S.T z = .ptr i j k → ¬ N i := fun o N hN z hz i j k he => by
      have : noT N (ev S.T z) := by
        cases z with
        | tmp t => exact hN t
        | const w => exact noT_cv N w
        | _ => trivial
      rw [he] at this
      exact this
    rcases h1.keys x hx with ⟨k1, d1⟩ | ⟨k1, z, hz, j, k, hzv⟩ <;> rcases s2.keys y hy with ⟨k2, d2⟩ | ⟨k2, z', hz', j', k', hzv'⟩
    · rw [← e] at k2
      have q1 := k1.2
      have q2 := k2.2
      cases h1 : o1.dst with
      | none => exact d1 h1
      | some e1 =>
        cases h2 : o2.dst with
        | none => exact d2 h2
        | some e2 =>
          have hne : e1 ≠ e2 := fun e => a2 e1 h1 (by rw [h2, e])
          simp only [ids, nid, h1, h2] at q1 q2
          rcases @Nat.lt_or_gt_of_ne e1 e2 hne with h | h <;> omega
    · exact noptr o2 _ n1.1 z' hz' _ _ _ hzv' (e ▸ k1)
    · exact noptr o1 _ n2.1 z hz _ _ _ hzv (e ▸ k2)
    · rcases hcl with ⟨c1, c2⟩ | ⟨c1, c2⟩ | ⟨c1, c2⟩ | ⟨c1, c2, _, _⟩ | ⟨c1, c2, _, _⟩ <;> omega
  unfold after
  simp only [hT, hB]

/-! ### names stay away -/
theorem noT_leaf {N : Nat → Prop} {v : V} (h : no0 N v) (h1 : ∀ cs, v ≠ .agg cs) (h2 : ∀ cs, v ≠ .tup cs) : noT N v := by
  cases v with
  | agg cs => exact absurd rfl (h1 cs)
  | tup cs => exact absurd rfl (h2 cs)
  | _ => exact h
theorem rt_no {N : Nat → Prop} (f : Bool) (v : V) : noL N (rt f v) ∧ noT N (rt f v) := by cases v <;> exact ⟨trivial, trivial⟩
theorem unc_no {N : Nat → Prop} {v : V} (h : noL N v) : noL N (unc v) ∧ noT N (unc v) := by
  cases v with
  | con u w => cases w <;> first | exact ⟨trivial, trivial⟩ | exact ⟨h, h⟩
  | _ => first | exact ⟨trivial, trivial⟩ | exact ⟨h, h⟩
theorem noA_parts {N : Nat → Prop} {v : V} (h : noT N v) {cs : List V} (hb : boxV v = some cs) : ∀ w ∈ cs, noL N w := by
  cases v with
  | agg xs => simp only [boxV, Option.some.injEq] at hb; subst hb; exact h
  | _ => 
    simp only [boxV, Option.some.injEq, reduceCtorEq] at hb
    try (subst hb; intro w hw; simp only [List.mem_singleton] at hw; subst hw; exact h)
theorem setL_mem {α : Type} : ∀ (vs cs : List α) (o : Nat) (w : α), w ∈ setL cs o vs → w ∈ cs ∨ w ∈ vs
  | [], cs, o, w, h => .inl h
  | v :: vs, cs, o, w, h => by
    rcases setL_mem vs _ _ _ h with h | h
    · rcases List.mem_or_eq_of_mem_set h with h | rfl
      · exact .inl h
      · exact .inr List.mem_cons_self
    · exact .inr (List.mem_cons_of_mem _ h)
theorem mergeL_mem : ∀ (os vs : List V) (w : V), w ∈ mergeL os vs → w ∈ os ∨ ∀ N, noL N w
  | [], vs, w, h => by cases vs <;> simp [mergeL] at h
  | o :: os, [], w, h => .inl h
  | o :: os, v :: vs, w, h => by
    simp only [mergeL] at h
    rcases List.mem_cons.1 h with h | h
    · cases v <;> first | (subst h; exact .inr fun N => trivial) | (subst h; exact .inl List.mem_cons_self)
    · rcases mergeL_mem os vs w h with h | h
      · exact .inl (List.mem_cons_of_mem _ h)
      · exact .inr h
theorem qLoad_no {x : TI} {B : Nat → Option Blk} {p v : V} {C : Prop} (h : qLoad E x B p = some (C, v)) (hB : ∀ i b, B i = some b → noB M b) : noT M v := by
  unfold qLoad at h
  split at h
  · split at h
    · next cs hb =>
      have hcs : ∀ w ∈ cs, noL M w := hB _ _ hb
      split at h
      · split at h
        · simp only [Option.some.injEq, Prod.mk.injEq] at h
          obtain ⟨_, rfl⟩ := h
          intro w hw
          obtain ⟨z, hz, rfl⟩ := List.mem_map.1 hw
          exact (unc_no (hcs z (List.mem_of_mem_drop (List.mem_of_mem_take hz)))).1
        · split at h
          · next z hz =>
            simp only [Option.some.injEq, Prod.mk.injEq] at h
            obtain ⟨_, rfl⟩ := h
            exact (unc_no (hcs _ (List.mem_of_getElem? hz))).2
          · cases h
      · cases h
    · split at h
      · split at h
        · simp only [Option.some.injEq, Prod.mk.injEq] at h
          obtain ⟨_, rfl⟩ := h
          intro w hw
          obtain ⟨z, hz, rfl⟩ := List.mem_map.1 hw
          exact (rt_no true z).1
        · simp only [Option.some.injEq, Prod.mk.injEq] at h
          obtain ⟨_, rfl⟩ := h
          exact (rt_no true _).2
      · cases h
    · cases h
  · split at h
    · simp only [Option.some.injEq, Prod.mk.injEq] at h
      obtain ⟨_, rfl⟩ := h
      intro w hw
      obtain ⟨z, hz, rfl⟩ := List.mem_map.1 hw
      exact (rt_no _ z).1
    · simp only [Option.some.injEq, Prod.mk.injEq] at h
      obtain ⟨_, rfl⟩ := h
      exact (rt_no _ _).2
  · cases h
theorem qIndex_no {t : TypeId} {B : Nat → Option Blk} {p q v : V} {C : Prop} (h : qIndex E t B p q = some (C, v)) (hp : noT M p) : noT M v := by
  unfold qIndex at h
  (repeat' split at h) <;> first | (cases h; done) | (simp only [Option.some.injEq, Prod.mk.injEq] at h; obtain ⟨_, rfl⟩ := h; first | trivial | exact hp)
theorem qBin_no {t : TypeId} {op : BinOp} {p q v : V} {C : Prop} (h : qBin E t op p q = some (C, v)) : noT M v := by
  unfold qBin at h
  (repeat' split at h) <;> first | (cases h; done) | (simp only [Option.some.injEq, Prod.mk.injEq] at h; obtain ⟨_, rfl⟩ := h; trivial)
theorem zero_no {t : TypeId} {x : TI} (h : E.ti t = some x) : ∀ v ∈ x.zero, noL M v := fun v hv => by
  obtain ⟨i, z, _, _, _, _, _, _, h7⟩ := (E.hti t x h).info
  obtain ⟨j, hj⟩ := List.getElem?_of_mem hv
  obtain ⟨u, _, hz⟩ := h7 j v hj
  cases v <;> first | trivial | exact hz.elim
theorem fill_no {T : Nat → V} (he : ∀ x, noT M (ev T x)) {ps : List (Nat × Nat)} : ∀ (cs : List V) (parts : List (Nat × Operand)) (ds : List V), (∀ v ∈ cs, noL M v) → fillV T ps cs parts = some ds → ∀ v ∈ ds, noL M v
  | cs, [], ds, hc, h => by obtain rfl := Option.some.inj h; exact hc
  | cs, (i, x) :: rest, ds, hc, h => by
    simp only [fillV] at h
    split at h
    · next off n vs _ hb =>
      cases hd : (vs.length == n && Nat.ble (off + n) cs.length) with
      | false => rw [hd] at h; cases h
      | true =>
        rw [hd] at h
        refine fill_no he _ rest ds (fun v hv => ?_) h
        rcases List.mem_append.1 hv with hv | hv
        · rcases List.mem_append.1 hv with hv | hv
          · exact hc v (List.mem_of_mem_take hv)
          · exact noA_parts (he x) hb v hv
        · exact hc v (List.mem_of_mem_drop hv)
    · cases h
theorem qop_no {ow : Bool} {id : Nat} {C : Prop} {v : V} {nb : Option Blk} (hq : qop E ow S.B S.T id o.op = some (C, v, nb)) (hM : Absent M S) (hid : nb.isSome = true → ¬ M id) : noT M v ∧ ∀ b, nb = some b → noB M b := by
  have he : ∀ x, noT M (ev S.T x) := fun x => by
    cases x with
    | tmp t => exact hM.1 t
    | const w => exact noT_cv M w
    | _ => trivial
  have hB : ∀ i b, S.B i = some b → noB M b := fun i b hb => (hM.2 i b hb).2
  cases hop : o.op <;> rw [hop] at hq <;> simp only [qop] at hq
  case move x => simp only [Option.some.injEq, Prod.mk.injEq] at hq; obtain ⟨_, rfl, rfl⟩ := hq; exact ⟨he x, by simp⟩
  case assign x => simp only [Option.some.injEq, Prod.mk.injEq] at hq; obtain ⟨_, rfl, rfl⟩ := hq; exact ⟨he x, by simp⟩
  case nilCheck x =>
    split at hq
    · next h =>
      have := he x
      rw [h] at this
      simp only [Option.some.injEq, Prod.mk.injEq] at hq; obtain ⟨_, rfl, rfl⟩ := hq; exact ⟨this, by simp⟩
    · cases hq
  case build t parts =>
    split at hq
    · next y ps hy hps =>
      split at hq
      · next cs hcs =>
        simp only [Option.some.injEq, Prod.mk.injEq] at hq; obtain ⟨_, rfl, rfl⟩ := hq
        exact ⟨fill_no he _ _ _ (zero_no hy) hcs, by simp⟩
      · cases hq
    · cases hq
  case pick c a b =>
    split at hq <;> first | (cases hq; done) | (simp only [Option.some.injEq, Prod.mk.injEq] at hq; obtain ⟨_, rfl, rfl⟩ := hq; exact ⟨he _, by simp⟩)
  case unOp op t x =>
    split at hq <;> first | (cases hq; done) | (simp only [Option.some.injEq, Prod.mk.injEq] at hq; obtain ⟨_, rfl, rfl⟩ := hq; exact ⟨trivial, by simp⟩)
  case binOp op t x y t' =>
    split at hq
    · next h => simp only [Option.some.injEq, Prod.mk.injEq] at hq; obtain ⟨_, rfl, rfl⟩ := hq; exact ⟨qBin_no h, by simp⟩
    · cases hq
  case fieldAddr t x k =>
    split at hq
    · split at hq
      · next h => 
        have := he x
        rw [h] at this
        simp only [Option.some.injEq, Prod.mk.injEq] at hq; obtain ⟨_, rfl, rfl⟩ := hq; exact ⟨this, by simp⟩
      · simp only [Option.some.injEq, Prod.mk.injEq] at hq; obtain ⟨_, rfl, rfl⟩ := hq; exact ⟨trivial, by simp⟩
      · cases hq
    · cases hq
  case load t x =>
    split at hq
    · split at hq
      · next h => simp only [Option.some.injEq, Prod.mk.injEq] at hq; obtain ⟨_, rfl, rfl⟩ := hq; exact ⟨qLoad_no h hB, by simp⟩
      · cases hq
    · cases hq
  case indexAddr t x i =>
    split at hq
    · next h => simp only [Option.some.injEq, Prod.mk.injEq] at hq; obtain ⟨_, rfl, rfl⟩ := hq; exact ⟨qIndex_no h (he x), by simp⟩
    · cases hq
  case extract x i =>
    split at hq
    · next vs hx =>
      have := he x
      rw [hx] at this
      split at hq
      · cases hq
      · next z hnt hz =>
        simp only [Option.some.injEq, Prod.mk.injEq] at hq; obtain ⟨_, rfl, rfl⟩ := hq
        have hz' : noA M z := this z (List.mem_of_getElem? hz)
        refine ⟨?_, by simp⟩
        cases z with
        | tup cs => exact absurd rfl (hnt cs)
        | _ => exact hz'
      · cases hq
    · cases hq
  case convert s d x =>
    split at hq <;> first | (cases hq; done) | (simp only [Option.some.injEq, Prod.mk.injEq] at hq; obtain ⟨_, rfl, rfl⟩ := hq; exact ⟨trivial, by simp⟩)
  case call c =>
    split at hq
    · unfold qCall at hq
      (repeat' split at hq) <;> first | (cases hq; done) | (simp only [Option.some.injEq, Prod.mk.injEq] at hq; obtain ⟨_, rfl, rfl⟩ := hq; exact ⟨trivial, by simp⟩)
    · cases hq
  case box t x =>
    split at hq
    · next cs h =>
      simp only [Option.some.injEq, Prod.mk.injEq] at hq; obtain ⟨_, rfl, rfl⟩ := hq
      exact ⟨hid rfl, fun b hb => by obtain rfl := Option.some.inj hb; exact noA_parts (he x) h⟩
    · cases hq
  case alloc t =>
    split at hq
    · next y h =>
      simp only [Option.some.injEq, Prod.mk.injEq] at hq; obtain ⟨_, rfl, rfl⟩ := hq
      exact ⟨hid rfl, fun b hb => by obtain rfl := Option.some.inj hb; exact zero_no h⟩
    · cases hq
  case makeSlice t l c =>
    (repeat' split at hq) <;> first | (cases hq; done) | (simp only [Option.some.injEq, Prod.mk.injEq] at hq; obtain ⟨_, rfl, rfl⟩ := hq; exact ⟨hid rfl, fun b hb => by obtain rfl := Option.some.inj hb; trivial⟩)
  case buildSlice t len parts =>
    (repeat' split at hq) <;> first | (cases hq; done) | (simp only [Option.some.injEq, Prod.mk.injEq] at hq; obtain ⟨_, rfl, rfl⟩ := hq; first | exact ⟨hid rfl, fun b hb => by obtain rfl := Option.some.inj hb; trivial⟩ | exact ⟨trivial, by simp⟩)
  all_goals (cases hq)

theorem ren_no {N : Nat → Prop} {id : Nat} (h : ∀ j, j < 8 → ¬ N (id + j)) (v : V) : noT N (renT id v) := by
  have h0 : ∀ v, no0 N (ren0 id v) := fun v => by
    cases v with
    | ref j =>
      simp only [ren0]
      by_cases hj : j < 8
      · simp only [hj, decide_true, cond_true]; exact h j hj
      · simp only [hj, decide_false, cond_false]; trivial
    | _ => trivial
  have hL : ∀ v, noL N (renL id v) := fun v => by
    cases v with
    | ref j => have := h0 (.ref j); simp only [renL, ren0] at this ⊢; cases hj : decide (j < 8) <;> rw [hj] at this <;> exact this
    | _ => trivial
  have hA : ∀ v, noA N (renA id v) := fun v => by
    cases v with
    | agg cs => intro w hw; obtain ⟨z, _, rfl⟩ := List.mem_map.1 hw; exact hL z
    | ref j => have := h0 (.ref j); simp only [renA, ren0] at this ⊢; cases hj : decide (j < 8) <;> rw [hj] at this <;> exact this
    | _ => trivial
  cases v with
  | tup cs => intro w hw; obtain ⟨z, _, rfl⟩ := List.mem_map.1 hw; exact hA z
  | agg cs => exact hA (.agg cs)
  | ref j => have := h0 (.ref j); simp only [renT, renA, ren0] at this ⊢; cases hj : decide (j < 8) <;> rw [hj] at this <;> exact this
  | _ => trivial

theorem Absent.after (hM : Absent M S) (hv : noT M v) (hδ : ∀ x ∈ δ, ∀ b, x.2 = some b → ¬ M x.1 ∧ noB M b) : Absent M (Go.Proofs.YtfakhgopbhnocaaVM.after S o v δ) := by
  refine ⟨fun t => ?_, fun i b hb => ?_⟩
  · unfold Go.Proofs.YtfakhgopbhnocaaVM.after updO
    cases o.dst with
    | none => exact hM.1 t
    | some d => by_cases e : t = d <;> simp only [e, if_true, if_false] <;> first | exact hv | exact hM.1 t
  · unfold Go.Proofs.YtfakhgopbhnocaaVM.after at hb
    simp only at hb
    clear hv
    induction δ with
    | nil => exact hM.2 i b hb
    | cons x δ ih =>
      obtain ⟨k, y⟩ := x
      simp only [patch] at hb
      by_cases e : i = k
      · subst e; rw [upd_same] at hb; exact hδ _ List.mem_cons_self b hb
      · rw [upd_ne _ _ e] at hb; exact ih (fun z hz => hδ z (List.mem_cons_of_mem _ hz)) hb
theorem AStep.absent (st : AStep E ops S o v δ) (hM : Absent M S) (hdis : ∀ i, newIds o i → ¬ M i) : Absent M (Go.Proofs.YtfakhgopbhnocaaVM.after S o v δ) := by
  cases st with
  | skip hw => exact hM.after trivial (by simp)
  | quiet hw hd ow C v nb hq hC =>
    have hid : nb.isSome = true → ¬ M (nid o) := fun h => by
      obtain ⟨b, rfl⟩ := Option.isSome_iff_exists.1 h
      exact hdis _ ⟨qop_makes hq, Nat.le_refl _, by omega⟩
    obtain ⟨h1, h2⟩ := qop_no hq hM hid
    refine hM.after h1 (fun x hx b hb => ?_)
    cases nb with
    | none => cases hx
    | some y =>
      simp only [nbD, List.mem_singleton] at hx
      subst hx
      obtain rfl := Option.some.inj hb
      exact ⟨hid rfl, h2 _ rfl⟩
  | call hw hd f args ts ho p hl vargs mem res rows mem' hargs hmem hf =>
    have hm : makes o = true := by unfold makes; rw [ho]
    have hn : ∀ j, j < 8 → ¬ M (nid o + j) := fun j hj => hdis _ ⟨hm, by omega, by omega⟩
    refine hM.after (ren_no hn res) (fun x hx b hb => ?_)
    rcases List.mem_append.1 hx with hx | hx
    · have hk := rowsD_keys _ _ _ hx
      have hfew := hf.few
      refine ⟨hdis _ ⟨hm, by omega, by omega⟩, ?_⟩
      have : ∀ (rows : List RowD) (id : Nat) (x : Nat × Option Blk), x ∈ rowsD id rows → ∀ b, x.2 = some b → noB M b := fun rows => by
        induction rows with
        | nil => intro id x hx; cases hx
        | cons r rs ih =>
          intro id x hx b hb
          rcases List.mem_cons.1 hx with rfl | hx
          · obtain rfl := Option.some.inj hb; trivial
          · exact ih _ x hx b hb
      exact this _ _ _ hx b hb
    · cases p with
      | none => cases mem' <;> cases hx
      | some i =>
        cases mem' with
        | none => cases hx
        | some vs =>
          simp only [memD] at hx
          split at hx
          · next os hi =>
            simp only [List.mem_singleton] at hx
            subst hx
            obtain rfl := Option.some.inj hb
            refine ⟨(hM.2 i _ hi).1, fun w hw => ?_⟩
            rcases mergeL_mem _ _ _ hw with h | h
            · exact (hM.2 i _ hi).2 w h
            · exact h M
          · cases hx
  | store hw hd t p x ho y hy vs hv hk hl C i blk hs hC =>
    refine hM.after trivial (fun z hz b hb => ?_)
    simp only [List.mem_singleton] at hz
    subst hz
    obtain rfl := Option.some.inj hb
    have he : noT M (ev S.T x) := by
      cases x with
      | tmp t => exact hM.1 t
      | const w => exact noT_cv M w
      | _ => trivial
    have hvs := noA_parts he hv
    unfold stored1 at hs
    split at hs
    · split at hs
      · next cs hB =>
        split at hs
        · simp only [Option.some.injEq, Prod.mk.injEq] at hs
          obtain ⟨_, rfl, rfl⟩ := hs
          refine ⟨(hM.2 _ _ hB).1, fun w hw => ?_⟩
          rcases setL_mem _ _ _ _ hw with h | h
          · exact (hM.2 _ _ hB).2 w h
          · exact hvs w h
        · cases hs
      · next e s es hB =>
        cases hsh : vs.all shut1 <;> rw [hsh] at hs <;> simp only [cond_true, cond_false, Option.some.injEq, Prod.mk.injEq] at hs
        · cases hs
        · obtain ⟨_, rfl, rfl⟩ := hs
          exact ⟨(hM.2 _ _ hB).1, trivial⟩
      · cases hs
    · cases hs
end
end Go.Proofs.YtfakhgopbhnocaaVM
namespace Go.Proofs.YtfakhgopbhnocaaVM
open Go

inductive AApp (E : Env) (ops : Array Oper) (S : AS) (o : Oper) : AS → Prop
  | mk (hw : wantedA ops S.T o = some true) (hd : o.dst ≠ none) (t : TypeId) (s x : Operand) (ho : o.op = .call { callee := .builtin .append, args := #[s, x], argTypes := #[t, t] }) (e : TypeId) (y : TI) (he : E.el t = some e) (hy : E.ti e = some y)
      (old : Option Nat) (es : List (List V)) (hs : (ev S.T s = .nil ∧ old = none ∧ es = []) ∨ ∃ i, ev S.T s = .ref i ∧ old = some i ∧ S.B i = some (.row e y.size es)) (f : Bool) (ys : List (List V)) (hx : ev S.T x = .sl f y.size ys)
      (hf : f = true ∨ ∀ e ∈ ys, ∀ v ∈ e, scal v = true) (hne : old = none → ys ≠ []) (hb : (es.length + ys.length) * y.bytes ≤ 140737488355328) (hold0 : ∀ i, old = some i → 0 ≠ i) (habs : old = some (nid o) ∨ Absent (· = nid o) S) : AApp E ops S o (appS (nid o) o.dst old (.row e y.size (es ++ ys)) S)
/-- what is told of an operation: it names nothing of the block 0; it writes but that -/
structure Fl where
  cl : List Nat
  wr : List Nat
  nm : List Nat
def hasB : List Nat → Nat → Bool
  | [], _ => false
  | e :: l, d => bif e == d then true else hasB l d
def keyO (o : Oper) : Nat := match o.dst with
  | some d => d
  | none => match o.op with
    | .store _ (.tmp t) _ => 100000 + t
    | _ => 99999
def inFl (l : List Nat) (o : Oper) : Bool := hasB l (keyO o)
def nmP (l : List Nat) : Nat → Prop := fun i => hasB l i = true
def Flag (fl : Fl) (o : Oper) (T : Nat → V) : Prop := (inFl fl.cl o = true → Cl0 (nmP fl.nm) o T) ∧ (inFl fl.wr o = true → Wr0 (nmP fl.nm) o T)
theorem Flag.alike {fl : Fl} {ops : Array Oper} {o : Oper} {S S' : AS} (h : Flag fl o S.T) (hT : ∀ x ∈ o.looksAt ops, S'.T x = S.T x) : Flag fl o S'.T :=
  ⟨fun hc x hx => by rw [ev_alike (S := S) (S' := S') hT hx]; exact h.1 hc x hx, fun hc x hx => by rw [ev_alike (S := S) (S' := S') hT hx]; exact h.2 hc x hx⟩
inductive ARun (E : Env) (ops : Array Oper) (fl : Fl) : List Nat → AS → AS → Prop
  | nil (S : AS) : ARun E ops fl [] S S
  | cons {i : Nat} {rest : List Nat} {S S' : AS} {o : Oper} {v : V} {δ : Dl} (ho : ops[i]? = some o) (st : AStep E ops S o v δ) (hfl : Flag fl o S.T) (t : ARun E ops fl rest (after S o v δ) S') : ARun E ops fl (i :: rest) S S'
  | app {i : Nat} {rest : List Nat} {S S1 S' : AS} {o : Oper} (ho : ops[i]? = some o) (st : AApp E ops S o S1) (t : ARun E ops fl rest S1 S') : ARun E ops fl (i :: rest) S S'

/-- what a region must be: those that no edge puts in order are apart -/
def pairOK (E : Env) (fl : Fl) (ops : Array Oper) (p o : Oper) : Bool := p.apart ops o && ((cls E p ≤ 1 && cls E o ≤ 1) || (cls E p == 0 && cls E o == 2) || (cls E p == 2 && cls E o == 0) || (cls E p ≤ 1 && cls E o == 2 && inFl fl.cl p && inFl fl.wr o) || (cls E p == 2 && cls E o ≤ 1 && inFl fl.wr p && inFl fl.cl o))
def edgeTo (o : Oper) (p : Nat) : Bool := o.after.toList.any fun e => Region.binds .any e && e.on == p
def dstLt (N : Nat) (o : Oper) : Bool := match o.dst with | some d => d < N | none => !makes o
def dstsOf (ops : List Oper) : List Nat := ops.filterMap (·.dst)
def nodupB : List Nat → Bool
  | [] => true
  | x :: xs => !xs.contains x && nodupB xs
/-- what must have been done ahead of an operation, by one edge or several -/
inductive Reach (ops : Array Oper) : Oper → Nat → Prop
  | edge {o : Oper} {j : Nat} (h : edgeTo o j = true) : Reach ops o j
  | step {o q : Oper} {k j : Nat} (h : edgeTo o k = true) (hq : ops[k]? = some q) (r : Reach ops q j) : Reach ops o j
def orL : List Nat → Nat
  | [] => 0
  | x :: xs => x ||| orL xs
def ancM (acc : List Nat) (o : Oper) : Nat := orL ((o.after.toList.filter (Region.binds .any)).map fun e => (1 <<< e.on) ||| acc.getD e.on 0)
def ancs : List Oper → List Nat → List Nat
  | [], acc => acc
  | o :: os, acc => ancs os (acc ++ [ancM acc o])
theorem orL_bit : ∀ (l : List Nat) (j : Nat), (orL l).testBit j = true → ∃ x ∈ l, x.testBit j = true
  | [], j, h => by simp [orL] at h
  | x :: xs, j, h => by
    simp only [orL, Nat.testBit_or, Bool.or_eq_true] at h
    rcases h with h | h
    · exact ⟨x, List.mem_cons_self, h⟩
    · obtain ⟨y, hy, hb⟩ := orL_bit xs j h; exact ⟨y, List.mem_cons_of_mem _ hy, hb⟩
theorem ancM_reach {ops : Array Oper} {acc : List Nat} (ha : ∀ (k m : Nat), acc[k]? = some m → ∃ q, ops[k]? = some q ∧ ∀ j, m.testBit j = true → Reach ops q j) {o : Oper} {j : Nat} (h : (ancM acc o).testBit j = true) : Reach ops o j := by
  obtain ⟨x, hx, hb⟩ := orL_bit _ j h
  obtain ⟨e, he, rfl⟩ := List.mem_map.1 hx
  obtain ⟨h1, h2⟩ := List.mem_filter.1 he
  have hedge : edgeTo o e.on = true := List.any_eq_true.2 ⟨e, h1, by simp [h2]⟩
  simp only [Nat.testBit_or, Bool.or_eq_true] at hb
  rcases hb with hb | hb
  · have : j = e.on := by
      rw [Nat.shiftLeft_eq, Nat.one_mul, Nat.testBit_two_pow] at hb
      simpa using (of_decide_eq_true hb).symm
    subst this; exact .edge hedge
  · rw [List.getD_eq_getElem?_getD] at hb
    cases hk : acc[e.on]? with
    | none => rw [hk] at hb; simp at hb
    | some m =>
      rw [hk] at hb
      obtain ⟨q, hq, hm⟩ := ha e.on m hk
      exact .step hedge hq (hm j hb)
theorem ancs_reach {ops : Array Oper} : ∀ (os : List Oper) (acc : List Nat), (∀ j, os[j]? = ops[acc.length + j]?) → (∀ (k m : Nat), acc[k]? = some m → ∃ q, ops[k]? = some q ∧ ∀ j, m.testBit j = true → Reach ops q j) → ∀ (k m : Nat), (ancs os acc)[k]? = some m → ∃ q, ops[k]? = some q ∧ ∀ j, m.testBit j = true → Reach ops q j
  | [], acc, _, ha, k, m, h => ha k m h
  | o :: os, acc, ho, ha, k, m, h => by
    have h0 : ops[acc.length]? = some o := by have := ho 0; simpa using this.symm
    refine ancs_reach os (acc ++ [ancM acc o]) (fun j => ?_) (fun k m hk => ?_) k m h
    · have := ho (j + 1)
      rw [List.getElem?_cons_succ] at this
      rw [this, List.length_append, List.length_singleton, show acc.length + 1 + j = acc.length + (j + 1) by omega]
    · by_cases hlt : k < acc.length
      · rw [List.getElem?_append_left hlt] at hk; exact ha k m hk
      · rw [List.getElem?_append_right (by omega)] at hk
        have hk0 : k - acc.length = 0 := by
          have := (List.getElem?_eq_some_iff.1 hk).1
          simp at this; omega
        rw [hk0] at hk
        have : ancM acc o = m := by simpa using hk
        have ek : k = acc.length := by omega
        subst this ek
        exact ⟨o, h0, fun j hj => ancM_reach ha hj⟩
def regOK (E : Env) (N : Nat) (fl : Fl) (ops : Array Oper) : Bool :=
  (ops.toList.all (dstLt N)) && nodupB (dstsOf ops.toList) &&
  ops.toList.zipIdx.all fun (o, i) => (o.after.toList.all fun e => !Region.binds .any e || e.on < i) &&
    (ops.toList.zipIdx.all fun (p, j) => !(j < i) || ((ancs ops.toList []).getD i 0).testBit j || pairOK E fl ops p o)

section
variable {E : Env} {F : Fr} {σ : Sg} {ops : Array Oper} {S S' S1 : AS} {a : Act} {W : World} {N : Nat} {fl : Fl}
structure RegOK (E : Env) (N : Nat) (fl : Fl) (ops : Array Oper) : Prop where
  lt : ∀ (i : Nat) o, ops[i]? = some o → ∀ d, o.dst = some d → d < N
  md : ∀ (i : Nat) o, ops[i]? = some o → makes o = true → o.dst ≠ none
  dd : ∀ (i j : Nat) o p, ops[i]? = some o → ops[j]? = some p → i ≠ j → ∀ d, o.dst = some d → p.dst ≠ some d
  on : ∀ (i : Nat) o, ops[i]? = some o → ∀ e ∈ o.after, Region.binds .any e = true → e.on < i
  pr : ∀ (i j : Nat) o p, ops[i]? = some o → ops[j]? = some p → j < i → ¬ Reach ops o j → pairOK E fl ops p o = true
theorem nodup_dd : ∀ (l : List Oper), nodupB (dstsOf l) = true → ∀ (i j : Nat) o p, l[i]? = some o → l[j]? = some p → i < j → ∀ d, o.dst = some d → p.dst ≠ some d
  | [], h, i, j, o, p, hi, hj, hij, d, hd => by simp at hi
  | x :: l, h, i, j, o, p, hi, hj, hij, d, hd => by
    have ht : nodupB (dstsOf l) = true := by
      unfold dstsOf at h ⊢
      cases hx : x.dst with
      | none => rw [List.filterMap_cons_none hx] at h; exact h
      | some e => rw [List.filterMap_cons_some hx] at h; simp only [nodupB, Bool.and_eq_true] at h; exact h.2
    cases j with
    | zero => omega
    | succ j =>
      cases i with
      | zero =>
        simp at hi; subst hi
        intro hp
        unfold dstsOf at h
        rw [List.filterMap_cons_some hd] at h
        simp only [nodupB, Bool.and_eq_true, Bool.not_eq_true', List.contains_eq_mem, decide_eq_false_iff_not] at h
        exact h.1 (List.mem_filterMap.2 ⟨p, List.mem_of_getElem? (by simpa using hj), hp⟩)
      | succ i => exact nodup_dd l ht i j o p (by simpa using hi) (by simpa using hj) (by omega) d hd
theorem regOK_spec (h : regOK E N fl ops = true) : RegOK E N fl ops := by
  unfold regOK at h
  simp only [Bool.and_eq_true] at h
  obtain ⟨⟨h1, h2⟩, h3⟩ := h
  have hz : ∀ (i : Nat) o, ops[i]? = some o → (o, i) ∈ ops.toList.zipIdx := fun i o ho => by
    rw [List.mem_zipIdx_iff_getElem?]
    simpa using ho
  have hm : ∀ (i : Nat) o, ops[i]? = some o → o ∈ ops.toList := fun i o ho => List.mem_of_getElem? (by simpa using ho : ops.toList[i]? = some o)
  refine ⟨fun i o ho d hd => ?_, fun i o ho hmk hd => ?_, fun i j o p ho hp hij d hd hpd => ?_, fun i o ho e he hb => ?_, fun i j o p ho hp hji hne => ?_⟩
  · have := List.all_eq_true.1 h1 o (hm i o ho)
    simpa [dstLt, hd] using this
  · have := List.all_eq_true.1 h1 o (hm i o ho)
    simp [dstLt, hd, hmk] at this
  · rcases Nat.lt_or_gt_of_ne hij with h | h
    · exact nodup_dd ops.toList h2 i j o p (by simpa using ho) (by simpa using hp) h d hd hpd
    · exact nodup_dd ops.toList h2 j i p o (by simpa using hp) (by simpa using ho) h d hpd hd
  · have := List.all_eq_true.1 h3 _ (hz i o ho)
    simp only [Bool.and_eq_true] at this
    have h4 := List.all_eq_true.1 this.1 e (by simpa using he)
    simpa [hb] using h4
  · have := List.all_eq_true.1 h3 _ (hz i o ho)
    simp only [Bool.and_eq_true] at this
    have h4 := List.all_eq_true.1 this.2 _ (hz j p hp)
    simp only [hji, decide_true, Bool.not_true, Bool.false_or, Bool.or_eq_true] at h4
    rcases h4 with h4 | h4
    · exfalso
      rw [List.getD_eq_getElem?_getD] at h4
      cases hk : (ancs ops.toList [])[i]? with
      | none => rw [hk] at h4; simp at h4
      | some m =>
        rw [hk] at h4
        obtain ⟨q, hq, hm⟩ := ancs_reach (ops := ops) ops.toList [] (fun j => by simp) (fun k m hk => by simp at hk) i m hk
        rw [ho] at hq
        obtain rfl := Option.some.inj hq
        exact hne (hm j h4)
    · exact h4

def FreshL (ops : Array Oper) (l : List Nat) (S : AS) : Prop := ∀ j ∈ l, ∀ o, ops[j]? = some o → makes o = true → Absent (ids o) S
theorem ids_apart (h : RegOK E N fl ops) {i j : Nat} {o p : Oper} (ho : ops[i]? = some o) (hp : ops[j]? = some p) (hij : i ≠ j) (hmp : makes p = true) (hod : o.dst ≠ none) : ∀ k, ids o k → ¬ ids p k := by
  intro k hk1 hk2
  cases h1 : o.dst with
  | none => exact hod h1
  | some d =>
    cases h2 : p.dst with
    | none => exact h.md j p hp hmp h2
    | some e =>
      have hne : d ≠ e := fun ee => h.dd i j o p ho hp hij d h1 (by rw [h2, ee])
      simp only [ids, nid, h1, h2] at hk1 hk2
      rcases @Nat.lt_or_gt_of_ne d e hne with h | h <;> omega
theorem AApp.absent {o : Oper} {M : Nat → Prop} (st : AApp E ops S o S1) (hM : Absent M S) (hdis : ∀ i, ids o i → ¬ M i) : Absent M S1 := by
  cases st with
  | mk hw hd t s x ho e y he hy old es hs f ys hx hf hne hb hold0 habs =>
    have hn : ¬ M (nid o) := hdis _ ⟨Nat.le_refl _, by omega⟩
    unfold appS
    cases old with
    | none =>
      refine ⟨fun t => ?_, fun i b hb => ?_⟩
      · unfold updO
        cases o.dst with
        | none => exact hM.1 t
        | some d => by_cases e : t = d <;> simp only [e, if_true, if_false] <;> first | exact hn | exact hM.1 t
      · simp only at hb
        by_cases e : i = nid o
        · subst e; rw [upd_same] at hb; obtain rfl := Option.some.inj hb; exact ⟨hn, trivial⟩
        · rw [upd_ne _ _ e] at hb; exact hM.2 i b hb
    | some k =>
      refine ⟨fun t => ?_, fun i b hb => ?_⟩
      · unfold updO
        cases o.dst with
        | none => exact noT_kill_of k (hM.1 t)
        | some d => by_cases e : t = d <;> simp only [e, if_true, if_false] <;> first | exact hn | exact noT_kill_of k (hM.1 t)
      · simp only at hb
        by_cases e : i = nid o
        · subst e; rw [upd_same] at hb; obtain rfl := Option.some.inj hb; exact ⟨hn, trivial⟩
        · rw [upd_ne _ _ e] at hb
          by_cases e2 : i = k
          · subst e2; rw [upd_same] at hb; cases hb
          · rw [upd_ne _ _ e2] at hb
            obtain ⟨z, hz, rfl⟩ := Option.map_eq_some_iff.1 hb
            exact ⟨(hM.2 i z hz).1, noB_kill_of k (hM.2 i z hz).2⟩
theorem newIds_ids {o : Oper} {i : Nat} (h : newIds o i) : ids o i := h.2
/-- freshness is kept by another operation's step -/
theorem FreshL.step (h : RegOK E N fl ops) {l : List Nat} {i : Nat} {o : Oper} (ho : ops[i]? = some o) (hi : i ∉ l) (hf : FreshL ops l S) (hs : ∀ M, Absent M S → (o.dst ≠ none → ∀ k, ids o k → ¬ M k) → Absent M S1) : FreshL ops l S1 := fun j hj p hp hm =>
  hs _ (hf j hj p hp hm) (fun hd => ids_apart h ho hp (fun e => hi (e ▸ hj)) hm hd)
theorem step_fresh {o : Oper} {v : V} {δ : Dl} (st : AStep E ops S o v δ) (hR : makes o = true → o.dst ≠ none) : ∀ M, Absent M S → (o.dst ≠ none → ∀ k, ids o k → ¬ M k) → Absent M (after S o v δ) := fun M hM hd => st.absent hM (fun k hk => hd (hR hk.1) k hk.2)

def Step1 (E : Env) (ops : Array Oper) (fl : Fl) (S : AS) (i : Nat) (S1 : AS) : Prop := ∃ o, ops[i]? = some o ∧ ((∃ v δ, AStep E ops S o v δ ∧ Flag fl o S.T ∧ S1 = after S o v δ) ∨ AApp E ops S o S1)
theorem ARun.front (h : RegOK E N fl ops) {i : Nat} {o : Oper} (ho : ops[i]? = some o) {post : List Nat} : ∀ (pre : List Nat) (S : AS), (∀ p ∈ pre, p < i ∧ ¬ Reach ops o p) → (pre ++ i :: post).Nodup → FreshL ops (pre ++ i :: post) S → ARun E ops fl (pre ++ i :: post) S S' →
    ∃ S1, Step1 E ops fl S i S1 ∧ ARun E ops fl (pre ++ post) S1 S'
  | [], S, _, _, _, hr => by
    cases hr with
    | cons ho' st hfl t => exact ⟨_, ⟨_, ho', .inl ⟨_, _, st, hfl, rfl⟩⟩, t⟩
    | app ho' st t => exact ⟨_, ⟨_, ho', .inr st⟩, t⟩
  | p :: pre, S, hp, hnd, hf, hr => by
    have hnd' := List.nodup_cons.1 hnd
    obtain ⟨hpi, hpe⟩ := hp p List.mem_cons_self
    cases hr with
    | cons hop st hfl t =>
      rename_i op v δ
      have hpk := h.pr i p o op ho hop hpi hpe
      have hf' : FreshL ops (pre ++ i :: post) (after S op v δ) := FreshL.step h hop hnd'.1 (fun j hj => hf j (List.mem_cons_of_mem _ hj)) (step_fresh st (h.md p op hop))
      obtain ⟨S1, ⟨o', ho', hst⟩, ht⟩ := ARun.front h ho pre _ (fun q hq => hp q (List.mem_cons_of_mem _ hq)) hnd'.2 hf' t
      rw [ho] at ho'
      obtain rfl := Option.some.inj ho'
      unfold pairOK at hpk
      simp only [Bool.and_eq_true, Bool.or_eq_true, decide_eq_true_eq, beq_iff_eq] at hpk
      rcases hst with ⟨v2, δ2, st2, hfl2, rfl⟩ | happ
      · obtain ⟨a1, a2, a3⟩ := Oper.apart_spec hpk.1
        have t1 : ∀ x ∈ o.looksAt ops, S.T x = (after S op v δ).T x := fun x hx => (after_T S op v δ (fun d hd e => a1 d hd (e ▸ hx))).symm
        have t2 : ∀ x ∈ op.looksAt ops, (after S o v2 δ2).T x = S.T x := fun x hx => after_T S o v2 δ2 (fun d hd e => a3 d hd (e ▸ hx))
        have hflo : Flag fl o S.T := hfl2.alike t1
        obtain ⟨c1, c2, c3⟩ := st.comm st2 hpk.1 (by
          rcases hpk.2 with (((h1 | h1) | h1) | h1) | h1
          · exact .inl h1
          · exact .inr (.inl h1)
          · exact .inr (.inr (.inl h1))
          · exact .inr (.inr (.inr (.inl ⟨h1.1.1.1, h1.1.1.2, hfl.1 h1.1.2, hflo.2 h1.2⟩)))
          · exact .inr (.inr (.inr (.inr ⟨h1.1.1.1, h1.1.1.2, hfl.2 h1.1.2, hflo.1 h1.2⟩)))) (hf p List.mem_cons_self op hop) (hf i (by simp) o ho)
        refine ⟨_, ⟨o, ho, .inl ⟨v2, δ2, c1, hflo, rfl⟩⟩, ?_⟩
        refine ARun.cons hop c2 (hfl.alike t2) ?_
        rw [c3]; exact ht
      · exfalso
        have hc : cls E o = 3 := by
          cases happ with
          | mk hw hd t s x hoo => unfold cls; rw [hoo]
        rcases hpk.2 with (((h1 | h1) | h1) | h1) | h1 <;> omega
    | app hop st t =>
      rename_i Sx op
      have hpk := h.pr i p o op ho hop hpi hpe
      unfold pairOK at hpk
      simp only [Bool.and_eq_true, Bool.or_eq_true, decide_eq_true_eq, beq_iff_eq] at hpk
      exfalso
      have hc : cls E op = 3 := by
        cases st with
        | mk hw hd t s x hoo => unfold cls; rw [hoo]
      rcases hpk.2 with (((h1 | h1) | h1) | h1) | h1 <;> omega
/-- a step of the region is what the machine does -/
theorem Step1.sound (hP : F.P = E.P) (hN : F.N = N) (hR : RegOK E N fl ops) {i : Nat} (st : Step1 E ops fl S i S1) (h : Sim F σ S a W) (hf : ∀ o, ops[i]? = some o → makes o = true → Absent (ids o) S) {K : Act → World → Prop} {Q : Exit → Act → World → Prop}
    (hK : ∀ a' W' σ', Sim F σ' S1 a' W' → K a' W') : wpOp E.P ops Q i K a W := by
  obtain ⟨o, ho, ⟨v, δ, st, hfl, rfl⟩ | st⟩ := st
  · exact st.sound hP h (fun k hk => by rw [hN]; exact hR.lt i o ho k hk) (hf o ho) ho hK
  · cases st with
    | mk hw hd t s x hoo e y he hy old es hs f ys hx hfs hne hb hold0 habs =>
      have hes : ∀ e ∈ es, e.length = y.size := by
        rcases hs with ⟨_, _, rfl⟩ | ⟨k, _, _, hB⟩
        · simp
        · obtain ⟨cur, _, _, _, _, _, _, h4, _⟩ := h.b k _ hB; exact h4
      obtain ⟨c, W', σ', hr, hs'⟩ := append_sound E hP h o hoo (fun k hk => by rw [hN]; exact hR.lt i o ho k hk) he hy (nid o) hs hx hfs rfl hes hne hb (nid_pos hd) hold0 habs
      unfold wpOp
      simp only [ho]
      rw [wanted_of h hw]
      simp only [if_true]
      refine .inl ?_
      unfold Oper.wp
      rw [hr]
      exact hK _ _ _ hs'
theorem Step1.fresh (hR : RegOK E N fl ops) {i : Nat} (st : Step1 E ops fl S i S1) {l : List Nat} (hi : i ∉ l) (hf : FreshL ops l S) : FreshL ops l S1 := by
  obtain ⟨o, ho, ⟨v, δ, st, hfl, rfl⟩ | st⟩ := st
  · exact FreshL.step hR ho hi hf (step_fresh st (hR.md i o ho))
  · refine FreshL.step hR ho hi hf (fun M hM hd => ?_)
    have hdn : o.dst ≠ none := by cases st with | mk hw hd => exact hd
    exact st.absent hM (hd hdn)
end
end Go.Proofs.YtfakhgopbhnocaaVM
namespace Go.Proofs.YtfakhgopbhnocaaVM
open Go

/-! ### regions, in whatever order -/
def remaining (ops : Array Oper) (listed : Array Bool) : List Nat := (List.range ops.size).filter fun i => !listed.getD i true
section
variable {E : Env} {F : Fr} {σ : Sg} {ops : Array Oper} {S S' S1 : AS} {a : Act} {W : World} {N : Nat} {fl : Fl}
theorem remaining_nodup (listed : Array Bool) : (remaining ops listed).Nodup := List.Nodup.sublist List.filter_sublist List.nodup_range
theorem remaining_sorted (listed : Array Bool) : (remaining ops listed).Pairwise (· < ·) := List.Pairwise.filter _ List.pairwise_lt_range
theorem mem_remaining {listed : Array Bool} {i : Nat} : i ∈ remaining ops listed ↔ i < ops.size ∧ listed.getD i true = false := by
  unfold remaining
  rw [List.mem_filter, List.mem_range]
  simp
theorem getD_same {listed : Array Bool} {i : Nat} (h : i < listed.size) (b c : Bool) : listed.getD i b = listed.getD i c := by
  simp [Array.getD_eq_getD_getElem?, Array.getElem?_eq_getElem h]
theorem remaining_set {listed : Array Bool} (hs : listed.size = ops.size) {i : Nat} {pre post : List Nat} (h : remaining ops listed = pre ++ i :: post) : remaining ops (listed.setIfInBounds i true) = pre ++ post := by
  have hnd := remaining_nodup (ops := ops) listed
  rw [h] at hnd
  have e : remaining ops (listed.setIfInBounds i true) = (remaining ops listed).filter (fun j => j != i) := by
    unfold remaining
    rw [List.filter_filter]
    apply List.filter_congr
    intro j hj
    have hj' : j < listed.size := by rw [hs]; exact List.mem_range.1 hj
    by_cases hji : j = i
    · subst hji
      simp [Array.getD_eq_getD_getElem?, hj']
    · have : (listed.setIfInBounds i true).getD j true = listed.getD j true := by
        simp only [Array.getD_eq_getD_getElem?]
        rw [Array.getElem?_setIfInBounds_ne (fun e => hji e.symm)]
      simp [this, hji]
  rw [e, h, List.filter_append, List.filter_cons]
  rw [List.nodup_append] at hnd
  obtain ⟨n1, n2, n3⟩ := hnd
  have n2' := List.nodup_cons.1 n2
  have f1 : pre.filter (fun j => j != i) = pre := List.filter_eq_self.2 fun j hj => by
    have := n3 j hj i List.mem_cons_self
    simpa using this
  have f2 : post.filter (fun j => j != i) = post := List.filter_eq_self.2 fun j hj => by
    have : j ≠ i := fun e => n2'.1 (e ▸ hj)
    simpa using this
  rw [f1, f2]
  simp
theorem ready_spec {listed : Array Bool} {i : Nat} (h : i ∈ Region.ready .any ops listed) : i ∈ remaining ops listed ∧ ∀ o, ops[i]? = some o → ∀ e ∈ o.after, Region.binds .any e = true → listed.getD e.on false = true := by
  unfold Region.ready at h
  rw [List.mem_filter] at h
  obtain ⟨h1, h2⟩ := h
  simp only [Bool.and_eq_true, Bool.not_eq_true'] at h2
  refine ⟨mem_remaining.2 ⟨List.mem_range.1 h1, h2.1⟩, fun o ho e he hb => ?_⟩
  have h3 := h2.2
  rw [ho] at h3
  simp only [Option.map_some, Option.getD_some, Array.all_eq_true'] at h3
  have := h3 e he
  simpa [hb] using this
theorem wpAny_run (hP : F.P = E.P) (hN : F.N = N) (hR : RegOK E N fl ops) {Q : Exit → Act → World → Prop} (hQ : ∀ a' W' σ', Sim F σ' S' a' W' → Q .normal a' W') : ∀ (fuel : Nat) (listed : Array Bool) (σ : Sg) (S : AS) (a : Act) (W : World), (∀ k o, ops[k]? = some o → listed.getD k false = true → ∀ e ∈ o.after, Region.binds .any e = true → listed.getD e.on false = true) → listed.size = ops.size → (remaining ops listed).length ≤ fuel →
    ARun E ops fl (remaining ops listed) S S' → FreshL ops (remaining ops listed) S → Sim F σ S a W → wpAny E.P .any ops Q fuel listed a W := by
  have done : ∀ (listed : Array Bool) (σ : Sg) (S : AS) (a : Act) (W : World), listed.size = ops.size → ARun E ops fl (remaining ops listed) S S' → Sim F σ S a W → Region.ready .any ops listed = [] → Q .normal a W := fun listed σ S a W hs hr hsim h0 => by
    cases hrem : remaining ops listed with
    | nil =>
      rw [hrem] at hr
      cases hr
      exact hQ a W σ hsim
    | cons i rest =>
      exfalso
      have hi : i ∈ remaining ops listed := by rw [hrem]; exact List.mem_cons_self
      obtain ⟨hil, hif⟩ := mem_remaining.1 hi
      have hready : i ∈ Region.ready .any ops listed := by
        unfold Region.ready
        rw [List.mem_filter]
        refine ⟨List.mem_range.2 hil, ?_⟩
        simp only [Bool.and_eq_true, Bool.not_eq_true']
        refine ⟨hif, ?_⟩
        have ho : ops[i]? = some ops[i] := Array.getElem?_eq_getElem hil
        rw [ho]
        simp only [Option.map_some, Option.getD_some, Array.all_eq_true']
        intro e he
        by_cases hb : Region.binds .any e = true
        · have hlt := hR.on i _ ho e he hb
          have hn : e.on ∉ remaining ops listed := fun hm => by
            have hsrt := remaining_sorted (ops := ops) listed
            rw [hrem] at hsrt hm
            rcases List.mem_cons.1 hm with h | h
            · omega
            · have := (List.pairwise_cons.1 hsrt).1 _ h; omega
          have : listed.getD e.on true = true := by
            cases hx : listed.getD e.on true with
            | true => rfl
            | false => exact absurd (mem_remaining.2 ⟨by omega, hx⟩) hn
          rw [getD_same (by omega) false true, this]
          simp
        · simp [Bool.eq_false_iff.2 hb]
      rw [h0] at hready
      cases hready
  intro fuel
  induction fuel with
  | zero =>
    intro listed σ S a W hcl hs hl hr hf hsim
    have hn : remaining ops listed = [] := List.eq_nil_of_length_eq_zero (by omega)
    have h0 : Region.ready .any ops listed = [] := by
      rw [List.eq_nil_iff_forall_not_mem]
      intro i hi
      have := (ready_spec hi).1
      rw [hn] at this
      cases this
    exact ⟨h0, done listed σ S a W hs hr hsim h0⟩
  | succ fuel ih =>
    intro listed σ S a W hcl hs hl hr hf hsim
    refine ⟨done listed σ S a W hs hr hsim, fun i hi => ?_⟩
    obtain ⟨hm, hedge⟩ := ready_spec hi
    obtain ⟨hil, hif⟩ := mem_remaining.1 hm
    have ho : ops[i]? = some ops[i] := Array.getElem?_eq_getElem hil
    obtain ⟨pre, post, hsplit⟩ := List.append_of_mem hm
    have hset := remaining_set hs hsplit
    have hnd := remaining_nodup (ops := ops) listed
    have hsrt := remaining_sorted (ops := ops) listed
    rw [hsplit] at hr hf hnd hsrt hl
    have hall : ∀ (o : Oper) (j : Nat), Reach ops o j → (∀ e ∈ o.after, Region.binds .any e = true → listed.getD e.on false = true) → listed.getD j false = true := by
      have edge : ∀ (o : Oper) (j : Nat), edgeTo o j = true → (∀ e ∈ o.after, Region.binds .any e = true → listed.getD e.on false = true) → listed.getD j false = true := fun o j he hh => by
        unfold edgeTo at he
        obtain ⟨e, hem, hee⟩ := List.any_eq_true.1 he
        simp only [Bool.and_eq_true, beq_iff_eq] at hee
        have := hh e (by simpa using hem) hee.1
        rwa [hee.2] at this
      intro o j hr
      induction hr with
      | edge he => exact edge _ _ he
      | step he hq r ih => exact fun hh => ih (hcl _ _ hq (edge _ _ he hh))
    have hpre : ∀ p ∈ pre, p < i ∧ ¬ Reach ops ops[i] p := fun p hp => by
      have hlt : p < i := (List.pairwise_append.1 hsrt).2.2 p hp i List.mem_cons_self
      refine ⟨hlt, fun hr => ?_⟩
      have hpm : p ∈ remaining ops listed := by rw [hsplit]; exact List.mem_append_left _ hp
      obtain ⟨hpl, hpf⟩ := mem_remaining.1 hpm
      have := hall _ _ hr (hedge _ ho)
      rw [getD_same (by omega) false true, hpf] at this
      cases this
    obtain ⟨S1, hst, hrest⟩ := ARun.front hR ho pre S hpre hnd hf hr
    have hin : i ∉ pre ++ post := by
      intro h
      rw [List.nodup_append] at hnd
      obtain ⟨n1, n2, n3⟩ := hnd
      rcases List.mem_append.1 h with h | h
      · exact n3 i h i List.mem_cons_self rfl
      · exact (List.nodup_cons.1 n2).1 h
    have hf1 : FreshL ops (pre ++ post) S1 := hst.fresh hR hin (fun j hj => hf j (by
      rcases List.mem_append.1 hj with h | h
      · exact List.mem_append_left _ h
      · exact List.mem_append_right _ (List.mem_cons_of_mem _ h)))
    refine hst.sound hP hN hR hsim (fun o ho' hmk => hf i (by simp) o ho' hmk) (fun a' W' σ' hs' => ?_)
    have hset1 : ∀ k, listed.getD k false = true → (listed.setIfInBounds i true).getD k false = true := fun k hk => by
      by_cases e : k = i
      · subst e; simp only [Array.getD_eq_getD_getElem?]; rw [Array.getElem?_setIfInBounds_self_of_lt (by omega)]; rfl
      · simp only [Array.getD_eq_getD_getElem?] at hk ⊢; rw [Array.getElem?_setIfInBounds_ne (fun h => e h.symm)]; exact hk
    refine ih (listed.setIfInBounds i true) σ' S1 a' W' (fun k o hk hl e he hb => hset1 _ ?_) (by simpa using hs) ?_ (by rw [hset]; exact hrest) (by rw [hset]; exact hf1) hs'
    · by_cases ek : k = i
      · subst ek; rw [ho] at hk; obtain rfl := Option.some.inj hk; exact hedge _ ho e he hb
      · simp only [Array.getD_eq_getD_getElem?] at hl
        rw [Array.getElem?_setIfInBounds_ne (fun h => ek h.symm)] at hl
        exact hcl k o hk (by simpa only [Array.getD_eq_getD_getElem?] using hl) e he hb
    rw [hset]
    simp only [List.length_append, List.length_cons] at hl ⊢
    omega
theorem wpOps_run (hP : F.P = E.P) (hN : F.N = N) (hR : RegOK E N fl ops) {Q : Exit → Act → World → Prop} (hQ : ∀ a' W' σ', Sim F σ' S' a' W' → Q .normal a' W') : ∀ (l : List Nat) (σ : Sg) (S : AS) (a : Act) (W : World), l.Nodup →
    ARun E ops fl l S S' → FreshL ops l S → Sim F σ S a W → wpOps E.P ops Q l a W
  | [], σ, S, a, W, _, hr, _, hs => by cases hr; exact hQ a W σ hs
  | i :: l, σ, S, a, W, hnd, hr, hf, hs => by
    have hnd' := List.nodup_cons.1 hnd
    rw [wpOps_cons]
    obtain ⟨S1, hst, ht⟩ : ∃ S1, Step1 E ops fl S i S1 ∧ ARun E ops fl l S1 S' := by
      cases hr with
      | cons ho st hfl t => exact ⟨_, ⟨_, ho, .inl ⟨_, _, st, hfl, rfl⟩⟩, t⟩
      | app ho st t => exact ⟨_, ⟨_, ho, .inr st⟩, t⟩
    refine hst.sound hP hN hR hs (fun o ho hm => hf i List.mem_cons_self o ho hm) (fun a' W' σ' hs' => ?_)
    exact wpOps_run hP hN hR hQ l σ' S1 a' W' hnd'.2 ht (hst.fresh hR hnd'.1 (fun j hj => hf j (List.mem_cons_of_mem _ hj))) hs'
end

/-! ### code -/
def AW (E : Env) (N : Nat) (c : Code) (S : AS) (Q : Exit → AS → Prop) : Prop :=
  ∀ (F : Fr), F.P = E.P → F.N = N → ∀ (σ : Sg) (a : Act) (W : World), Sim F σ S a W → c.wp E.P (fun e a' W' => ∃ σ' S', Sim F σ' S' a' W' ∧ Q e S') a W
def thenQ (K : AS → Prop) (Q : Exit → AS → Prop) : Exit → AS → Prop
  | .normal, S => K S
  | e, S => Q e S
def blockQ (id : Nat) (Q : Exit → AS → Prop) : Exit → AS → Prop
  | .exit k, S => if k = id then Q .normal S else Q (.exit k) S
  | e, S => Q e S
section
variable {E : Env} {N : Nat} {fl : Fl} {S : AS} {Q : Exit → AS → Prop}
theorem AW_mono {c : Code} {Q' : Exit → AS → Prop} (h : AW E N c S Q') (hq : ∀ e S, Q' e S → Q e S) : AW E N c S Q := fun F hP hN σ a W hs => wp_mono (h F hP hN σ a W hs) fun e a' W' ⟨σ', S', h1, h2⟩ => ⟨σ', S', h1, hq _ _ h2⟩
theorem AW_skip (h : Q .normal S) : AW E N .skip S Q := fun F hP hN σ a W hs => wp_skip ⟨σ, S, hs, h⟩
theorem AW_exit {id : Nat} (h : Q (.exit id) S) : AW E N (.exit id) S Q := fun F hP hN σ a W hs => wp_exit ⟨σ, S, hs, h⟩
theorem AW_ret (h : Q .ret S) : AW E N .ret S Q := fun F hP hN σ a W hs => wp_ret ⟨σ, S, hs, h⟩
theorem AW_seqI {x y : Code} (I : AS → Prop) (h1 : AW E N x S (thenQ I Q)) (h2 : ∀ S', I S' → AW E N y S' Q) : AW E N (.seq x y) S Q := fun F hP hN σ a W hs => by
  refine wp_seq (wp_mono (h1 F hP hN σ a W hs) ?_)
  rintro e a' W' ⟨σ', S', hs', hq⟩
  cases e with
  | normal => exact h2 S' hq F hP hN σ' a' W' hs'
  | _ => exact ⟨σ', S', hs', hq⟩
theorem AW_seq {x y : Code} (h : AW E N x S (thenQ (fun S' => AW E N y S' Q) Q)) : AW E N (.seq x y) S Q := AW_seqI _ h fun _ h => h
theorem AW_cond {c : Operand} {x y : Code} {b : Bool} (hc : ev S.T c = .bool b) (h1 : b = true → AW E N x S Q) (h2 : b = false → AW E N y S Q) : AW E N (.cond c x y) S Q := fun F hP hN σ a W hs => by
  have := hs.ev c
  rw [hc] at this
  exact wp_cond_split this.bool_ (fun h => h1 h F hP hN σ a W hs) (fun h => h2 h F hP hN σ a W hs)
theorem AW_block {id : Nat} {c : Code} (h : AW E N c S (blockQ id Q)) : AW E N (.block id c) S Q := fun F hP hN σ a W hs => by
  refine wp_block (wp_mono (h F hP hN σ a W hs) ?_)
  rintro e a' W' ⟨σ', S', hs', hq⟩
  cases e with
  | exit k =>
    simp only [blockQ] at hq
    simp only [Exit.inBlock]
    split
    · next h => rw [if_pos h] at hq; exact ⟨σ', S', hs', hq⟩
    · next h => rw [if_neg h] at hq; exact ⟨σ', S', hs', hq⟩
  | _ => exact ⟨σ', S', hs', hq⟩
/-- a loop by the rounds that are left -/
theorem wp_loopI {P : Program} {c : Code} {Q : Exit → Act → World → Prop} (R : Nat → Act → World → Prop) {n : Nat} {a : Act} {w : World} (h₀ : R n a w)
    (round : ∀ n a w, R n a w → c.wp P (Exit.then (fun a' w' => ∃ m, m < n ∧ R m a' w') Q) a w) : (Code.loop c).wp P Q a w := by
  intro b k cs
  have key : ∀ n a w, R n a w →
      ∃ e a' w', Q e a' w' ∧ Arrives P (lone (b.at a (.code c :: .inLoop c :: k)) cs w) b k cs e a' w' := by
    intro n
    induction n using Nat.strongRecOn with
    | _ n ih =>
      intro a w hI
      obtain ⟨e, a₁, w₁, hq, harr⟩ := round n a w hI b (.inLoop c :: k) cs
      cases e with
      | normal =>
        obtain ⟨m, hlt, hI₁⟩ := hq
        obtain ⟨e₂, a₂, w₂, hq₂, harr₂⟩ := ih m hlt a₁ w₁ hI₁
        exact ⟨e₂, a₂, w₂, hq₂, .of_steps (Steps.trans harr (.one step_inLoop)) harr₂⟩
      | exit id => exact ⟨_, a₁, w₁, hq, .pass (x := .inLoop c) rfl (fun _ _ => .inl (by simp)) harr⟩
      | goto l => exact ⟨_, a₁, w₁, hq, .pass (x := .inLoop c) rfl (fun _ _ => .inl (by simp)) harr⟩
      | ret => exact ⟨_, a₁, w₁, hq, .pass (x := .inLoop c) rfl (fun _ _ => .inl (by simp)) harr⟩
      | panic ch => exact ⟨_, a₁, w₁, hq, .pass (x := .inLoop c) rfl (fun _ _ => .inl (by simp)) harr⟩
      | outgrown => exact ⟨_, a₁, w₁, hq, .pass (x := .inLoop c) rfl (fun _ _ => .inl (by simp)) harr⟩
  obtain ⟨e, a', w', hq, harr⟩ := key _ a w h₀
  exact ⟨e, a', w', hq, .of_steps (.one step_loop) harr⟩
theorem AW_loop {c : Code} (R : Nat → AS → Prop) {n : Nat} (h0 : R n S) (round : ∀ n S, R n S → AW E N c S (thenQ (fun S' => ∃ m, m < n ∧ R m S') Q)) : AW E N (.loop c) S Q := fun F hP hN σ a W hs => by
  refine wp_loopI (fun n a W => ∃ σ S, Sim F σ S a W ∧ R n S) ⟨σ, S, hs, h0⟩ ?_
  rintro n a W ⟨σ, S, hs, hr⟩
  refine wp_mono (round n S hr F hP hN σ a W hs) ?_
  rintro e a' W' ⟨σ', S', hs', hq⟩
  cases e with
  | normal => obtain ⟨m, hm, hr'⟩ := hq; exact ⟨m, hm, σ', S', hs', hr'⟩
  | _ => exact ⟨σ', S', hs', hq⟩
theorem AW_region {id : Nat} {l : List Oper} {draw : Bool} {S' : AS} (hok : regOK E N fl l.toArray = true) (hf : FreshL l.toArray (List.range l.length) S) (hr : ARun E l.toArray fl (List.range l.length) S S') (T : Nat → V) (B : Nat → Option Blk) (hT : ∀ t, T t = S'.T t ∨ T t = .und) (hB : ∀ i, B i = S'.B i ∨ B i = none)
    (hk : Q .normal ⟨T, B⟩) : AW E N (.region id l.toArray draw) S Q := fun F hP hN σ a W hs => by
  have hR := regOK_spec hok
  have hl : l.toArray.size = l.length := by simp
  have hq : ∀ a' W' σ', Sim F σ' S' a' W' → ∃ σ' S', Sim F σ' S' a' W' ∧ Q .normal S' := fun a' W' σ' h => ⟨σ', ⟨T, B⟩, h.forget T B hT hB, hk⟩
  cases draw with
  | false => exact wp_region (wpOps_run hP hN hR hq (List.range l.toArray.size) σ S a W List.nodup_range (by rw [hl]; exact hr) (by rw [hl]; exact hf) hs)
  | true =>
    refine wp_region_any E.mixed ?_
    have hrem : remaining l.toArray (Array.replicate l.toArray.size false) = List.range l.length := by
      unfold remaining
      rw [hl]
      refine List.filter_eq_self.2 fun j hj => ?_
      have := List.mem_range.1 hj
      simp [Array.getD_eq_getD_getElem?, this]
    refine wpAny_run hP hN hR hq l.toArray.size (Array.replicate l.toArray.size false) σ S a _ (fun k o hk hl => by simp [Array.getD_eq_getD_getElem?, Array.getElem?_replicate] at hl; split at hl <;> simp at hl) (by simp) (by rw [hrem]; simp) (by rw [hrem]; exact hr) (by rw [hrem]; exact hf) (hs.drew rfl rfl rfl rfl)
theorem AW_forget {c : Code} (T : Nat → V) (B : Nat → Option Blk) (hT : ∀ t, T t = S.T t ∨ T t = .und) (hB : ∀ i, B i = S.B i ∨ B i = none) (h : AW E N c ⟨T, B⟩ Q) : AW E N c S Q := fun F hP hN σ a W hs => h F hP hN σ a W (hs.forget T B hT hB)
end
end Go.Proofs.YtfakhgopbhnocaaVM
