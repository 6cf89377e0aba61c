/- The value machine: what a call computes, told as values; part 2. Every operation of the machine stands for what the model does. -/
import Derived.Test.YtfakhgopbhnocaaVMa
set_option linter.unusedVariables false
set_option linter.unusedSimpArgs false
namespace Go.Proofs.YtfakhgopbhnocaaVM
open Go

/-! ### what a function hands back -/
inductive RV where
  | tmp (t : Nat)
  | cell (t : Nat) (ty : TypeId)
def RV.toRes : RV → ResultVar
  | .tmp t => .tmp t
  | .cell t ty => .cell t ty
def ret1 (E : Env) (S : AS) : RV → Option (Prop × V)
  | .tmp t => some (True, S.T t)
  | .cell t ty => match E.ti ty with
    | some y => qLoad E y S.B (S.T t)
    | none => none
def rets (E : Env) (S : AS) : List RV → Option (Prop × List V)
  | [] => some (True, [])
  | r :: rs => match ret1 E S r, rets E S rs with
    | some (C, v), some (D, vs) => some (C ∧ D, v :: vs)
    | _, _ => none
def posOf : List Nat → Nat → Nat → Option Nat
  | [], _, _ => none
  | x :: xs, k, i => bif x == i then some k else posOf xs (k + 1) i
def outL (B : Nat → Option Blk) (ids : List Nat) : V → Option V
  | .int k n => some (.int k n)
  | .bool b => some (.bool b)
  | .nil => some .nil
  | .und => some .und
  | .sl true s es => some (.sl true s es)
  | .ref i => match posOf ids 0 i with
    | some j => some (.ref j)
    | none => match B i with
      | some (.row _ s es) => some (.sl true s es)
      | _ => none
  | _ => none
def outLs (B : Nat → Option Blk) (ids : List Nat) : List V → Option (List V)
  | [] => some []
  | v :: vs => match outL B ids v, outLs B ids vs with
    | some w, some ws => some (w :: ws)
    | _, _ => none
def outA (B : Nat → Option Blk) (ids : List Nat) : V → Option V
  | .agg cs => match outLs B ids cs with
    | some ws => some (.agg ws)
    | none => none
  | v => outL B ids v
def outAs (B : Nat → Option Blk) (ids : List Nat) : List V → Option (List V)
  | [] => some []
  | v :: vs => match outA B ids v, outAs B ids vs with
    | some w, some ws => some (w :: ws)
    | _, _ => none
def tup1 : List V → V
  | [v] => v
  | vs => .tup vs
def wrap1 (u : Value) : V → V
  | .int k n => .int k n
  | .bool b => .bool b
  | v => .con u v
def wrapL (us : Nat → Value) : Nat → List V → List V
  | _, [] => []
  | k, v :: vs => wrap1 (us k) v :: wrapL us (k + 1) vs
def rowsAt (B : Nat → Option Blk) : List Nat → List RowD → Prop
  | [], [] => True
  | i :: ids, r :: rs => B i = some (.row r.1 r.2.1 r.2.2) ∧ rowsAt B ids rs
  | _, _ => False
def memQ (B : Nat → Option Blk) (us : Nat → Value) (mem mem' : Option (List V)) : Prop :=
  match mem, mem' with
  | none, none => True
  | some cs, some cs' => B 0 = some (.box (wrapL us 0 cs')) ∧ cs'.length = cs.length
  | _, _ => False
/-- an empty row may be told as a fixed one -/
def wk0 : V → V → Prop
  | .nil, .sl _ _ es => es = []
  | v, w => v = w
def wkL : List V → List V → Prop
  | [], [] => True
  | v :: vs, w :: ws => wk0 v w ∧ wkL vs ws
  | _, _ => False
def wkA : V → V → Prop
  | .agg cs, .agg ds => wkL cs ds
  | v, w => wk0 v w
def wkAs : List V → List V → Prop
  | [], [] => True
  | v :: vs, w :: ws => wkA v w ∧ wkAs vs ws
  | _, _ => False
def wkT : V → V → Prop
  | .tup cs, .tup ds => wkAs cs ds
  | v, w => wkA v w
section
variable {W : World} {D : Bool → Nat → Prop} {σ : Sg}
theorem wk0_or {v w : V} (h : wk0 v w) : v = w ∨ (v = .nil ∧ ∃ f s, w = .sl f s []) := by
  unfold wk0 at h
  split at h
  · subst h; exact .inr ⟨rfl, _, _, rfl⟩
  · exact .inl h
theorem nil_sl {f : Bool} {s : Nat} {c : Value} (h : c = .slice none 0 0) : RepC W (D f) (.sl f s []) c := by
  subst h
  exact .sl f s [] none 0 ⟨0, 0, none⟩ (fun _ _ => undef) (by simp) (by simp) (by simp) (by simp)
theorem wk0_rep {v w : V} {c : Value} (h : wk0 v w) (hr : RepL W D σ v c) : RepL W D σ w c := by
  rcases wk0_or h with rfl | ⟨rfl, f, s, rfl⟩
  · exact hr
  · exact nil_sl (W := W) (D := D) hr
theorem wk0_repA {v w : V} {c : Value} (h : wk0 v w) (hr : RepA W D σ v c) : RepA W D σ w c := by
  rcases wk0_or h with rfl | ⟨rfl, f, s, rfl⟩
  · exact hr
  · exact nil_sl (W := W) (D := D) hr
theorem wk0_repT {v w : V} {c : Value} (h : wk0 v w) (hr : RepT W D σ v c) : RepT W D σ w c := by
  rcases wk0_or h with rfl | ⟨rfl, f, s, rfl⟩
  · exact hr
  · exact nil_sl (W := W) (D := D) hr
theorem wkL_get : ∀ (vs ws : List V), wkL vs ws → ws.length = vs.length ∧ ∀ (j : Nat) w, ws[j]? = some w → ∃ v, vs[j]? = some v ∧ wk0 v w
  | [], [], _ => ⟨rfl, fun j w h => by simp at h⟩
  | v :: vs, w :: ws, h => by
    obtain ⟨h1, h2⟩ := wkL_get vs ws h.2
    refine ⟨by simp [h1], fun j u hu => ?_⟩
    cases j with
    | zero => simp at hu; subst hu; exact ⟨v, rfl, h.1⟩
    | succ j => simpa using h2 j u (by simpa using hu)
  | [], _ :: _, h => h.elim
  | _ :: _, [], h => h.elim
theorem wkA_rep {v w : V} {c : Value} (h : wkA v w) (hr : RepA W D σ v c) : RepA W D σ w c := by
  unfold wkA at h
  split at h
  · next cs ds =>
    obtain ⟨h1, h2⟩ := wkL_get cs ds h
    obtain ⟨a, rfl, h3, h4⟩ := hr
    refine ⟨a, rfl, by rw [h3, h1], fun j u hu => ?_⟩
    obtain ⟨v, hv, hw⟩ := h2 j u hu
    obtain ⟨x, hx, hrx⟩ := h4 j v hv
    exact ⟨x, hx, wk0_rep hw hrx⟩
  · exact wk0_repA h hr
theorem wkA_repT {v w : V} {c : Value} (h : wkA v w) (hr : RepT W D σ v c) (hn : ∀ cs, v ≠ .tup cs) : RepT W D σ w c := by
  unfold wkA at h
  split at h
  · next cs ds => exact RepT_ofA (wkA_rep (v := .agg cs) (w := .agg ds) h hr)
  · exact wk0_repT h hr
theorem wkAs_get : ∀ (vs ws : List V), wkAs vs ws → ws.length = vs.length ∧ ∀ (j : Nat) w, ws[j]? = some w → ∃ v, vs[j]? = some v ∧ wkA v w
  | [], [], _ => ⟨rfl, fun j w h => by simp at h⟩
  | v :: vs, w :: ws, h => by
    obtain ⟨h1, h2⟩ := wkAs_get vs ws h.2
    refine ⟨by simp [h1], fun j u hu => ?_⟩
    cases j with
    | zero => simp at hu; subst hu; exact ⟨v, rfl, h.1⟩
    | succ j => simpa using h2 j u (by simpa using hu)
  | [], _ :: _, h => h.elim
  | _ :: _, [], h => h.elim
theorem wkT_rep {v w : V} {c : Value} (h : wkT v w) (hr : RepT W D σ v c) : RepT W D σ w c := by
  unfold wkT at h
  split at h
  · next cs ds =>
    obtain ⟨h1, h2⟩ := wkAs_get cs ds h
    obtain ⟨a, rfl, h3, h4⟩ := hr
    refine ⟨a, rfl, by rw [h3, h1], fun j u hu => ?_⟩
    obtain ⟨v, hv, hw⟩ := h2 j u hu
    obtain ⟨x, hx, hrx⟩ := h4 j v hv
    exact ⟨x, hx, wkA_rep hw hrx⟩
  · next hn =>
    by_cases ht : ∃ cs, v = .tup cs
    · obtain ⟨cs, rfl⟩ := ht
      have h' : wk0 (.tup cs) w := h
      rcases wk0_or h' with e | ⟨e, _⟩
      · exact (hn cs cs rfl e.symm).elim
      · cases e
    · exact wkA_repT h hr (fun cs e => ht ⟨cs, e⟩)
end
theorem FnV.weak {E : Env} {f : FuncId} {args args' : List V} {mem : Option (List V)} {res : V} {rows : List RowD} {mem' : Option (List V)} (h : FnV E f args mem res rows mem') (hw : wkAs args' args) : FnV E f args' mem res rows mem' := by
  obtain ⟨h1, h2⟩ := wkAs_get args' args hw
  exact ⟨h.fn, h.few, h.same, fun W cargs g hm hs ha => h.run W cargs g hm (by rw [hs, h1]) fun j v hv => by
    obtain ⟨v', hv', hw'⟩ := h2 j v hv
    obtain ⟨u, hu, hr⟩ := ha j v' hv'
    exact ⟨u, hu, wkA_rep hw' hr⟩⟩
def RetQ (E : Env) (rs : List RV) (ids : List Nat) (us : Nat → Value) (mem : Option (List V)) (res : V) (rows : List RowD) (mem' : Option (List V)) (e : Exit) (S : AS) : Prop :=
  (e = .normal ∨ e = .ret) ∧ ∃ C vs ws, rets E S rs = some (C, vs) ∧ C ∧ outAs S.B ids vs = some ws ∧ wkT (tup1 ws) res ∧ rowsAt S.B ids rows ∧ memQ S.B us mem mem'

section
variable {E : Env} {F : Fr} {σ : Sg} {S : AS} {a : Act} {W : World}
theorem outLs_spec {B : Nat → Option Blk} {ids : List Nat} : ∀ (vs ws : List V), outLs B ids vs = some ws → ws.length = vs.length ∧ ∀ (j : Nat) w, ws[j]? = some w → ∃ v, vs[j]? = some v ∧ outL B ids v = some w
  | [], ws, h => by simp [outLs] at h; subst h; simp
  | v :: vs, ws, h => by
    simp only [outLs] at h
    split at h
    · next w ws' h1 h2 =>
      obtain rfl := Option.some.inj h
      obtain ⟨h3, h4⟩ := outLs_spec vs ws' h2
      refine ⟨by simp [h3], fun j u hu => ?_⟩
      cases j with
      | zero => simp at hu; subst hu; exact ⟨v, rfl, h1⟩
      | succ j => simpa using h4 j u (by simpa using hu)
    · cases h
theorem outAs_spec {B : Nat → Option Blk} {ids : List Nat} : ∀ (vs ws : List V), outAs B ids vs = some ws → ws.length = vs.length ∧ ∀ (j : Nat) w, ws[j]? = some w → ∃ v, vs[j]? = some v ∧ outA B ids v = some w
  | [], ws, h => by simp [outAs] at h; subst h; simp
  | v :: vs, ws, h => by
    simp only [outAs] at h
    split at h
    · next w ws' h1 h2 =>
      obtain rfl := Option.some.inj h
      obtain ⟨h3, h4⟩ := outAs_spec vs ws' h2
      refine ⟨by simp [h3], fun j u hu => ?_⟩
      cases j with
      | zero => simp at hu; subst hu; exact ⟨v, rfl, h1⟩
      | succ j => simpa using h4 j u (by simpa using hu)
    · cases h
theorem posOf_spec : ∀ (ids : List Nat) (k i j : Nat), posOf ids k i = some j → k ≤ j ∧ ids[j - k]? = some i
  | [], k, i, j, h => by cases h
  | x :: xs, k, i, j, h => by
    simp only [posOf] at h
    cases hx : x == i with
    | true =>
      rw [hx] at h
      obtain rfl := Option.some.inj h
      simpa using hx
    | false =>
      rw [hx] at h
      obtain ⟨h1, h2⟩ := posOf_spec xs (k + 1) i j h
      refine ⟨by omega, ?_⟩
      rw [show j - k = (j - (k + 1)) + 1 by omega]
      simpa using h2
theorem posOf_none : ∀ (ids : List Nat) (k i : Nat), posOf ids k i = none → i ∉ ids
  | [], k, i, h => by simp
  | x :: xs, k, i, h => by
    simp only [posOf] at h
    cases hx : x == i with
    | true => rw [hx] at h; cases h
    | false =>
      rw [hx] at h
      have := posOf_none xs (k + 1) i h
      simp at hx
      simp [this, Ne.symm hx]
theorem rowsAt_spec {B : Nat → Option Blk} : ∀ (ids : List Nat) (rows : List RowD), rowsAt B ids rows → ids.length = rows.length ∧ ∀ (j : Nat) r, rows[j]? = some r → ∃ i, ids[j]? = some i ∧ B i = some (.row r.1 r.2.1 r.2.2)
  | [], [], h => ⟨rfl, fun j r h => by simp at h⟩
  | i :: ids, r :: rs, h => by
    obtain ⟨h1, h2⟩ := h
    obtain ⟨h3, h4⟩ := rowsAt_spec ids rs h2
    refine ⟨by simp [h3], fun j r' hr => ?_⟩
    cases j with
    | zero => simp at hr; subst hr; exact ⟨i, rfl, h1⟩
    | succ j => simpa using h4 j r' (by simpa using hr)
  | [], _ :: _, h => h.elim
  | _ :: _, [], h => h.elim
/-- what leaves the frame -/
def sgOut (σ : Sg) (ids : List Nat) : Sg := ⟨fun j => σ.g (ids.getD j 0), fun j => σ.c (ids.getD j 0), fun j => σ.n (ids.getD j 0), fun j => σ.s (ids.getD j 0)⟩
theorem outL_rep (h : Sim F σ S a W) {ids : List Nat} {rows : List RowD} (hra : rowsAt S.B ids rows) (hnd : ids.Nodup) (hnp : ∀ i e s es, S.B i = some (.row e s es) → F.W0.heap.size ≤ σ.g i) {v w : V} {c : Value} (ho : outL S.B ids v = some w) (hr : RepL W (Dm F σ S.B) σ v c) :
    RepL0 W (DR F.W0 rows (sgOut σ ids)) (sgOut σ ids) w c := by
  obtain ⟨hl, hrows⟩ := rowsAt_spec ids rows hra
  have hD : ∀ b, Dm F σ S.B true b → b < W.heap.size → DR F.W0 rows (sgOut σ ids) true b := fun b hb _ => by
    refine ⟨hb.1, fun j hj e => hb.2 ?_⟩
    obtain ⟨i, hi, hB⟩ := hrows j _ (List.getElem?_eq_getElem hj)
    refine ⟨i, _, hB, ?_⟩
    rw [← e]
    simp only [sgOut, List.getD_eq_getElem?_getD, hi, Option.getD_some]
  unfold outL at ho
  split at ho
  · obtain rfl := Option.some.inj ho; exact hr
  · obtain rfl := Option.some.inj ho; exact hr
  · obtain rfl := Option.some.inj ho; exact hr
  · obtain rfl := Option.some.inj ho; trivial
  · obtain rfl := Option.some.inj ho
    exact RepC.mono (show RepC W (Dm F σ S.B true) _ c from hr) hD (fun _ _ _ => rfl)
  · next i =>
    have hc : c = .slice (some ⟨σ.g i, 0, none⟩) (σ.n i) (σ.c i) := hr
    subst hc
    split at ho
    · next j hj =>
      obtain rfl := Option.some.inj ho
      obtain ⟨_, hj2⟩ := posOf_spec ids 0 i j hj
      rw [Nat.sub_zero] at hj2
      simp only [RepL0, sgOut, List.getD_eq_getElem?_getD, hj2, Option.getD_some]
    · next hj =>
      split at ho
      · next e s es hB =>
        obtain rfl := Option.some.inj ho
        refine row_rep h hB true ⟨hnp i e s es hB, fun j hj' e' => ?_⟩ hD
        obtain ⟨k, hk, hBk⟩ := hrows j _ (List.getElem?_eq_getElem hj')
        simp only [sgOut, List.getD_eq_getElem?_getD, hk, Option.getD_some] at e'
        have := h.inj k i _ _ hBk hB e'
        subst this
        exact posOf_none ids 0 k hj (List.mem_of_getElem? hk)
      · cases ho
  · cases ho
theorem outA_rep (h : Sim F σ S a W) {ids : List Nat} {rows : List RowD} (hra : rowsAt S.B ids rows) (hnd : ids.Nodup) (hnp : ∀ i e s es, S.B i = some (.row e s es) → F.W0.heap.size ≤ σ.g i) {v w : V} {c : Value} (ho : outA S.B ids v = some w) (hr : RepT W (Dm F σ S.B) σ v c) :
    RepA W (DR F.W0 rows (sgOut σ ids)) (sgOut σ ids) w c := by
  unfold outA at ho
  split at ho
  · next cs =>
    split at ho
    · next ws hws =>
      obtain rfl := Option.some.inj ho
      obtain ⟨ar, rfl, h1, h2⟩ := hr.agg_
      obtain ⟨h3, h4⟩ := outLs_spec _ _ hws
      refine ⟨ar, rfl, by rw [h1, h3], fun j w hw => ?_⟩
      obtain ⟨v, hv, hvw⟩ := h4 j w hw
      obtain ⟨u, hu, hru⟩ := h2 j v hv
      exact ⟨u, hu, RepL_of0 (outL_rep h hra hnd hnp hvw hru)⟩
    · cases ho
  · next hna =>
    have hr0 : RepL W (Dm F σ S.B) σ v c := by
      cases v with
      | agg cs => exact absurd rfl (hna cs)
      | tup cs => simp [outL] at ho
      | con u w => simp [outL] at ho
      | _ => exact hr
    exact RepA_of0 (outL_rep h hra hnd hnp ho hr0)

theorem run_mapM {α β : Type} (P : Program) (w : World) (f : α → Sem β) : ∀ (l : List α) (vs : List β), vs.length = l.length → (∀ (j : Nat) x v, l[j]? = some x → vs[j]? = some v → (f x).run P w = .ok v w) → (l.mapM f).run P w = .ok vs w
  | [], vs, hl, h => by
    have : vs = [] := List.eq_nil_of_length_eq_zero (by simpa using hl)
    subst this
    simp
  | x :: l, vs, hl, h => by
    cases vs with
    | nil => simp at hl
    | cons v vs =>
      rw [List.mapM_cons]
      simp only [Sem.run_bind, h 0 x v rfl rfl, Result.andThen_ok, run_mapM P w f l vs (by simpa using hl) (fun j y u hy hu => h (j + 1) y u (by simpa using hy) (by simpa using hu)), Sem.run_pure]
/-- the results, read -/
theorem rets_sound (hP : F.P = E.P) (h : Sim F σ S a W) : ∀ (rs : List RV) (C : Prop) (vs : List V), rets E S rs = some (C, vs) → C → vs.length = rs.length ∧ ∃ cs : List Value, cs.length = rs.length ∧
    (∀ (j : Nat) r c, rs[j]? = some r → cs[j]? = some c → ((match r.toRes with | .tmp t => pure (a.tmps.getD t undef) | .cell x t => do loadVar t (← asAddr (a.tmps.getD x undef))) : Sem Value).run E.P W = .ok c W) ∧ ∀ (j : Nat) v, vs[j]? = some v → ∃ c, cs[j]? = some c ∧ RepT W (Dm F σ S.B) σ v c
  | [], C, vs, hr, hC => by
    simp only [rets, Option.some.injEq, Prod.mk.injEq] at hr
    obtain ⟨_, rfl⟩ := hr
    exact ⟨rfl, [], rfl, fun j r c hj => by simp at hj, fun j v hj => by simp at hj⟩
  | r :: rs, C, vs, hr, hC => by
    simp only [rets] at hr
    split at hr
    · next C1 v D vs' h1 h2 =>
      simp only [Option.some.injEq, Prod.mk.injEq] at hr
      obtain ⟨rfl, rfl⟩ := hr
      obtain ⟨hl, cs, h3, h4, h5⟩ := rets_sound hP h rs D vs' h2 hC.2
      have key : ∃ c, ((match r.toRes with | .tmp t => pure (a.tmps.getD t undef) | .cell x t => do loadVar t (← asAddr (a.tmps.getD x undef))) : Sem Value).run E.P W = .ok c W ∧ RepT W (Dm F σ S.B) σ v c := by
        cases r with
        | tmp t =>
          simp only [ret1, Option.some.injEq, Prod.mk.injEq] at h1
          obtain ⟨_, rfl⟩ := h1
          exact ⟨_, by simp only [RV.toRes, Sem.run_pure], h.t t⟩
        | cell t ty =>
          simp only [ret1] at h1
          split at h1
          · next y hy =>
            obtain ⟨c, hc1, hc2⟩ := qLoad_sound E hP h hy h1 hC.1 (h.t t)
            refine ⟨c, ?_, hc2⟩
            have hp : ∃ ad, a.tmps.getD t undef = .pointer (some ad) := by
              have ht := h.t t
              unfold qLoad at h1
              split at h1
              · next i j o he => rw [he] at ht; exact ⟨_, ht.ptr_⟩
              · next f e o he => rw [he] at ht; obtain ⟨ad, h6, _⟩ := ht.fat_; exact ⟨ad, h6⟩
              · cases h1
            obtain ⟨ad, had⟩ := hp
            rw [had] at hc1
            simp only [RV.toRes, had, asAddr, Sem.run_bind, Sem.run_pure, Result.andThen_ok]
            simpa [Instr.loadAt, Instr.sureAddr] using hc1
          · cases h1
      obtain ⟨c, hc1, hc2⟩ := key
      refine ⟨by simp [hl], c :: cs, by simp [h3], fun j r' c' hj hc' => ?_, fun j v' hj => ?_⟩
      · cases j with
        | zero => simp at hj hc'; subst hj hc'; exact hc1
        | succ j => exact h4 j r' c' (by simpa using hj) (by simpa using hc')
      · cases j with
        | zero => simp at hj; subst hj; exact ⟨c, rfl, hc2⟩
        | succ j => simpa using h5 j v' (by simpa using hj)
    · cases hr
theorem wrapL_get (us : Nat → Value) : ∀ (k : Nat) (cs : List V) (j : Nat) w, (wrapL us k cs)[j]? = some w → ∃ v, cs[j]? = some v ∧ w = wrap1 (us (k + j)) v
  | k, [], j, w, h => by simp [wrapL] at h
  | k, v :: vs, j, w, h => by
    cases j with
    | zero => simp [wrapL] at h; exact ⟨v, rfl, by simpa using h.symm⟩
    | succ j =>
      obtain ⟨v', h1, h2⟩ := wrapL_get us (k + 1) vs j w (by simpa [wrapL] using h)
      exact ⟨v', by simpa using h1, by rw [h2, show k + 1 + j = k + (j + 1) by omega]⟩
theorem wrapL_length (us : Nat → Value) : ∀ (k : Nat) (cs : List V), (wrapL us k cs).length = cs.length
  | k, [] => rfl
  | k, v :: vs => by simp [wrapL, wrapL_length us (k + 1) vs]
end

def args0 (args : List V) : Nat → V := fun t => (args[t]?).getD .und
def mem0 (us : Nat → Value) (mem : Option (List V)) : Nat → Option Blk := fun i => if i = 0 then mem.map fun cs => .box (wrapL us 0 cs) else none
/-- a function's contract out of its body's -/
theorem FnV_of (E : Env) {f : FuncId} {fn : Func} {c : Code} {rs : List RV} (hf : E.P.funcs[f]? = some fn) (hname : (fn.name == "runtime.NumGoroutine") = false) (hb : fn.body = some c) (hrs : fn.results.toList = rs.map RV.toRes) {args : List V} {mem : Option (List V)} {res : V} {rows : List RowD} {mem' : Option (List V)} (ids : List Nat)
    (hal : args.length ≤ fn.ntmps) (hsame : mem.isSome = mem'.isSome) (hfew : rows.length ≤ 8) (hnd : ids.Nodup) (h : ∀ us, AW E fn.ntmps c ⟨args0 args, mem0 us mem⟩ (RetQ E rs ids us mem res rows mem')) : FnV E f args mem res rows mem' := by
  refine ⟨⟨fn, hf, hname, by rw [hb]; rfl⟩, hfew, hsame, fun W cargs g hmo hsz hargs => ?_⟩
  -- the cells of the handed block as they were
  obtain ⟨us, hus⟩ : ∃ us : Nat → Value, ∀ cs, mem = some cs → ∃ cur e, W.heap[g]? = some (.cells cur e (0, 0)) ∧ cur.size = cs.length ∧ ∀ (j : Nat) v, cs[j]? = some v → cur[j]? = some (us j) ∧ RepL0 W (DA W (parOf mem g)) (sg1 g) v (us j) := by
    cases mem with
    | none => exact ⟨fun _ => undef, fun cs h => by cases h⟩
    | some cs =>
      obtain ⟨cur, e, h1, h2, h3⟩ := hmo
      refine ⟨fun j => (cur[j]?).getD undef, fun cs' hcs => ?_⟩
      obtain rfl := Option.some.inj hcs
      refine ⟨cur, e, h1, h2, fun j v hv => ?_⟩
      obtain ⟨u, hu, hr⟩ := h3 j v hv
      simp only [hu, Option.getD_some]
      exact ⟨trivial, hr⟩
  let F : Fr := ⟨E.P, W, parOf mem g, fn.ntmps, g⟩
  have hk : Keep W W (DA W (parOf mem g)) (Dm F (sg1 g) (mem0 us mem)) (sg1 g) (sg1 g) (fun _ => False) :=
    ⟨fun f b hb _ => by cases f with | true => exact hb.elim | false => exact hb, fun _ _ _ _ => rfl, fun _ _ => ⟨rfl, rfl, rfl, rfl⟩⟩
  have hB : ∀ i x, mem0 us mem i = some x → i = 0 ∧ ∃ cs, mem = some cs ∧ x = .box (wrapL us 0 cs) := fun i x hi => by
    unfold mem0 at hi
    split at hi
    · next h0 =>
      obtain ⟨cs, h1, h2⟩ := Option.map_eq_some_iff.1 hi
      exact ⟨h0, cs, h1, h2.symm⟩
    · cases hi
  have hsim : Sim F (sg1 g) ⟨args0 args, mem0 us mem⟩ { tmps := cargs ++ Array.replicate (fn.ntmps - cargs.size) undef, defers := [] } W := by
    refine ⟨rfl, by simp [F]; omega, fun t => ?_, fun i x hi => ?_, fun i j x y hi hj _ => ?_, fun i x hi => ?_, ⟨rfl, rfl, rfl, Nat.le_refl _, fun _ _ _ => rfl⟩, rfl⟩
    · simp only [args0]
      cases ht : args[t]? with
      | none => exact RepT_of0 trivial
      | some v =>
        obtain ⟨u, hu, hr⟩ := hargs t v ht
        have hlt := (Array.getElem?_eq_some_iff.1 hu).1
        have e : ({ tmps := cargs ++ Array.replicate (fn.ntmps - cargs.size) undef, defers := [] } : Act).tmps.getD t undef = u := by
          rw [Array.getD_eq_getD_getElem?, Array.getElem?_append_left hlt, hu]; rfl
        rw [e]
        exact RepT_ofA (hr.keep hk (noA_false _))
    · obtain ⟨rfl, cs, hm, rfl⟩ := hB i x hi
      obtain ⟨cur, e, h1, h2, h3⟩ := hus cs hm
      refine ⟨cur, e, h1, by rw [h2, wrapL_length], fun j w hw => ?_⟩
      obtain ⟨v, hv, rfl⟩ := wrapL_get us 0 cs j w hw
      obtain ⟨h4, h5⟩ := h3 j v hv
      refine ⟨_, h4, ?_⟩
      rw [Nat.zero_add]
      have h6 := h5.keep hk (no0_false _)
      cases v <;> first | exact h6 | exact ⟨rfl, h6⟩
    · rw [(hB i x hi).1, (hB j y hj).1]
    · obtain ⟨rfl, cs, hm, _⟩ := hB i x hi
      exact .inr ⟨by rw [hm]; rfl, rfl⟩
  refine calls_of_wp hf hb (wp_mono (h us F rfl rfl (sg1 g) _ W hsim) ?_)
  rintro e a' W' ⟨σ', S', hs', he, C, vs, ws, hret, hC, hout, hres, hra, hmq⟩
  obtain ⟨hl, hrows⟩ := rowsAt_spec ids rows hra
  obtain ⟨hvl, cs, hcl', hrun, hrep⟩ := rets_sound (F := F) rfl hs' rs C vs hret hC
  obtain ⟨hwl, hws⟩ := outAs_spec vs ws hout
  -- the handed block is still the box with the number 0
  have hp0 : ∀ b, parOf mem g b → ∃ cs, S'.B 0 = some (.box cs) ∧ σ'.g 0 = b := by
    rintro b ⟨h1, rfl⟩
    cases hm : mem with
    | none => rw [hm] at h1; cases h1
    | some cs0 =>
      unfold memQ at hmq
      rw [hm] at hmq
      cases hm' : mem' with
      | none => rw [hm'] at hmq; exact hmq.elim
      | some cs' => rw [hm'] at hmq; exact ⟨_, hmq.1, hs'.z⟩
  have hnp : ∀ i e s es, S'.B i = some (.row e s es) → F.W0.heap.size ≤ σ'.g i := fun i e s es hi => by
    rcases hs'.ge i _ hi with h1 | h1
    · exact h1
    · obtain ⟨cs, h2, h3⟩ := hp0 _ h1
      have := hs'.inj 0 i _ _ h2 hi h3
      subst this
      rw [hi] at h2; cases h2
  have hall : ∀ (j : Nat) w, ws[j]? = some w → ∃ c, cs[j]? = some c ∧ RepA W' (DR W rows (sgOut σ' ids)) (sgOut σ' ids) w c := fun j w hw => by
    obtain ⟨v, hv, hvw⟩ := hws j w hw
    obtain ⟨c, hc, hr⟩ := hrep j v hv
    exact ⟨c, hc, outA_rep (F := F) hs' hra hnd hnp hvw hr⟩
  -- the value that is handed back
  have hval0 : ∃ c, (results fn a'.tmps).run E.P W' = .ok c W' ∧ RepT W' (DR W rows (sgOut σ' ids)) (sgOut σ' ids) (tup1 ws) c := by
    have hfr : fn.results = (rs.map RV.toRes).toArray := by apply Array.ext'; simpa using hrs
    refine ⟨if h : cs.toArray.size = 1 then cs.toArray[0] else .tuple cs.toArray, ?_, ?_⟩
    · unfold results
      rw [hfr, List.mapM_toArray]
      have := run_mapM E.P W' (fun (r : ResultVar) => (match r with | .tmp t => pure (a'.tmps.getD t undef) | .cell x t => do loadVar t (← asAddr (a'.tmps.getD x undef)) : Sem Value)) (rs.map RV.toRes) cs (by simp [hcl']) (fun j x v hx hv => by
        rw [List.getElem?_map] at hx
        obtain ⟨r, hr, rfl⟩ := Option.map_eq_some_iff.1 hx
        exact hrun j r v hr hv)
      simp only [Sem.run_bind, Sem.run_map]
      erw [this]
      simp only [Result.andThen_ok, Sem.run_pure]
    · by_cases h1 : cs.length = 1
      · obtain ⟨c, rfl⟩ := List.length_eq_one_iff.1 h1
        obtain ⟨w, rfl⟩ := List.length_eq_one_iff.1 (show ws.length = 1 by omega)
        obtain ⟨c', hc', hr⟩ := hall 0 w rfl
        obtain rfl : c = c' := by simpa using hc'
        simp only [tup1, List.size_toArray, List.length_singleton, dif_pos]
        exact RepT_ofA hr
      · have hw1 : ws.length ≠ 1 := by omega
        have ht : tup1 ws = .tup ws := by
          match ws, hw1 with
          | [], _ => rfl
          | [w], h => exact absurd rfl h
          | w1 :: w2 :: ws, _ => rfl
        rw [ht, dif_neg (by simpa using h1)]
        refine ⟨cs.toArray, rfl, by simp; omega, fun j v hv => ?_⟩
        obtain ⟨c, hc, hr⟩ := hall j v hv
        exact ⟨c, by simpa using hc, hr⟩
  have hval : ∃ c, (results fn a'.tmps).run E.P W' = .ok c W' ∧ RepT W' (DR W rows (sgOut σ' ids)) (sgOut σ' ids) res c := by
    obtain ⟨c, h1, h2⟩ := hval0
    exact ⟨c, h1, wkT_rep hres h2⟩
  obtain ⟨c, hc1, hc2⟩ := hval
  have hafter : After W g mem res rows mem' (.returned c) W' := by
    refine ⟨c, sgOut σ' ids, rfl, ⟨hs'.ext.os, hs'.ext.tape, hs'.ext.output, hs'.ext.size, fun k hk hne => hs'.ext.block k hk (fun hp => hne ?_)⟩, ?_, fun j r hr => ?_, fun i j hi hj hgg => ?_, hc2⟩
    · obtain ⟨h1, rfl⟩ := hp
      obtain ⟨cs0, h2⟩ := Option.isSome_iff_exists.1 h1
      rw [h2]; rfl
    · cases hm' : mem' with
      | none => trivial
      | some cs' =>
        cases hm : mem with
        | none => rw [hm, hm'] at hsame; cases hsame
        | some cs0 =>
          rw [hm, hm'] at hmq
          obtain ⟨h1, h2⟩ := hmq
          obtain ⟨cur, e0, h3, h4, h5⟩ := hus cs0 hm
          obtain ⟨cur', e', h6, h7, h8⟩ := hs'.b 0 _ h1
          rw [hs'.z] at h6
          refine ⟨cur, e0, cur', e', h3, h6, by rw [h7, wrapL_length, h2, h4], by rw [h2, h4], fun j v hv => ?_⟩
          have hwj : (wrapL us 0 cs')[j]? = some (wrap1 (us j) v) := by
            have hjl : j < (wrapL us 0 cs').length := by rw [wrapL_length]; exact (List.getElem?_eq_some_iff.1 hv).1
            obtain ⟨v', h9, h10⟩ := wrapL_get us 0 cs' j _ (List.getElem?_eq_getElem hjl)
            rw [hv] at h9
            obtain rfl := Option.some.inj h9
            rw [List.getElem?_eq_getElem hjl, h10, Nat.zero_add]
          obtain ⟨u, hu, hru⟩ := h8 j _ hwj
          have hjl0 : j < cs0.length := by rw [← h2]; exact (List.getElem?_eq_some_iff.1 hv).1
          obtain ⟨h11, _⟩ := h5 j _ (List.getElem?_eq_getElem hjl0)
          cases v with
          | int k n => have e : u = .int k n := hru; rw [hu, e]; rfl
          | bool b => have e : u = .bool b := hru; rw [hu, e]; rfl
          | _ => have e : u = us j := hru.1; rw [hu, e]; exact h11.symm
    · obtain ⟨i, hi, hBi⟩ := hrows j r hr
      have hg : ids.getD j 0 = i := by rw [List.getD_eq_getElem?_getD, hi]; rfl
      refine ⟨by simp only [sgOut, hg]; exact hnp _ _ _ _ hBi, ?_⟩
      obtain ⟨cur, g1, g2, g3, g4, g5, g6, g7, g8⟩ := hs'.b i _ hBi
      refine ⟨cur, by simp only [sgOut, hg]; exact g1, by simp only [sgOut, hg]; exact g2, by simp only [sgOut, hg]; exact g3, by simp only [sgOut, hg]; exact g4, by simp only [sgOut, hg]; exact g5, by simp only [sgOut, hg]; exact g6, g7, fun j' e' he' o' v hv' => ?_⟩
      obtain ⟨u, hu, hru⟩ := g8 j' e' he' o' v hv'
      refine ⟨u, hu, hru.mono (fun b hb _ => ⟨hb.1, fun k hk e => hb.2 ?_⟩) (fun _ _ _ => rfl)⟩
      obtain ⟨i', hi', hB'⟩ := hrows k _ (List.getElem?_eq_getElem hk)
      refine ⟨i', _, hB', ?_⟩
      rw [← e]
      simp only [sgOut, List.getD_eq_getElem?_getD, hi', Option.getD_some]
    · obtain ⟨i1, h1, hB1⟩ := hrows i _ (List.getElem?_eq_getElem hi)
      obtain ⟨j1, h2, hB2⟩ := hrows j _ (List.getElem?_eq_getElem hj)
      simp only [sgOut, List.getD_eq_getElem?_getD, h1, h2, Option.getD_some] at hgg
      have := hs'.inj i1 j1 _ _ hB1 hB2 hgg
      subst this
      obtain ⟨hi1, e1⟩ := List.getElem?_eq_some_iff.1 h1
      obtain ⟨hj1, e2⟩ := List.getElem?_eq_some_iff.1 h2
      have hpw := List.pairwise_iff_getElem.1 hnd
      rcases Nat.lt_trichotomy i j with h | h | h
      · exact absurd (e1.trans e2.symm) (hpw i j hi1 hj1 h)
      · exact h
      · exact absurd (e2.trans e1.symm) (hpw j i hj1 hi1 h)
  rcases he with rfl | rfl
  · exact ⟨hs'.df, c, hc1, hafter⟩
  · exact ⟨hs'.df, c, hc1, hafter⟩
end Go.Proofs.YtfakhgopbhnocaaVM
namespace Go.Proofs.YtfakhgopbhnocaaVM
open Go

/-! ### states as lists, and the run of a region reckoned -/
abbrev TL := List (Nat × V)
abbrev BL := List (Nat × Option Blk)
def tg : TL → Nat → V
  | [], _ => .und
  | (d, v) :: l, t => bif d == t then v else tg l t
def bg : BL → Nat → Option Blk
  | [], _ => none
  | (d, v) :: l, t => bif d == t then v else bg l t
theorem tg_upd (l : TL) (d : Nat) (v : V) : updO (tg l) (some d) v = tg ((d, v) :: l) := by
  funext t
  simp only [updO, tg]
  by_cases h : t = d
  · subst h; simp
  · have : (d == t) = false := by simpa using fun e => h e.symm
    simp [h, this]
theorem bg_upd (b : BL) (i : Nat) (x : Option Blk) : upd (bg b) i x = bg ((i, x) :: b) := by
  funext t
  simp only [upd, bg]
  by_cases h : t = i
  · subst h; simp
  · have : (i == t) = false := by simpa using fun e => h e.symm
    simp [h, this]
theorem bg_patch : ∀ (δ : Dl) (b : BL), patch δ (bg b) = bg (δ ++ b)
  | [], b => rfl
  | (i, x) :: δ, b => by simp only [patch, bg_patch δ b, bg_upd, List.cons_append]
def killTL (i : Nat) : TL → TL
  | [] => []
  | (d, v) :: l => (d, killT i v) :: killTL i l
def killBL (i : Nat) : BL → BL
  | [] => []
  | (d, none) :: l => (d, none) :: killBL i l
  | (d, some x) :: l => (d, some (killB i x)) :: killBL i l
theorem tg_kill (i : Nat) : ∀ (l : TL), (fun t => killT i (tg l t)) = tg (killTL i l)
  | [] => by funext t; rfl
  | (d, v) :: l => by
    have ih := tg_kill i l
    funext t
    have ih' := congrFun ih t
    simp only [tg, killTL]
    cases d == t
    · exact ih'
    · rfl
theorem bg_kill (i : Nat) : ∀ (b : BL), (fun t => (bg b t).map (killB i)) = bg (killBL i b)
  | [] => by funext t; rfl
  | (d, none) :: b => by
    have ih := bg_kill i b
    funext t
    have ih' := congrFun ih t
    simp only [bg, killBL]
    cases d == t
    · exact ih'
    · rfl
  | (d, some x) :: b => by
    have ih := bg_kill i b
    funext t
    have ih' := congrFun ih t
    simp only [bg, killBL]
    cases d == t
    · exact ih'
    · rfl

/-! ### names that are nowhere -/
def no0B (lo : Nat) : V → Bool
  | .ref i => !(lo ≤ i && i < lo + 8)
  | .ptr i _ _ => !(lo ≤ i && i < lo + 8)
  | _ => true
def noLB (lo : Nat) : V → Bool
  | .con _ v => no0B lo v
  | v => no0B lo v
def noAB (lo : Nat) : V → Bool
  | .agg cs => cs.all (noLB lo)
  | v => no0B lo v
def noTB (lo : Nat) : V → Bool
  | .tup cs => cs.all (noAB lo)
  | v => noAB lo v
def noBB (lo : Nat) : Blk → Bool
  | .row _ _ _ => true
  | .box cs => cs.all (noLB lo)
def absB (lo : Nat) (l : TL) (b : BL) : Bool := (l.all fun x => noTB lo x.2) && b.all fun x => !(lo ≤ x.1 && x.1 < lo + 8) && (match x.2 with | none => true | some y => noBB lo y)
def rng (lo : Nat) : Nat → Prop := fun i => lo ≤ i ∧ i < lo + 8
theorem no0B_spec {lo : Nat} {v : V} (h : no0B lo v = true) : no0 (rng lo) v := by
  cases v <;> first | trivial | (simp only [no0B, no0, rng] at h ⊢; simp only [Bool.not_eq_true', Bool.and_eq_false_iff, decide_eq_false_iff_not] at h; omega)
theorem noLB_spec {lo : Nat} {v : V} (h : noLB lo v = true) : noL (rng lo) v := by
  cases v with
  | con u w => exact no0B_spec (v := w) h
  | _ => simp only [noLB] at h; simp only [noL]; exact no0B_spec h
theorem noAB_spec {lo : Nat} {v : V} (h : noAB lo v = true) : noA (rng lo) v := by
  cases v with
  | agg cs => exact fun w hw => noLB_spec (List.all_eq_true.1 h w hw)
  | _ => simp only [noAB] at h; simp only [noA]; exact no0B_spec h
theorem noTB_spec {lo : Nat} {v : V} (h : noTB lo v = true) : noT (rng lo) v := by
  cases v with
  | tup cs => exact fun w hw => noAB_spec (List.all_eq_true.1 h w hw)
  | _ => simp only [noTB] at h; simp only [noT]; exact noAB_spec h
theorem noBB_spec {lo : Nat} {x : Blk} (h : noBB lo x = true) : noB (rng lo) x := by
  cases x with
  | row => trivial
  | box cs => exact fun w hw => noLB_spec (List.all_eq_true.1 h w hw)
theorem tg_mem : ∀ (l : TL) (t : Nat), tg l t = .und ∨ ∃ x ∈ l, x.2 = tg l t
  | [], t => .inl rfl
  | (d, v) :: l, t => by
    simp only [tg]
    cases d == t
    · rcases tg_mem l t with h | ⟨x, hx, e⟩
      · exact .inl h
      · exact .inr ⟨x, List.mem_cons_of_mem _ hx, e⟩
    · exact .inr ⟨_, List.mem_cons_self, rfl⟩
theorem bg_mem : ∀ (b : BL) (i : Nat) (x : Blk), bg b i = some x → (i, some x) ∈ b
  | [], i, x, h => by cases h
  | (d, y) :: b, i, x, h => by
    simp only [bg] at h
    cases hd : d == i with
    | true => rw [hd] at h; have : d = i := by simpa using hd
              subst this; simp only [cond_true] at h; subst h; exact List.mem_cons_self
    | false => rw [hd] at h; exact List.mem_cons_of_mem _ (bg_mem b i x h)
theorem absB_spec {lo : Nat} {l : TL} {b : BL} (h : absB lo l b = true) : Absent (rng lo) ⟨tg l, bg b⟩ := by
  simp only [absB, Bool.and_eq_true] at h
  obtain ⟨h1, h2⟩ := h
  refine ⟨fun t => ?_, fun i x hx => ?_⟩
  · rcases tg_mem l t with e | ⟨x, hx, e⟩
    · simp only [e]; trivial
    · simp only [← e]; exact noTB_spec (List.all_eq_true.1 h1 x hx)
  · have := List.all_eq_true.1 h2 _ (bg_mem b i x hx)
    simp only [Bool.and_eq_true, Bool.not_eq_true', Bool.and_eq_false_iff, decide_eq_false_iff_not] at this
    exact ⟨fun hr => by simp only [rng] at hr; omega, noBB_spec this.2⟩
theorem ids_rng (o : Oper) : ids o = rng (nid o) := rfl
def freshB (ops : List Oper) (l : TL) (b : BL) : Bool := ops.all fun o => !makes o || absB (nid o) l b
theorem freshB_spec {ops : List Oper} {l : TL} {b : BL} (h : freshB ops l b = true) : FreshL ops.toArray (List.range ops.length) ⟨tg l, bg b⟩ := by
  intro j hj o ho hm
  have hmem : o ∈ ops := List.mem_of_getElem? (by simpa using ho : ops[j]? = some o)
  have := List.all_eq_true.1 h o hmem
  rw [hm] at this
  exact absB_spec (by simpa using this)

/-- fewer names -/
theorem no0_sub {M N : Nat → Prop} (hs : ∀ i, M i → N i) {v : V} (h : no0 N v) : no0 M v := by cases v <;> first | trivial | exact fun hm => h (hs _ hm)
theorem noL_sub {M N : Nat → Prop} (hs : ∀ i, M i → N i) {v : V} (h : noL N v) : noL M v := by
  cases v with
  | con u w => exact no0_sub hs (v := w) h
  | _ => simp only [noL] at h ⊢; exact no0_sub hs h
theorem noA_sub {M N : Nat → Prop} (hs : ∀ i, M i → N i) {v : V} (h : noA N v) : noA M v := by
  cases v with
  | agg cs => exact fun w hw => noL_sub hs (h w hw)
  | _ => simp only [noA] at h ⊢; exact no0_sub hs h
theorem noT_sub {M N : Nat → Prop} (hs : ∀ i, M i → N i) {v : V} (h : noT N v) : noT M v := by
  cases v with
  | tup cs => exact fun w hw => noA_sub hs (h w hw)
  | _ => simp only [noT] at h ⊢; exact noA_sub hs h
theorem noB_sub {M N : Nat → Prop} (hs : ∀ i, M i → N i) {v : Blk} (h : noB N v) : noB M v := by
  cases v with
  | row => trivial
  | box cs => exact fun w hw => noL_sub hs (h w hw)
/-! ### the run -/
def argPtr : List V → Option Nat
  | [] => none
  | .ptr i 0 0 :: _ => some i
  | _ :: vs => argPtr vs
def memIn (b : BL) : Option Nat → Option (Option (List V))
  | none => some none
  | some i => match bg b i with
    | some (.box cs) => match viewLs (bg b) (cs.map unc) with
      | some ws => some (some ws)
      | none => none
    | _ => none
def CallN (E : Env) (f : FuncId) (vargs : List V) (mem : Option (List V)) (k : V → List RowD → Option (List V) → Prop) : Prop := ∃ res rows mem', FnV E f vargs mem res rows mem' ∧ k res rows mem'
@[congr] theorem CallN.congr {E : Env} {f : FuncId} {vargs vargs' : List V} {mem mem' : Option (List V)} {k : V → List RowD → Option (List V) → Prop} (h1 : vargs = vargs') (h2 : mem = mem') : CallN E f vargs mem k = CallN E f vargs' mem' k := by rw [h1, h2]
def qStore (E : Env) (B : Nat → Option Blk) (T : Nat → V) (t : TypeId) (p x : Operand) : Option (Prop × Nat × Blk) :=
  match E.ti t, boxV (ev T x) with
  | some y, some vs => match stored1 B vs (ev T p) with
    | some (C, i, blk) => some (vs.all known1 = true ∧ vs.length = y.size ∧ C, i, blk)
    | none => none
  | _, _ => none
def qApp (E : Env) (B : Nat → Option Blk) (T : Nat → V) (t : TypeId) (s x : Operand) : Option (Prop × Option Nat × Blk) :=
  match E.el t with
  | some e => match E.ti e with
    | some y => match ev T s, ev T x with
      | .nil, .sl f ss ys => some (ss = y.size ∧ (f = true ∨ ∀ e ∈ ys, ∀ v ∈ e, scal v = true) ∧ ys ≠ [] ∧ ys.length * y.bytes ≤ 140737488355328, none, .row e y.size ys)
      | .ref i, .sl f ss ys => match B i with
        | some (.row e' s' es) => some (e' = e ∧ s' = y.size ∧ 0 ≠ i ∧ ss = y.size ∧ (f = true ∨ ∀ e ∈ ys, ∀ v ∈ e, scal v = true) ∧ (es.length + ys.length) * y.bytes ≤ 140737488355328, some i, .row e y.size (es ++ ys))
        | _ => none
      | _, _ => none
    | none => none
  | none => none
def look : List (Nat × Nat) → Nat → Option Nat
  | [], _ => none
  | (i, d) :: l, j => bif i == j then some d else look l j
def lookOK (ops : List Oper) (gd : List (Nat × Nat)) : Bool := gd.all fun x => ((ops[x.1]?).bind (·.dst)) == some x.2
def guardB (gd : List (Nat × Nat)) (T : Nat → V) : Option (Nat × Bool) → Option Bool
  | none => some true
  | some (j, want) => match look gd j with
    | some d => match T d with
      | .bool b => some (match want with | true => b | false => !b)
      | .skip => some false
      | _ => none
    | none => none
def runO (E : Env) (ow : List Nat) (d : Nat) (l : TL) (b : BL) (k : TL → BL → Prop) : Op → Prop
  | .call c => match c.callee with
    | .value (.func f) => match memIn b (argPtr (c.args.toList.map (ev (tg l)))) with
      | some mem => match viewAs (argPtr (c.args.toList.map (ev (tg l)))) (bg b) (c.args.toList.map (ev (tg l))) with
        | some vargs => (E.loud f = mem.isSome) ∧ CallN E f vargs mem fun res rows mem' => k ((d, renT (8 * (d + 1)) res) :: l) (rowsD (8 * (d + 1)) rows ++ memD (bg b) (argPtr (c.args.toList.map (ev (tg l)))) mem' ++ b)
        | none => False
      | none => False
    | .builtin .append => match c.args.toList, c.argTypes.toList with
      | [s, x], [t, t'] => match qApp E (bg b) (tg l) t s x with
        | some (C, none, blk) => t = t' ∧ C ∧ absB (8 * (d + 1)) l b = true ∧ k ((d, .ref (8 * (d + 1))) :: l) ((8 * (d + 1), some blk) :: b)
        | some (C, some i, blk) => t = t' ∧ C ∧ (i = 8 * (d + 1) ∨ absB (8 * (d + 1)) l b = true) ∧ k ((d, .ref (8 * (d + 1))) :: killTL i l) ((8 * (d + 1), some blk) :: (i, none) :: killBL i b)
        | none => False
      | _, _ => False
    | _ => match qop E (ow.contains d) (bg b) (tg l) (8 * (d + 1)) (.call c) with
      | some (C, v, none) => C ∧ k ((d, v) :: l) b
      | some (C, v, some x) => C ∧ k ((d, v) :: l) ((8 * (d + 1), some x) :: b)
      | none => False
  | op => match qop E (ow.contains d) (bg b) (tg l) (8 * (d + 1)) op with
    | some (C, v, none) => C ∧ k ((d, v) :: l) b
    | some (C, v, some x) => C ∧ k ((d, v) :: l) ((8 * (d + 1), some x) :: b)
    | none => False
/-- one operation, as data: what it asks and the state behind it -/
inductive St where
  | bad
  | go (C : Prop) (l : TL) (b : BL)
  | call (f : FuncId) (vargs : List V) (mem : Option (List V)) (p : Option Nat)
def stV (d : Nat) (l : TL) (b : BL) : Option (Prop × V × Option Blk) → St
  | some (C, v, none) => .go C ((d, v) :: l) b
  | some (C, v, some x) => .go C ((d, v) :: l) ((8 * (d + 1), some x) :: b)
  | none => .bad
def stO (E : Env) (ow : List Nat) (d : Nat) (l : TL) (b : BL) : Op → St
  | .call c => match c.callee with
    | .value (.func f) => match memIn b (argPtr (c.args.toList.map (ev (tg l)))) with
      | some mem => match viewAs (argPtr (c.args.toList.map (ev (tg l)))) (bg b) (c.args.toList.map (ev (tg l))) with
        | some vargs => .call f vargs mem (argPtr (c.args.toList.map (ev (tg l))))
        | none => .bad
      | none => .bad
    | .builtin .append => match c.args.toList, c.argTypes.toList with
      | [s, x], [t, t'] => match qApp E (bg b) (tg l) t s x with
        | some (C, none, blk) => .go (t = t' ∧ C ∧ absB (8 * (d + 1)) l b = true) ((d, .ref (8 * (d + 1))) :: l) ((8 * (d + 1), some blk) :: b)
        | some (C, some i, blk) => .go (t = t' ∧ C ∧ (i = 8 * (d + 1) ∨ absB (8 * (d + 1)) l b = true)) ((d, .ref (8 * (d + 1))) :: killTL i l) ((8 * (d + 1), some blk) :: (i, none) :: killBL i b)
        | none => .bad
      | _, _ => .bad
    | _ => stV d l b (qop E (ow.contains d) (bg b) (tg l) (8 * (d + 1)) (.call c))
  | op => stV d l b (qop E (ow.contains d) (bg b) (tg l) (8 * (d + 1)) op)
def runSt (E : Env) (d : Nat) (l : TL) (b : BL) (k : TL → BL → Prop) : St → Prop
  | .go C l' b' => C ∧ k l' b'
  | .call f vargs mem p => (E.loud f = mem.isSome) ∧ CallN E f vargs mem fun res rows mem' => k ((d, renT (8 * (d + 1)) res) :: l) (rowsD (8 * (d + 1)) rows ++ memD (bg b) p mem' ++ b)
  | .bad => False
theorem runSt_stV {E : Env} {d : Nat} {l : TL} {b : BL} {k : TL → BL → Prop} : ∀ (q : Option (Prop × V × Option Blk)), runSt E d l b k (stV d l b q) → match q with
    | some (C, v, none) => C ∧ k ((d, v) :: l) b
    | some (C, v, some x) => C ∧ k ((d, v) :: l) ((8 * (d + 1), some x) :: b)
    | none => False
  | some (C, v, none), h => h
  | some (C, v, some x), h => h
  | none, h => h
theorem runO_stO {E : Env} {ow : List Nat} {d : Nat} {l : TL} {b : BL} {k : TL → BL → Prop} {op : Op} (h : runSt E d l b k (stO E ow d l b op)) : runO E ow d l b k op := by
  unfold runO
  unfold stO at h
  split
  · next c =>
    split
    · next f hc =>
      simp only [hc] at h
      split
      · next mem e =>
        simp only [e] at h
        split
        · next e2 => simp only [e2, runSt] at h; exact h
        · next e2 => simp only [e2, runSt] at h
      · next e => simp only [e, runSt] at h
    · next hc =>
      simp only [hc] at h
      split
      · next e1 e2 =>
        simp only [e1, e2] at h
        split
        · next e3 => simp only [e3, runSt] at h; obtain ⟨⟨h1, h2, h3⟩, h4⟩ := h; exact ⟨h1, h2, h3, h4⟩
        · next e3 => simp only [e3, runSt] at h; obtain ⟨⟨h1, h2, h3⟩, h4⟩ := h; exact ⟨h1, h2, h3, h4⟩
        · next e3 => simp only [e3, runSt] at h
      · next hn =>
        split at h
        · next e1 e2 => exact absurd e2 (hn _ _ _ _ e1)
        · exact h
    · next h1 h2 =>
      obtain ⟨callee, args, ts⟩ := c
      cases callee with
      | value x => cases x <;> first | exact absurd rfl (h1 _) | exact runSt_stV _ h
      | builtin x => cases x <;> first | exact absurd rfl h2 | exact runSt_stV _ h
      | _ => exact runSt_stV _ h
  · next h1 =>
    cases op <;> first | exact absurd rfl (h1 _) | exact runSt_stV _ h
/-- what the flags ask -/
def opdL (op : Op) : List Operand := op.operands.toList
def nmV (v : V) : List Nat → Bool
  | [] => true
  | i :: is => noTB i v && nmV v is
def nm0 (l : TL) (nm : List Nat) (x : Operand) : Bool := nmV (ev (tg l) x) nm
def pt0 (nm : List Nat) : V → Bool
  | .ptr i _ _ => hasB nm i
  | _ => true
theorem no0_nm {v : V} : ∀ (nm : List Nat), (∀ i, hasB nm i = true → no0 (rng i) v) → no0 (nmP nm) v := fun nm h => by
  cases v <;> first | trivial | exact fun hm => h _ hm ⟨Nat.le_refl _, by omega⟩
theorem nmV_spec {v : V} : ∀ (nm : List Nat), nmV v nm = true → ∀ i, hasB nm i = true → noT (rng i) v
  | [], _, i, hi => by simp [hasB] at hi
  | j :: js, h, i, hi => by
    simp only [nmV, Bool.and_eq_true] at h
    simp only [hasB] at hi
    cases hj : j == i with
    | true => have : j = i := by simpa using hj
              subst this; exact noTB_spec h.1
    | false => rw [hj] at hi; exact nmV_spec js h.2 i hi
theorem noT_nm {v : V} {nm : List Nat} (h : ∀ i, hasB nm i = true → noT (rng i) v) : noT (nmP nm) v := by
  have h0 : ∀ w : V, (∀ i, hasB nm i = true → no0 (rng i) w) → no0 (nmP nm) w := fun w hw => no0_nm nm hw
  have hL : ∀ w : V, (∀ i, hasB nm i = true → noL (rng i) w) → noL (nmP nm) w := fun w hw => by
    cases w with
    | con u z => exact h0 z (fun i hi => hw i hi)
    | _ => simp only [noL] at hw ⊢; exact h0 _ hw
  have hA : ∀ w : V, (∀ i, hasB nm i = true → noA (rng i) w) → noA (nmP nm) w := fun w hw => by
    cases w with
    | agg cs => exact fun z hz => hL z (fun i hi => hw i hi z hz)
    | _ => simp only [noA] at hw ⊢; exact h0 _ hw
  cases v with
  | tup cs => exact fun z hz => hA z (fun i hi => h i hi z hz)
  | _ => simp only [noT] at h ⊢; exact hA _ h
def flagB (fl : Fl) (o : Oper) (l : TL) : Bool := (!inFl fl.cl o || (opdL o.op).all (nm0 l fl.nm)) && (!inFl fl.wr o || (opdL o.op).all fun x => pt0 fl.nm (ev (tg l) x))
theorem flagB_spec {fl : Fl} {o : Oper} {l : TL} (h : flagB fl o l = true) : Flag fl o (tg l) := by
  simp only [flagB, Bool.and_eq_true, Bool.or_eq_true, Bool.not_eq_true'] at h
  refine ⟨fun hc x hx => ?_, fun hc x hx i j k he => ?_⟩
  · have h1 := h.1.resolve_left (by rw [hc]; simp)
    have := List.all_eq_true.1 h1 x (by simpa [opdL] using hx)
    exact noT_nm (nmV_spec fl.nm this)
  · have h1 := h.2.resolve_left (by rw [hc]; simp)
    have := List.all_eq_true.1 h1 x (by simpa [opdL] using hx)
    rw [he] at this
    exact this
def runF (E : Env) (fl : Fl) (gd : List (Nat × Nat)) (ow : List Nat) : List Oper → TL → BL → (TL → BL → Prop) → Prop
  | [], l, b, K => K l b
  | o :: rest, l, b, K => flagB fl o l = true ∧ match guardB gd (tg l) o.guard with
    | some true => match o.dst with
      | some d => match stO E ow d l b o.op with
        | .go C l' b' => C ∧ runF E fl gd ow rest l' b' K
        | .call f vargs mem p => (E.loud f = mem.isSome) ∧ CallN E f vargs mem fun res rows mem' => runF E fl gd ow rest ((d, renT (8 * (d + 1)) res) :: l) (rowsD (8 * (d + 1)) rows ++ memD (bg b) p mem' ++ b) K
        | .bad => False
      | none => match o.op with
        | .store t p x => match qStore E (bg b) (tg l) t p x with
          | some (C, i, blk) => C ∧ runF E fl gd ow rest l ((i, some blk) :: b) K
          | none => False
        | _ => False
    | some false => match o.dst with
      | some d => runF E fl gd ow rest ((d, .skip) :: l) b K
      | none => runF E fl gd ow rest l b K
    | none => False
theorem ARun_nil' {E : Env} {ops : Array Oper} {fl : Fl} {S S' : AS} (h : S = S') : ARun E ops fl [] S S' := by subst h; exact .nil _
section
variable {E : Env} {ops : List Oper} {ow : List Nat}
theorem look_spec (ops : List Oper) : ∀ (gd : List (Nat × Nat)), lookOK ops gd = true → ∀ j d, look gd j = some d → (ops[j]?).bind (·.dst) = some d
  | [], _, j, d, h => by cases h
  | (i, e) :: gd, ho, j, d, h => by
    simp only [lookOK, List.all_cons, Bool.and_eq_true, beq_iff_eq] at ho
    simp only [look] at h
    cases hij : i == j with
    | true => rw [hij] at h; have e1 : i = j := by simpa using hij
              obtain rfl := Option.some.inj h; rw [← e1]; exact ho.1
    | false => rw [hij] at h; exact look_spec ops gd ho.2 j d h
theorem guardB_wanted {gd : List (Nat × Nat)} (hgd : lookOK ops gd = true) (T : Nat → V) (o : Oper) {b : Bool} (h : guardB gd T o.guard = some b) : wantedA ops.toArray T o = some b := by
  unfold wantedA
  unfold guardB at h
  cases hg : o.guard with
  | none => rw [hg] at h; exact h
  | some jw =>
    obtain ⟨j, w⟩ := jw
    rw [hg] at h
    simp only at h ⊢
    split at h
    · next d hd =>
      rw [List.getElem?_toArray, look_spec ops gd hgd j d hd]
      simp only
      split at h
      · next b' hT => rw [hT]; cases w <;> cases b' <;> exact h
      · next hT => rw [hT]; exact h
      · cases h
    · cases h
theorem argPtr_spec : ∀ (vs : List V) (i : Nat), argPtr vs = some i → .ptr i 0 0 ∈ vs
  | [], i, h => by cases h
  | v :: vs, i, h => by
    unfold argPtr at h
    split at h
    · next h' => cases h'
    · next h' => 
      obtain rfl := Option.some.inj h
      injection h' with h1 h2
      rw [h1]; exact List.mem_cons_self
    · next h' =>
      injection h' with h1 h2
      subst h2
      exact List.mem_cons_of_mem _ (argPtr_spec vs i h)
theorem runO_sound {o : Oper} {d : Nat} (hd : o.dst = some d) {l : TL} {b : BL} (hw : wantedA ops.toArray (tg l) o = some true) {k : TL → BL → Prop} (h : runO E ow d l b k o.op) :
    ∃ l' b', k l' b' ∧ ((∃ v δ, AStep E ops.toArray ⟨tg l, bg b⟩ o v δ ∧ after ⟨tg l, bg b⟩ o v δ = ⟨tg l', bg b'⟩) ∨ AApp E ops.toArray ⟨tg l, bg b⟩ o ⟨tg l', bg b'⟩) := by
  have hdn : o.dst ≠ none := by rw [hd]; simp
  have hn : nid o = 8 * (d + 1) := by simp [nid, hd]
  have quiet : ∀ (C : Prop) (v : V) (nb : Option Blk), qop E (ow.contains d) (bg b) (tg l) (8 * (d + 1)) o.op = some (C, v, nb) → C → AStep E ops.toArray ⟨tg l, bg b⟩ o v (nbD (8 * (d + 1)) nb) := fun C v nb hq hC => by
    have := AStep.quiet (E := E) (ops := ops.toArray) (S := ⟨tg l, bg b⟩) (o := o) hw hdn (ow.contains d) C v nb (by rw [hn]; exact hq) hC
    rw [hn] at this
    exact this
  have hq1 : ∀ (C : Prop) (v : V), qop E (ow.contains d) (bg b) (tg l) (8 * (d + 1)) o.op = some (C, v, none) → C ∧ k ((d, v) :: l) b → ∃ l' b', k l' b' ∧ ((∃ v δ, AStep E ops.toArray ⟨tg l, bg b⟩ o v δ ∧ after ⟨tg l, bg b⟩ o v δ = ⟨tg l', bg b'⟩) ∨ AApp E ops.toArray ⟨tg l, bg b⟩ o ⟨tg l', bg b'⟩) := fun C v hq hk =>
    ⟨_, _, hk.2, .inl ⟨v, _, quiet C v none hq hk.1, by simp only [after, hd, tg_upd, nbD, patch]⟩⟩
  have hq2 : ∀ (C : Prop) (v : V) (x : Blk), qop E (ow.contains d) (bg b) (tg l) (8 * (d + 1)) o.op = some (C, v, some x) → C ∧ k ((d, v) :: l) ((8 * (d + 1), some x) :: b) → ∃ l' b', k l' b' ∧ ((∃ v δ, AStep E ops.toArray ⟨tg l, bg b⟩ o v δ ∧ after ⟨tg l, bg b⟩ o v δ = ⟨tg l', bg b'⟩) ∨ AApp E ops.toArray ⟨tg l, bg b⟩ o ⟨tg l', bg b'⟩) := fun C v x hq hk =>
    ⟨_, _, hk.2, .inl ⟨v, _, quiet C v (some x) hq hk.1, by simp only [after, hd, tg_upd, nbD, bg_patch, List.cons_append, List.nil_append]⟩⟩
  unfold runO at h
  split at h
  · next c hop =>
    split at h
    · next f hcal =>
      split at h
      · next mem hmem =>
        split at h
        · next vargs hv =>
          obtain ⟨hl, res, rows, mem', hf, hk⟩ := h
          obtain ⟨callee, args, ts⟩ := c
          simp only at hcal
          subst hcal
          have hpm : (argPtr (args.toList.map (ev (tg l)))).isSome = mem.isSome := by
            simp only at hmem
            cases hp : argPtr (args.toList.map (ev (tg l))) with
            | none => rw [hp] at hmem; simp only [memIn, Option.some.injEq] at hmem; subst hmem; rfl
            | some i =>
              rw [hp] at hmem
              simp only [memIn] at hmem
              split at hmem
              · split at hmem
                · simp only [Option.some.injEq] at hmem; subst hmem; rfl
                · cases hmem
              · cases hmem
          have st := AStep.call (E := E) (ops := ops.toArray) (S := ⟨tg l, bg b⟩) (o := o) hw hdn f args ts hop (argPtr (args.toList.map (ev (tg l)))) (by rw [hl, hpm]) vargs mem res rows mem' hv (by
            simp only at hmem
            cases hp : argPtr (args.toList.map (ev (tg l))) with
            | none => rw [hp] at hmem; simp only [memIn, Option.some.injEq] at hmem; exact .inl ⟨rfl, hmem.symm⟩
            | some i =>
              rw [hp] at hmem
              simp only [memIn] at hmem
              split at hmem
              · next cs hB =>
                split at hmem
                · next ws hws =>
                  simp only [Option.some.injEq] at hmem
                  obtain ⟨x, hx, hxe⟩ := List.mem_map.1 (argPtr_spec _ _ hp)
                  exact .inr ⟨i, cs, ws, x, rfl, hx, hxe, hB, hws, hmem.symm⟩
                · cases hmem
              · cases hmem) hf
          rw [hn] at st
          exact ⟨_, _, hk, .inl ⟨_, _, st, by simp only [after, hd, tg_upd, bg_patch]⟩⟩
        · exact h.elim
      · exact h.elim
    · next hcal =>
      split at h
      · next s x t t' hargs hts =>
        obtain ⟨callee, args, ts⟩ := c
        simp only at hcal hargs hts
        have e1 : args = #[s, x] := by apply Array.ext'; simpa using hargs
        have e2 : ts = #[t, t'] := by apply Array.ext'; simpa using hts
        subst hcal e1 e2
        unfold qApp at h
        revert h
        cases he : E.el t with
        | none => simp
        | some e =>
          simp only
          cases hy : E.ti e with
          | none => simp [hy]
          | some y =>
            simp only
            intro h
            split at h
            · next C blk hC =>
              obtain ⟨rfl, hc, hab, hk⟩ := h
              split at hC
              · next f ss ys hsv hxv =>
                simp only [Option.some.injEq, Prod.mk.injEq, true_and] at hC
                obtain ⟨rfl, rfl⟩ := hC
                obtain ⟨rfl, c2, c3, c4⟩ := hc
                have st := AApp.mk (E := E) (ops := ops.toArray) (S := ⟨tg l, bg b⟩) (o := o) hw hdn t s x hop e y he hy none [] (.inl ⟨hsv, rfl, rfl⟩) f ys hxv c2 (fun _ => c3) (by simpa using c4) (by simp) (.inr (by
                  have := absB_spec hab
                  rw [hn]
                  have hle : ∀ v, noT (rng (8 * (d + 1))) v → noT (· = 8 * (d + 1)) v := fun v hv => noT_sub (fun i hi => by subst hi; exact ⟨Nat.le_refl _, by omega⟩) hv
                  exact ⟨fun t => hle _ (this.1 t), fun i x hx => ⟨fun hi => (this.2 i x hx).1 (by subst hi; exact ⟨Nat.le_refl _, by omega⟩), noB_sub (fun i hi => by subst hi; exact ⟨Nat.le_refl _, by omega⟩) (this.2 i x hx).2⟩⟩))
                simp only [appS, hn, hd, tg_upd, bg_upd, List.nil_append] at st
                exact ⟨_, _, hk, .inr st⟩
              · split at hC
                · simp only [Option.some.injEq, Prod.mk.injEq, reduceCtorEq, false_and, and_false] at hC
                · cases hC
              · cases hC
            · next C i blk hC =>
              obtain ⟨rfl, hc, hab, hk⟩ := h
              split at hC
              · simp only [Option.some.injEq, Prod.mk.injEq, reduceCtorEq, false_and, and_false] at hC
              · next i' f ss ys hsv hxv =>
                split at hC
                · next e' s' es hB =>
                  simp only [Option.some.injEq, Prod.mk.injEq] at hC
                  obtain ⟨rfl, rfl, rfl⟩ := hC
                  obtain ⟨rfl, rfl, c0, rfl, c2, c4⟩ := hc
                  have st := AApp.mk (E := E) (ops := ops.toArray) (S := ⟨tg l, bg b⟩) (o := o) hw hdn t s x hop e' y he hy (some i') es (.inr ⟨i', hsv, rfl, hB⟩) f ys hxv c2 (fun h => by cases h) c4 (fun i hi => by obtain rfl := Option.some.inj hi; exact c0) (by
                    rw [hn]
                    rcases hab with hab | hab
                    · exact .inl (by rw [hab])
                    · refine .inr ?_
                      have := absB_spec hab
                      have hle : ∀ v, noT (rng (8 * (d + 1))) v → noT (· = 8 * (d + 1)) v := fun v hv => noT_sub (fun i hi => by subst hi; exact ⟨Nat.le_refl _, by omega⟩) hv
                      exact ⟨fun t => hle _ (this.1 t), fun i x hx => ⟨fun hi => (this.2 i x hx).1 (by subst hi; exact ⟨Nat.le_refl _, by omega⟩), noB_sub (fun i hi => by subst hi; exact ⟨Nat.le_refl _, by omega⟩) (this.2 i x hx).2⟩⟩)
                  simp only [appS, killS, hn, hd, tg_kill, bg_kill, tg_upd, bg_upd] at st
                  exact ⟨_, _, hk, .inr st⟩
                · cases hC
              · cases hC
            · exact h.elim
      · exact h.elim
    · next h1 h2 =>
      rw [← hop] at h
      split at h
      · next C v hq => exact hq1 C v hq h
      · next C v x hq => exact hq2 C v x hq h
      · exact h.elim
  · next h1 =>
    split at h
    · next C v hq => exact hq1 C v hq h
    · next C v x hq => exact hq2 C v x hq h
    · exact h.elim
end
end Go.Proofs.YtfakhgopbhnocaaVM
namespace Go.Proofs.YtfakhgopbhnocaaVM
open Go

section
variable {E : Env} {ops : List Oper} {ow : List Nat} {fl : Fl}
theorem runF_sound {gd : List (Nat × Nat)} (hgd : lookOK ops gd = true) : ∀ (k : Nat) (rest : List Oper) (l : TL) (b : BL) (K : TL → BL → Prop), (∀ j, rest[j]? = ops[k + j]?) → runF E fl gd ow rest l b K → ∃ l' b', K l' b' ∧ ARun E ops.toArray fl (List.range' k rest.length) ⟨tg l, bg b⟩ ⟨tg l', bg b'⟩
  | k, [], l, b, K, hr, h => ⟨l, b, h, .nil _⟩
  | k, o :: rest, l, b, K, hr, h => by
    have ho : ops.toArray[k]? = some o := by have := hr 0; simp at this; simpa using this.symm
    have hr' : ∀ j, rest[j]? = ops[(k + 1) + j]? := fun j => by have := hr (j + 1); rw [show k + (j + 1) = k + 1 + j by omega] at this; simpa using this
    rw [List.length_cons, List.range'_succ]
    simp only [runF] at h
    obtain ⟨hfl, h⟩ := h
    have hfl := flagB_spec hfl
    split at h
    · next hg =>
      have hg := guardB_wanted hgd (tg l) o hg
      split at h
      · next d hd =>
        obtain ⟨l1, b1, hk, hst⟩ := runO_sound (k := fun l b => runF E fl gd ow rest l b K) hd hg (runO_stO h)
        obtain ⟨l', b', hK, hrun⟩ := runF_sound hgd (k + 1) rest l1 b1 K hr' hk
        refine ⟨l', b', hK, ?_⟩
        rcases hst with ⟨v, δ, st, e⟩ | st
        · exact .cons ho st hfl (by rw [e]; exact hrun)
        · exact .app ho st hrun
      · next hd =>
        split at h
        · next t p x hop =>
          split at h
          · next C i blk hq =>
            obtain ⟨hC, hk⟩ := h
            obtain ⟨l', b', hK, hrun⟩ := runF_sound hgd (k + 1) rest l ((i, some blk) :: b) K hr' hk
            refine ⟨l', b', hK, ?_⟩
            unfold qStore at hq
            split at hq
            · next y vs hy hv =>
              split at hq
              · next C0 i0 blk0 hs =>
                simp only [Option.some.injEq, Prod.mk.injEq] at hq
                obtain ⟨rfl, rfl, rfl⟩ := hq
                obtain ⟨c1, c2, c3⟩ := hC
                have st := AStep.store (E := E) (ops := ops.toArray) (S := ⟨tg l, bg b⟩) (o := o) hg hd t p x hop y hy vs hv c1 c2 C0 i0 blk0 hs c3
                refine .cons ho st hfl ?_
                simp only [after, hd, updO, bg_patch, List.cons_append, List.nil_append]
                exact hrun
              · cases hq
            · cases hq
          · exact h.elim
        · exact h.elim
    · next hg =>
      have hg := guardB_wanted hgd (tg l) o hg
      have st := AStep.skip (E := E) (ops := ops.toArray) (S := ⟨tg l, bg b⟩) (o := o) hg
      split at h
      · next d hd =>
        obtain ⟨l', b', hK, hrun⟩ := runF_sound hgd (k + 1) rest _ b K hr' h
        refine ⟨l', b', hK, .cons ho st hfl ?_⟩
        simp only [after, hd, tg_upd, patch]
        exact hrun
      · next hd =>
        obtain ⟨l', b', hK, hrun⟩ := runF_sound hgd (k + 1) rest l b K hr' h
        refine ⟨l', b', hK, .cons ho st hfl ?_⟩
        simp only [after, hd, updO, patch]
        exact hrun
    · exact h.elim

def keepT (l : TL) : List Nat → TL
  | [] => []
  | t :: ts => (t, tg l t) :: keepT l ts
def keepB (b : BL) : List Nat → BL
  | [] => []
  | i :: is => (i, bg b i) :: keepB b is
theorem keepT_spec (l : TL) : ∀ (ts : List Nat) (t : Nat), tg (keepT l ts) t = tg l t ∨ tg (keepT l ts) t = .und
  | [], t => .inr rfl
  | x :: ts, t => by
    simp only [keepT, tg]
    cases h : x == t
    · exact keepT_spec l ts t
    · have : x = t := by simpa using h
      subst this; exact .inl rfl
theorem keepB_spec (b : BL) : ∀ (ts : List Nat) (t : Nat), bg (keepB b ts) t = bg b t ∨ bg (keepB b ts) t = none
  | [], t => .inr rfl
  | x :: ts, t => by
    simp only [keepB, bg]
    cases h : x == t
    · exact keepB_spec b ts t
    · have : x = t := by simpa using h
      subst this; exact .inl rfl
/-- code over states that are lists -/
abbrev AL (E : Env) (N : Nat) (c : Code) (l : TL) (b : BL) (Q : Exit → AS → Prop) : Prop := AW E N c ⟨tg l, bg b⟩ Q
section
variable {N : Nat} {l : TL} {b : BL} {Q : Exit → AS → Prop}
/-- a region: what stays of the slots and the blocks is named -/
theorem AL_region (ts bs ow : List Nat) (fl : Fl) (gd : List (Nat × Nat)) {id : Nat} {ops : List Oper} {draw : Bool} {P : (TL → BL → Prop) → Prop} (hok : regOK E N fl ops.toArray = true) (hgd : lookOK ops gd = true) (hf : freshB ops l b = true)
    (h : ∀ K : TL → BL → Prop, P K → runF E fl gd ow ops l b (fun l b => K (keepT l ts) (keepB b bs))) (h2 : P (fun l b => Q .normal ⟨tg l, bg b⟩)) : AL E N (.region id ops.toArray draw) l b Q := by
  obtain ⟨l', b', hK, hrun⟩ := runF_sound (E := E) (ops := ops) (ow := ow) hgd 0 ops l b _ (fun j => by simp) (h (fun l b => Q .normal ⟨tg l, bg b⟩) h2)
  refine AW_region hok (freshB_spec hf) (by rw [List.range_eq_range']; exact hrun) _ _ (keepT_spec l' ts) (keepB_spec b' bs) hK
/-- freezing an own row -/
theorem AL_keep {c : Code} (ts bs : List Nat) (h : AL E N c (keepT l ts) (keepB b bs) Q) : AL E N c l b Q := AW_forget _ _ (keepT_spec l ts) (keepB_spec b bs) h
theorem AL_seq {x y : Code} (h : AL E N x l b (thenQ (fun S => AW E N y S Q) Q)) : AL E N (.seq x y) l b Q := AW_seq h
end
end
/-- what a body begins with -/
def argsL : Nat → List V → TL
  | _, [] => []
  | k, v :: vs => (k, v) :: argsL (k + 1) vs
theorem argsL_spec : ∀ (vs : List V) (k t : Nat), tg (argsL k vs) (k + t) = (vs[t]?).getD .und ∧ ∀ j, j < k → tg (argsL k vs) j = .und
  | [], k, t => ⟨rfl, fun j hj => rfl⟩
  | v :: vs, k, t => by
    have hk : ∀ j, k < j → (k == j) = false := fun j hj => by simp; omega
    refine ⟨?_, fun j hj => ?_⟩
    · cases t with
      | zero => simp [argsL, tg]
      | succ t =>
        simp only [argsL, tg, hk _ (show k < k + (t + 1) by omega), cond_false]
        rw [show k + (t + 1) = k + 1 + t by omega]
        simpa using (argsL_spec vs (k + 1) t).1
    · have : (k == j) = false := by simp; omega
      simp only [argsL, tg, this, cond_false]
      exact (argsL_spec vs (k + 1) 0).2 j (by omega)
def memL (us : Nat → Value) : Option (List V) → BL
  | none => []
  | some cs => [(0, some (.box (wrapL us 0 cs)))]
theorem FnV_list (E : Env) {f : FuncId} {fn : Func} {c : Code} {rs : List RV} {N : Nat} (hf : E.P.funcs[f]? = some fn) (hname : (fn.name == "runtime.NumGoroutine") = false) (hb : fn.body = some c) (hN : fn.ntmps = N) (hrs : fn.results.toList = rs.map RV.toRes) {args : List V} {mem : Option (List V)} {res : V} {rows : List RowD} {mem' : Option (List V)} (ids : List Nat)
    (hal : args.length ≤ N) (hsame : mem.isSome = mem'.isSome) (hfew : rows.length ≤ 8) (hnd : nodupB ids = true) (h : ∀ us, AL E N c (argsL 0 args) (memL us mem) (RetQ E rs ids us mem res rows mem')) : FnV E f args mem res rows mem' := by
  subst hN
  have hnd' : ∀ (l : List Nat), nodupB l = true → l.Nodup := fun l => by
    induction l with
    | nil => intro _; exact List.nodup_nil
    | cons x xs ih =>
      intro h
      simp only [nodupB, Bool.and_eq_true, Bool.not_eq_true', List.contains_eq_mem, decide_eq_false_iff_not] at h
      exact List.nodup_cons.2 ⟨h.1, ih h.2⟩
  refine FnV_of E hf hname hb hrs ids hal hsame hfew (hnd' ids hnd) (fun us => ?_)
  have e1 : args0 args = tg (argsL 0 args) := by
    funext t
    have := (argsL_spec args 0 t).1
    rw [Nat.zero_add] at this
    exact this.symm
  have e2 : mem0 us mem = bg (memL us mem) := by
    funext i
    unfold mem0
    cases mem with
    | none => simp [memL, bg]
    | some cs =>
      simp only [memL, bg]
      by_cases hi : i = 0
      · subst hi; rfl
      · have : (0 == i) = false := by simp; omega
        simp [hi, this]
  rw [e1, e2]
  exact h us
end Go.Proofs.YtfakhgopbhnocaaVM
namespace Go.Proofs.YtfakhgopbhnocaaVM
open Go

theorem zrep_cv0 {u : Value} (h : scal (cv0 u) = true) : zrep (cv0 u) u := by
  unfold cv0 at h ⊢
  split <;> first | rfl | (simp [scal] at h)
theorem TIok.of {P : Program} {t : TypeId} {x : TI} {z : Value} {d : TypeDesc} (h : (P.info? t).map (fun i => (i.zero, i.size, i.bytes)) = some (some z, x.size, x.bytes)) (hu : P.underlying t = some d) (ha : isAggD d = x.agg) (hz : x.zero = z.cells.toList.map cv0) (hs : x.zero.all scal = true) (hl : z.cells.size = x.size) (h1 : x.agg = false → x.size = 1) (hp : 0 < x.size) (hb : 0 < x.bytes) : TIok P t x := by
  obtain ⟨i, hi, he⟩ := Option.map_eq_some_iff.1 h
  simp only [Prod.mk.injEq] at he
  obtain ⟨e1, e2, e3⟩ := he
  refine ⟨⟨i, z, hi, e1, e2, e3, hl, by rw [hz]; simpa using hl, fun j v hv => ?_⟩, ⟨d, hu, ha⟩, h1, hp, hb⟩
  have hmem := List.all_eq_true.1 hs v (List.mem_of_getElem? hv)
  rw [hz, List.getElem?_map] at hv
  obtain ⟨u, hu', rfl⟩ := Option.map_eq_some_iff.1 hv
  exact ⟨u, by simpa using hu', zrep_cv0 hmem⟩
theorem fo_of {P : Program} {t : TypeId} {k n : Nat} {fs : Array Field} {f : Field} {s : Nat} (h : P.underlying t = some (.struct fs)) (hf : fs[k]? = some f) (hn : f.offset = n) (hi : (P.info? f.type).map (·.size) = some s) (hs : s ≠ 0) : ∃ fs f i, P.underlying t = some (.struct fs) ∧ fs[k]? = some f ∧ f.offset = n ∧ P.info? f.type = some i ∧ i.size ≠ 0 := by
  obtain ⟨i, h1, h2⟩ := Option.map_eq_some_iff.1 hi
  exact ⟨fs, f, i, h, hf, hn, h1, by rw [h2]; exact hs⟩
def retF (E : Env) (rs : List RV) (ids : List Nat) (l : TL) (b : BL) (us : Nat → Value) (mem : Option (List V)) (res : V) (rows : List RowD) (mem' : Option (List V)) : Prop :=
  match rets E ⟨tg l, bg b⟩ rs with
  | some (C, vs) => C ∧ match outAs (bg b) ids vs with
    | some ws => wkT (tup1 ws) res ∧ rowsAt (bg b) ids rows ∧ memQ (bg b) us mem mem'
    | none => False
  | none => False
theorem retF_spec {E : Env} {rs : List RV} {ids : List Nat} {l : TL} {b : BL} {us : Nat → Value} {mem : Option (List V)} {res : V} {rows : List RowD} {mem' : Option (List V)} {e : Exit} (he : e = .normal ∨ e = .ret) (h : retF E rs ids l b us mem res rows mem') : RetQ E rs ids us mem res rows mem' e ⟨tg l, bg b⟩ := by
  unfold retF at h
  split at h
  · next C vs hr =>
    obtain ⟨hC, h⟩ := h
    split at h
    · next ws hw => exact ⟨he, C, vs, ws, hr, hC, hw, h.1, h.2.1, h.2.2⟩
    · exact h.elim
  · exact h.elim
theorem AL_ret {E : Env} {N : Nat} {rs : List RV} {ids : List Nat} {l : TL} {b : BL} {us : Nat → Value} {mem : Option (List V)} {res : V} {rows : List RowD} {mem' : Option (List V)} {Q : Exit → AS → Prop} (hq : ∀ S, Q .ret S = RetQ E rs ids us mem res rows mem' .ret S) (h : retF E rs ids l b us mem res rows mem') : AL E N .ret l b Q :=
  AW_ret (by rw [hq]; exact retF_spec (.inr rfl) h)
theorem ibeq (a b : Int) : (a == b) = decide (a = b) := by
  by_cases h : a = b
  · subst h; simp
  · have : (a == b) = false := by simpa using h
    simp [this, h]
theorem ibne (a b : Int) : (a != b) = decide (¬ a = b) := by
  simp only [bne, ibeq]
  by_cases h : a = b <;> simp [h]
/-- '==' of structs whose cells are whole numbers, one field a cell -/
theorem eqFields_run {P : Program} {w : World} (d : Nat) (xs ys : Array Value) : ∀ (fs : List Field) (k : Nat) (as bs : List Int), (∀ f ∈ fs, f.name ≠ "_" ∧ P.underlying f.type = some (.int .i64)) → (∀ (j : Nat) f, fs[j]? = some f → f.offset = k + j) → as.length = fs.length → bs.length = fs.length →
    (∀ (j : Nat) x, as[j]? = some x → xs[k + j]? = some (.int .i64 x)) → (∀ (j : Nat) x, bs[j]? = some x → ys[k + j]? = some (.int .i64 x)) → (Op.eqFields (d + 1) xs ys fs).run P w = .ok (as == bs) w
  | [], k, as, bs, hf, ho, ha, hb, hx, hy => by
    have e1 : as = [] := List.eq_nil_of_length_eq_zero (by simpa using ha)
    have e2 : bs = [] := List.eq_nil_of_length_eq_zero (by simpa using hb)
    subst e1 e2
    rfl
  | f :: fs, k, as, bs, hf, ho, ha, hb, hx, hy => by
    match as, bs, ha, hb with
    | a :: as, b :: bs, ha, hb =>
      obtain ⟨h1, h2⟩ := hf f List.mem_cons_self
      have h3 : f.offset = k := by simpa using ho 0 f rfl
      have p1 : ∀ (zs : Array Value) (z : Int), zs[k]? = some (.int .i64 z) → (part f.type zs f.offset).run P w = .ok (.int .i64 z) w := fun zs z hz => by
        simp [part, isAgg, run_underlying h2, h3, hz]
      have q1 := p1 xs a (by simpa using hx 0 a rfl)
      have q2 := p1 ys b (by simpa using hy 0 b rfl)
      simp only [Op.eqFields, if_pos h1, Sem.run_bind, q1, q2, Result.andThen_ok, run_equalIn_int w d f.type .i64 .i64 a b h2, Sem.run_ite]
      have ih := eqFields_run (P := P) (w := w) d xs ys fs (k + 1) as bs (fun g hg => hf g (List.mem_cons_of_mem _ hg)) (fun j g hj => by rw [ho (j + 1) g (by simpa using hj)]; omega) (by simpa using ha) (by simpa using hb)
        (fun j x hj => by rw [show k + 1 + j = k + (j + 1) by omega]; exact hx (j + 1) x (by simpa using hj)) (fun j x hj => by rw [show k + 1 + j = k + (j + 1) by omega]; exact hy (j + 1) x (by simpa using hj))
      rw [ih]
      by_cases hab : a = b
      · subst hab; simp
      · have : (a == b) = false := by simpa using hab
        simp [this, hab]
theorem eqStruct_run {P : Program} {w : World} {t : TypeId} {fs : Array Field} (ht : P.underlying t = some (.struct fs)) (hs : P.stoodInHeld t = false) (as bs : List Int) (ha : as.length = fs.toList.length) (hb : bs.length = fs.toList.length) (hf : ∀ f ∈ fs.toList, f.name ≠ "_" ∧ P.underlying f.type = some (.int .i64)) (ho : fs.toList.map (·.offset) = List.range fs.toList.length) :
    (Op.equalIn 10000 t (.agg (as.map (.int .i64)).toArray) (.agg (bs.map (.int .i64)).toArray)).run P w = .ok (as == bs) w := by
  have hff : P.fieldsOf t = fs := by simp [Program.fieldsOf, ht]
  rw [run_equalIn_struct w 9999 t _ _ (by rw [hff]; exact ht) hs, hff]
  refine eqFields_run 9998 _ _ fs.toList 0 as bs hf (fun j f hj => ?_) ha hb (fun j x hj => by simp [hj]) (fun j x hj => by simp [hj])
  have h1 : (fs.toList.map (·.offset))[j]? = some f.offset := by rw [List.getElem?_map, hj]; rfl
  rw [ho, List.getElem?_range (List.getElem?_eq_some_iff.1 hj).1] at h1
  simpa using (Option.some.inj h1).symm
end Go.Proofs.YtfakhgopbhnocaaVM
