/- The law FnExactReadyIn over numbers and lists: it is true of every input. -/
import Derived.Test.YtbkolnbdcifnlaaStatFnExactReadyIn
import Derived.Test.YtbkolnbdcifnlaaModel
set_option linter.unusedVariables false
set_option linter.unusedSimpArgs false
namespace Go.Proofs.Ytbkolnbdcifnlaa.PureFnExactReadyIn
open Go.RowKit Go.Proofs.Ytbkolnbdcifnlaa.PFnExactReadyIn Go.Proofs.YtbkolnbdcifnlaaW.PrintWords Go.Proofs.YtbkolnbdcifnlaaW.PrintLast Go.Proofs.YtbkolnbdcifnlaaW.PrintMore Go.Proofs.Ytbkolnbdcifnlaa.Kit Go.Proofs.Ytbkolnbdcifnlaa.Model
theorem spec_brReady_l0 (l : List Bool) (hn : l.length ≤ 4611686018427387904) : ∀ (ys : List Bool) (i : Nat) (a : Int), l.drop i = ys → 0 ≤ a → a ≤ i → Ev (fun k => spec_brReady.l0 k a l (l.length : Int) i) (a + (ys.count true : Int))
  | [], i, a, h, h0, ha => Ev.next0 fun k => by
      have := drop_nil h
      simp only [spec_brReady.l0]
      rw [if_neg (by omega)]; simp
  | y :: ys, i, a, h, h0, ha => by
      obtain ⟨h1, h2, h3⟩ := drop_cons h
      have e := rdOf_drop (d := false) h
      cases y with
      | true =>
        refine Ev.next1 (spec_brReady_l0 l hn ys (i + 1) (a + 1) h3 (by omega) (by push_cast; omega)) fun k hk => ?_
        simp only [spec_brReady.l0, e]
        rw [if_pos (by omega), if_pos (by omega), if_pos (by omega), if_pos (by simp), wrap_succ h1 (by omega), wrap_id (by omega) (by omega), hk]
        congr 1; simp; omega
      | false =>
        refine Ev.next1 (spec_brReady_l0 l hn ys (i + 1) a h3 h0 (by push_cast; omega)) fun k hk => ?_
        simp only [spec_brReady.l0, e]
        rw [if_pos (by omega), if_pos (by omega), if_pos (by omega), if_neg (by simp), wrap_succ h1 (by omega), hk]
        simp
theorem spec_brReady_ev (l : List Bool) (hn : l.length ≤ 4611686018427387904) : Ev (fun k => spec_brReady.f k l) (l.count true : Int) :=
  Ev.of1 (spec_brReady_l0 l hn l 0 0 rfl (by omega) (by omega)) fun k hk => by simp only [spec_brReady.f]; simpa using hk
theorem spec_ReadyIn_ev (l : List Bool) (hn : l.length ≤ 4611686018427387904) : Ev (fun k => spec_ReadyIn.f k l) (if l.length > 60 then (0, false) else ((l.count true : Int), true)) :=
  Ev.of1 (spec_brReady_ev l hn) fun k hk => by
    simp only [spec_ReadyIn.f, hk, Option.bind_some]
    split <;> (split <;> first | rfl | omega)
theorem laws_toBoolS_l0 (l : List Bool) (hn : l.length ≤ 9223372036854775807) : ∀ (ys : List Bool) (i : Nat) (x : List Bool), l.drop i = ys → x.length = l.length → x.take i = l.take i → Ev (fun k => laws_toBoolS.l0 k l x i) l
  | [], i, x, h, hl, ht => Ev.next0 fun k => by
      have h0 := drop_nil h
      have h1 : l.length = l.length := by simp
      simp only [laws_toBoolS.l0]
      rw [if_neg (by omega), copy_end hl ht (by omega)]
  | y :: ys, i, x, h, hl, ht => by
      obtain ⟨h1, h2, h3⟩ := drop_cons h
      have hm : l.length = l.length := by simp
      have hg : l[i]? = some y := by simp [h2]
      obtain ⟨c1, c2⟩ := copy_step hg hl ht
      refine Ev.next1 (laws_toBoolS_l0 l hn ys (i + 1) (x.set i y) h3 c1 c2) fun k hk => ?_
      have e := rdOf_drop (d := false) h
      simp only [laws_toBoolS.l0, e, Option.bind_some]
      rw [if_pos (by omega), if_pos (by omega), if_pos (by omega), wrap_succ h1 hn, toNat_cast]
      exact hk
theorem laws_toBoolS_ev (l : List Bool) (hn : l.length ≤ 281474976710656) : Ev (fun k => laws_toBoolS.f k l) l :=
  Ev.of1 (laws_toBoolS_l0 l (by omega) l 0 (List.replicate ((l.length : Int)).toNat false) rfl (by simp) rfl) fun k hk => by
    simp only [laws_toBoolS.f]
    rw [if_pos (by omega), if_pos (by omega)]
    exact hk
theorem impl_ReadyIn_l0 (l : List Bool) (hn : l.length ≤ 4611686018427387904) : ∀ (ys : List Bool) (i : Nat) (a : Int), l.drop i = ys → 0 ≤ a → a ≤ i → Ev (fun k => impl_ReadyIn.l0 k a l (l.length : Int) i) (a + (ys.count true : Int), true)
  | [], i, a, h, h0, ha => Ev.next0 fun k => by
      have := drop_nil h
      simp only [impl_ReadyIn.l0]
      rw [if_neg (by omega)]; simp
  | y :: ys, i, a, h, h0, ha => by
      obtain ⟨h1, h2, h3⟩ := drop_cons h
      have e := rdOf_drop (d := false) h
      cases y with
      | true =>
        refine Ev.next1 (impl_ReadyIn_l0 l hn ys (i + 1) (a + 1) h3 (by omega) (by push_cast; omega)) fun k hk => ?_
        simp only [impl_ReadyIn.l0, e]
        rw [if_pos (by omega), if_pos (by omega), if_pos (by omega), if_pos (by simp), wrap_succ h1 (by omega), wrap_id (by omega) (by omega), hk]
        congr 2; simp; omega
      | false =>
        refine Ev.next1 (impl_ReadyIn_l0 l hn ys (i + 1) a h3 h0 (by push_cast; omega)) fun k hk => ?_
        simp only [impl_ReadyIn.l0, e]
        rw [if_pos (by omega), if_pos (by omega), if_pos (by omega), if_neg (by simp), wrap_succ h1 (by omega), hk]
        simp
theorem impl_ReadyIn_ev (l : List Bool) (hn : l.length ≤ 4611686018427387904) : Ev (fun k => impl_ReadyIn.f k l) (if l.length > 60 then (0, false) else ((l.count true : Int), true)) :=
  Ev.of1 (impl_ReadyIn_l0 l hn l 0 0 rfl (by omega) (by omega)) fun k hk => by
    simp only [impl_ReadyIn.f]
    split
    · rw [if_pos (by omega)]
    · rw [if_neg (by omega)]; simpa using hk
theorem laws_eqBoolS_l0 (l : List Bool) (hn : l.length ≤ 9223372036854775807) : ∀ (ys : List Bool) (i : Nat), l.drop i = ys → Ev (fun k => laws_eqBoolS.l0 k l l i) true
  | [], i, h => Ev.next0 fun k => by
      have h0 := drop_nil h
      simp only [laws_eqBoolS.l0]
      rw [if_neg (by omega)]
  | y :: ys, i, h => by
      obtain ⟨h1, h2, h3⟩ := drop_cons h
      refine Ev.next1 (laws_eqBoolS_l0 l hn ys (i + 1) h3) fun k hk => ?_
      have e := rdOf_drop (d := false) h
      simp only [laws_eqBoolS.l0, e]
      rw [if_pos (by omega), if_pos (by omega), if_pos (by omega), if_neg (by simp), wrap_succ h1 hn]
      exact hk
theorem laws_eqBoolS_ev (l : List Bool) (hn : l.length ≤ 9223372036854775807) : Ev (fun k => laws_eqBoolS.f k l l) true :=
  Ev.of1 (laws_eqBoolS_l0 l hn l 0 rfl) fun k hk => by
    simp only [laws_eqBoolS.f]
    rw [if_pos (by simp)]
    exact hk
theorem j0_ev (l : List Bool) (hn : l.length ≤ 1048576) : Ev (fun k => laws_FnExactReadyIn.j0 k l l false) true :=
  (ev_and (laws_toBoolS_ev l (by omega)) <| ev_one (laws_eqBoolS_ev l (by omega))).next fun k ⟨h1, h2⟩ => by
    simp [laws_FnExactReadyIn.j0, h1, h2]
theorem FnExactReadyIn : Stat.FnExactReadyIn := by
  intro l0  _
  refine Ev.rounds ?_
  by_cases hg : (l0.length : Int) > 1048576
  · exact Ev.all fun k => by simp only [laws_FnExactReadyIn.f]; rw [if_pos hg]
  · have hn : l0.length ≤ 1048576 := by omega
    refine (ev_and (laws_toBoolS_ev l0 (by omega)) <| ev_and (j0_ev l0 hn) <| ev_and (spec_ReadyIn_ev l0  (by omega)) <| ev_one (impl_ReadyIn_ev l0  (by omega))).ev fun k ⟨h1, h2, h3, h4⟩ => ?_
    simp only [laws_FnExactReadyIn.f, h1, h3, h4, Option.bind_some]
    rw [if_neg hg]
    simp [h2]
end Go.Proofs.Ytbkolnbdcifnlaa.PureFnExactReadyIn
namespace Go.Proofs.Ytbkolnbdcifnlaa.Pure
theorem FnExactReadyIn : Stat.FnExactReadyIn := PureFnExactReadyIn.FnExactReadyIn
end Go.Proofs.Ytbkolnbdcifnlaa.Pure
