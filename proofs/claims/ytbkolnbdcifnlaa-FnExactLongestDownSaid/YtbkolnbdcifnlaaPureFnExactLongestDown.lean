/- The law FnExactLongestDown over numbers and lists: it is true of every input. -/
import Derived.Test.YtbkolnbdcifnlaaStatFnExactLongestDown
import Derived.Test.YtbkolnbdcifnlaaModel
set_option linter.unusedVariables false
set_option linter.unusedSimpArgs false
namespace Go.Proofs.Ytbkolnbdcifnlaa.PureFnExactLongestDown
open Go.RowKit Go.Proofs.Ytbkolnbdcifnlaa.PFnExactLongestDown Go.Proofs.YtbkolnbdcifnlaaW.PrintWords Go.Proofs.YtbkolnbdcifnlaaW.PrintLast Go.Proofs.YtbkolnbdcifnlaaW.PrintMore Go.Proofs.Ytbkolnbdcifnlaa.Kit Go.Proofs.Ytbkolnbdcifnlaa.Model
theorem laws_toBoolS_l0 (l : List Bool) (hn : l.length ≤ 9223372036854775807) : ∀ (ys : List Bool) (i : Nat) (x : List Bool), l.drop i = ys → x.length = l.length → x.take i = l.take i → Ev (fun k => laws_toBoolS.l0 k l x i) l
  | [], i, x, h, hl, ht => Ev.next0 fun k => by
      have h0 := drop_nil h
      have h1 : l.length = l.length := by simp
      simp only [laws_toBoolS.l0]
      rw [if_neg (by omega), copy_end hl ht (by omega)]
  | y :: ys, i, x, h, hl, ht => by
      obtain ⟨h1, h2, h3⟩ := drop_cons h
      have hm : l.length = l.length := by simp
      have hg : l[i]? = some y := by simp [h2]
      obtain ⟨c1, c2⟩ := copy_step hg hl ht
      refine Ev.next1 (laws_toBoolS_l0 l hn ys (i + 1) (x.set i y) h3 c1 c2) fun k hk => ?_
      have e := rdOf_drop (d := false) h
      simp only [laws_toBoolS.l0, e, Option.bind_some]
      rw [if_pos (by omega), if_pos (by omega), if_pos (by omega), wrap_succ h1 hn, toNat_cast]
      exact hk
theorem laws_toBoolS_ev (l : List Bool) (hn : l.length ≤ 281474976710656) : Ev (fun k => laws_toBoolS.f k l) l :=
  Ev.of1 (laws_toBoolS_l0 l (by omega) l 0 (List.replicate ((l.length : Int)).toNat false) rfl (by simp) rfl) fun k hk => by
    simp only [laws_toBoolS.f]
    rw [if_pos (by omega), if_pos (by omega)]
    exact hk
theorem laws_eqBoolS_l0 (l : List Bool) (hn : l.length ≤ 9223372036854775807) : ∀ (ys : List Bool) (i : Nat), l.drop i = ys → Ev (fun k => laws_eqBoolS.l0 k l l i) true
  | [], i, h => Ev.next0 fun k => by
      have h0 := drop_nil h
      simp only [laws_eqBoolS.l0]
      rw [if_neg (by omega)]
  | y :: ys, i, h => by
      obtain ⟨h1, h2, h3⟩ := drop_cons h
      refine Ev.next1 (laws_eqBoolS_l0 l hn ys (i + 1) h3) fun k hk => ?_
      have e := rdOf_drop (d := false) h
      simp only [laws_eqBoolS.l0, e]
      rw [if_pos (by omega), if_pos (by omega), if_pos (by omega), if_neg (by simp), wrap_succ h1 hn]
      exact hk
theorem laws_eqBoolS_ev (l : List Bool) (hn : l.length ≤ 9223372036854775807) : Ev (fun k => laws_eqBoolS.f k l l) true :=
  Ev.of1 (laws_eqBoolS_l0 l hn l 0 rfl) fun k hk => by
    simp only [laws_eqBoolS.f]
    rw [if_pos (by simp)]
    exact hk
theorem spec_l1Most_eq (a b : Int) : spec_l1Most.f a b = some (max a b) := by
  unfold spec_l1Most.f
  split <;> (congr 1; omega)
theorem spec_LongestDown_l0 (l : List Bool) (hn : l.length ≤ 4611686018427387904) : ∀ (ys : List Bool) (i : Nat) (m n : Int), l.drop i = ys → 0 ≤ n → n ≤ i → Ev (fun k => spec_LongestDown.l0 k m n l (l.length : Int) i) (down ys m n, true)
  | [], i, m, n, h, h0, ha => Ev.next0 fun k => by
      have := drop_nil h
      simp only [spec_LongestDown.l0, down]
      rw [if_neg (by omega)]
  | y :: ys, i, m, n, h, h0, ha => by
      obtain ⟨h1, h2, h3⟩ := drop_cons h
      have e := rdOf_drop (d := false) h
      cases y with
      | true =>
        refine Ev.next1 (spec_LongestDown_l0 l hn ys (i + 1) (max m 0) 0 h3 (by omega) (by push_cast; omega)) fun k hk => ?_
        simp only [spec_LongestDown.l0, e, spec_l1Most_eq, Option.bind_some, down, if_true]
        rw [if_pos (by omega), if_pos (by omega), if_pos (by omega), wrap_succ h1 (by omega)]
        exact hk
      | false =>
        refine Ev.next1 (spec_LongestDown_l0 l hn ys (i + 1) (max m (n + 1)) (n + 1) h3 (by omega) (by push_cast; omega)) fun k hk => ?_
        simp only [spec_LongestDown.l0, e, spec_l1Most_eq, Option.bind_some, down]
        rw [if_pos (by omega), if_pos (by omega), if_pos (by omega), if_neg (by simp), wrap_succ h1 (by omega), wrap_id (by omega) (by omega), if_neg (by simp)]
        exact hk
theorem spec_LongestDown_ev (l : List Bool) (hn : l.length ≤ 4611686018427387904) : Ev (fun k => spec_LongestDown.f k l) (if l.length > 60 then (0, false) else (down l 0 0, true)) :=
  Ev.of1 (spec_LongestDown_l0 l hn l 0 0 0 rfl (by omega) (by omega)) fun k hk => by
    simp only [spec_LongestDown.f]
    split
    · rw [if_pos (by omega)]
    · rw [if_neg (by omega)]; exact hk
theorem impl_LongestDown_l0 (l : List Bool) (hn : l.length ≤ 4611686018427387904) : ∀ (ys : List Bool) (i : Nat) (m n : Int), l.drop i = ys → 0 ≤ n → n ≤ i → Ev (fun k => impl_LongestDown.l0 k m n l (l.length : Int) i) (down ys m n, true)
  | [], i, m, n, h, h0, ha => Ev.next0 fun k => by
      have := drop_nil h
      simp only [impl_LongestDown.l0, down]
      rw [if_neg (by omega)]
  | y :: ys, i, m, n, h, h0, ha => by
      obtain ⟨h1, h2, h3⟩ := drop_cons h
      have e := rdOf_drop (d := false) h
      cases y with
      | true =>
        refine Ev.next1 (impl_LongestDown_l0 l hn ys (i + 1) (max m 0) 0 h3 (by omega) (by push_cast; omega)) fun k hk => ?_
        simp only [impl_LongestDown.l0, e, mx_eq, down, if_true]
        rw [if_pos (by omega), if_pos (by omega), if_pos (by omega), wrap_succ h1 (by omega)]
        exact hk
      | false =>
        refine Ev.next1 (impl_LongestDown_l0 l hn ys (i + 1) (max m (n + 1)) (n + 1) h3 (by omega) (by push_cast; omega)) fun k hk => ?_
        simp only [impl_LongestDown.l0, e, mx_eq, down]
        rw [if_pos (by omega), if_pos (by omega), if_pos (by omega), if_neg (by simp), wrap_succ h1 (by omega), wrap_id (by omega) (by omega), if_neg (by simp)]
        exact hk
theorem impl_LongestDown_ev (l : List Bool) (hn : l.length ≤ 4611686018427387904) : Ev (fun k => impl_LongestDown.f k l) (if l.length > 60 then (0, false) else (down l 0 0, true)) :=
  Ev.of1 (impl_LongestDown_l0 l hn l 0 0 0 rfl (by omega) (by omega)) fun k hk => by
    simp only [impl_LongestDown.f]
    split
    · rw [if_pos (by omega)]
    · rw [if_neg (by omega)]; exact hk
theorem j0_ev (l : List Bool) (hn : l.length ≤ 1048576) : Ev (fun k => laws_FnExactLongestDown.j0 k l l false) true :=
  (ev_and (laws_toBoolS_ev l (by omega)) <| ev_one (laws_eqBoolS_ev l (by omega))).next fun k ⟨h1, h2⟩ => by
    simp [laws_FnExactLongestDown.j0, h1, h2]
theorem FnExactLongestDown : Stat.FnExactLongestDown := by
  intro l0  _
  refine Ev.rounds ?_
  by_cases hg : (l0.length : Int) > 1048576
  · exact Ev.all fun k => by simp only [laws_FnExactLongestDown.f]; rw [if_pos hg]
  · have hn : l0.length ≤ 1048576 := by omega
    refine (ev_and (laws_toBoolS_ev l0 (by omega)) <| ev_and (j0_ev l0 hn) <| ev_and (spec_LongestDown_ev l0  (by omega)) <| ev_one (impl_LongestDown_ev l0  (by omega))).ev fun k ⟨h1, h2, h3, h4⟩ => ?_
    simp only [laws_FnExactLongestDown.f, h1, h3, h4, Option.bind_some]
    rw [if_neg hg]
    simp [h2]
end Go.Proofs.Ytbkolnbdcifnlaa.PureFnExactLongestDown
namespace Go.Proofs.Ytbkolnbdcifnlaa.Pure
theorem FnExactLongestDown : Stat.FnExactLongestDown := PureFnExactLongestDown.FnExactLongestDown
end Go.Proofs.Ytbkolnbdcifnlaa.Pure
