/- The law FnExactMixOf over numbers and lists: it is true of every input. -/
import Derived.Test.YtbkolnbdcifnlaaStatFnExactMixOf
import Derived.Test.YtbkolnbdcifnlaaModel
set_option linter.unusedVariables false
set_option linter.unusedSimpArgs false
namespace Go.Proofs.Ytbkolnbdcifnlaa.PureFnExactMixOf
open Go.RowKit Go.Proofs.Ytbkolnbdcifnlaa.PFnExactMixOf Go.Proofs.YtbkolnbdcifnlaaW.PrintWords Go.Proofs.YtbkolnbdcifnlaaW.PrintLast Go.Proofs.YtbkolnbdcifnlaaW.PrintMore Go.Proofs.Ytbkolnbdcifnlaa.Kit Go.Proofs.Ytbkolnbdcifnlaa.Model
theorem laws_toIntS_l0 (l : List Int) (hn : l.length ≤ 9223372036854775807) : ∀ (ys : List Int) (i : Nat) (x : List Int), l.drop i = ys → x.length = l.length → x.take i = l.take i → Ev (fun k => laws_toIntS.l0 k l x i) l
  | [], i, x, h, hl, ht => Ev.next0 fun k => by
      have h0 := drop_nil h
      have h1 : l.length = l.length := by simp
      simp only [laws_toIntS.l0]
      rw [if_neg (by omega), copy_end hl ht (by omega)]
  | y :: ys, i, x, h, hl, ht => by
      obtain ⟨h1, h2, h3⟩ := drop_cons h
      have hm : l.length = l.length := by simp
      have hg : l[i]? = some y := by simp [h2]
      obtain ⟨c1, c2⟩ := copy_step hg hl ht
      refine Ev.next1 (laws_toIntS_l0 l hn ys (i + 1) (x.set i y) h3 c1 c2) fun k hk => ?_
      have e := rd_drop h
      simp only [laws_toIntS.l0, e, Option.bind_some]
      rw [if_pos (by omega), if_pos (by omega), if_pos (by omega), wrap_succ h1 hn, toNat_cast]
      exact hk
theorem laws_toIntS_ev (l : List Int) (hn : l.length ≤ 35184372088832) : Ev (fun k => laws_toIntS.f k l) l :=
  Ev.of1 (laws_toIntS_l0 l (by omega) l 0 (List.replicate ((l.length : Int)).toNat 0) rfl (by simp) rfl) fun k hk => by
    simp only [laws_toIntS.f]
    rw [if_pos (by omega), if_pos (by omega)]
    exact hk
theorem laws_eqIntS_l0 (l : List Int) (hn : l.length ≤ 9223372036854775807) : ∀ (ys : List Int) (i : Nat), l.drop i = ys → Ev (fun k => laws_eqIntS.l0 k l l i) true
  | [], i, h => Ev.next0 fun k => by
      have h0 := drop_nil h
      simp only [laws_eqIntS.l0]
      rw [if_neg (by omega)]
  | y :: ys, i, h => by
      obtain ⟨h1, h2, h3⟩ := drop_cons h
      refine Ev.next1 (laws_eqIntS_l0 l hn ys (i + 1) h3) fun k hk => ?_
      have e := rd_drop h
      simp only [laws_eqIntS.l0, e]
      rw [if_pos (by omega), if_pos (by omega), if_pos (by omega), if_pos (by simp), wrap_succ h1 hn]
      exact hk
theorem laws_eqIntS_ev (l : List Int) (hn : l.length ≤ 9223372036854775807) : Ev (fun k => laws_eqIntS.f k l l) true :=
  Ev.of1 (laws_eqIntS_l0 l hn l 0 rfl) fun k hk => by
    simp only [laws_eqIntS.f]
    rw [if_pos (by simp)]
    exact hk
theorem spec_l1In_eq (a lo hi : Int) : spec_l1In.f a lo hi = some (decide (lo ≤ a ∧ a ≤ hi)) := by
  unfold spec_l1In.f
  split
  · congr 1; simp; omega
  · congr 1; simp; omega
theorem spec_l1All_l0 (lo hi : Int) (l : List Int) (hn : l.length ≤ 9223372036854775807) : ∀ (ys : List Int) (i : Nat), l.drop i = ys → Ev (fun k => spec_l1All.l0 k lo hi l (l.length : Int) i) (allIn lo hi ys)
  | [], i, h => Ev.next0 fun k => by
      have h0 := drop_nil h
      simp only [spec_l1All.l0, allIn]
      rw [if_neg (by omega)]
  | y :: ys, i, h => by
      obtain ⟨h1, h2, h3⟩ := drop_cons h
      refine Ev.next1 (spec_l1All_l0 lo hi l hn ys (i + 1) h3) fun k hk => ?_
      have e := rd_drop h
      simp only [spec_l1All.l0, e, spec_l1In_eq, Option.bind_some]
      rw [if_pos (by omega), if_pos (by omega), if_pos (by omega), wrap_succ h1 hn]
      by_cases hy : lo ≤ y ∧ y ≤ hi
      · rw [if_pos (decide_eq_true hy), hk]; simp [allIn, hy]
      · rw [if_neg (by simp; omega)]; simp [allIn, hy]
theorem spec_l1All_ev (l : List Int) (lo hi : Int) (hn : l.length ≤ 9223372036854775807) : Ev (fun k => spec_l1All.f k l lo hi) (allIn lo hi l) :=
  Ev.of1 (spec_l1All_l0 lo hi l hn l 0 rfl) fun k hk => by simp only [spec_l1All.f]; exact hk
theorem spec_brKeys_ev (l : List Int) (hn : l.length ≤ 9223372036854775807) : Ev (fun k => spec_brKeys.f k l) (keyOk l) :=
  Ev.of1 (spec_l1All_ev l 0 1000000000 hn) fun k hk => by
    simp only [spec_brKeys.f, hk, Option.bind_some, keyOk]
    by_cases h : l.length ≤ 8
    · rw [if_pos (by omega)]; simp [h]
    · rw [if_neg (by omega)]; simp [h]
theorem spec_l1Own_eq (l : List Int) (h : l.length < 17592186044416) : spec_l1Own.f l = some l := by
  simp only [spec_l1Own.f, Option.bind_some, List.length_nil, List.nil_append]
  rw [if_pos (by omega)]
theorem spec_brMix_l0 (l : List Int) (hn : l.length ≤ 9223372036854775807) : ∀ (ys : List Int) (i : Nat) (a : Int), l.drop i = ys → Ev (fun k => spec_brMix.l0 k a l (l.length : Int) i) (ys.foldl mixStep a)
  | [], i, a, h => Ev.next0 fun k => by
      have h0 := drop_nil h
      simp only [spec_brMix.l0, List.foldl]
      rw [if_neg (by omega)]
  | y :: ys, i, a, h => by
      obtain ⟨h1, h2, h3⟩ := drop_cons h
      refine Ev.next1 (spec_brMix_l0 l hn ys (i + 1) (mixStep a y) h3) fun k hk => ?_
      have e := rd_drop h
      simp only [spec_brMix.l0, e, List.foldl]
      rw [if_pos (by omega), if_pos (by omega), if_pos (by omega), wrap_succ h1 hn]
      exact hk
theorem spec_brMix_ev (l : List Int) (hn : l.length ≤ 1048576) : Ev (fun k => spec_brMix.f k l) (mix l) :=
  Ev.of1 (spec_brMix_l0 (l ++ [5, 2]) (by simp; omega) (l ++ [5, 2]) 0 (wrap64 (6007 + (l.length : Int))) rfl) fun k hk => by
    simp only [spec_brMix.f, spec_l1Own_eq l (by omega), Option.bind_some]
    rw [if_pos (by simp; omega)]
    exact hk
theorem spec_MixOf_ev (l : List Int) (hn : l.length ≤ 9223372036854775807) : Ev (fun k => spec_MixOf.f k l) (if keyOk l = true then (mix l, true) else (0, false)) := by
  by_cases h : keyOk l = true
  · have h8 : l.length ≤ 8 := by simp [keyOk] at h; exact h.1
    refine Ev.of2 (spec_brKeys_ev l hn) (spec_brMix_ev l (by omega)) fun k h1 h2 => ?_
    simp only [spec_MixOf.f, h1, h2, Option.bind_some]
    rw [if_pos h, if_pos h]
  · refine Ev.of1 (spec_brKeys_ev l hn) fun k h1 => ?_
    simp only [spec_MixOf.f, h1, Option.bind_some]
    rw [if_neg h, if_neg h]
theorem impl_isKeyList_l0 (l : List Int) (hn : l.length ≤ 9223372036854775807) : ∀ (ys : List Int) (i : Nat), l.drop i = ys → Ev (fun k => impl_isKeyList.l0 k l (l.length : Int) i) (allIn 0 1000000000 ys)
  | [], i, h => Ev.next0 fun k => by
      have h0 := drop_nil h
      simp only [impl_isKeyList.l0, allIn]
      rw [if_neg (by omega)]
  | y :: ys, i, h => by
      obtain ⟨h1, h2, h3⟩ := drop_cons h
      refine Ev.next1 (impl_isKeyList_l0 l hn ys (i + 1) h3) fun k hk => ?_
      have e := rd_drop h
      simp only [impl_isKeyList.l0, e]
      rw [if_pos (by omega), if_pos (by omega), if_pos (by omega), wrap_succ h1 hn]
      by_cases hy : 0 ≤ y
      · rw [if_neg (by omega)]
        by_cases hz : y ≤ 1000000000
        · rw [if_neg (by omega), hk]; simp [allIn, hy, hz]
        · rw [if_pos (by omega)]; simp [allIn, hz]
      · rw [if_pos (by omega)]; simp [allIn, hy]
theorem impl_isKeyList_ev (l : List Int) (hn : l.length ≤ 9223372036854775807) : Ev (fun k => impl_isKeyList.f k l) (keyOk l) :=
  Ev.of1 (impl_isKeyList_l0 l hn l 0 rfl) fun k hk => by
    simp only [impl_isKeyList.f, keyOk]
    by_cases h : l.length ≤ 8
    · rw [if_neg (by omega)]; simpa [h] using hk
    · rw [if_pos (by omega)]; simp [h]
theorem impl_mixOf_l0 (l : List Int) (hn : l.length ≤ 9223372036854775807) : ∀ (ys : List Int) (i : Nat) (a : Int), l.drop i = ys → Ev (fun k => impl_mixOf.l0 k a l (l.length : Int) i) (ys.foldl mixStep a)
  | [], i, a, h => Ev.next0 fun k => by
      have h0 := drop_nil h
      simp only [impl_mixOf.l0, List.foldl]
      rw [if_neg (by omega)]
  | y :: ys, i, a, h => by
      obtain ⟨h1, h2, h3⟩ := drop_cons h
      refine Ev.next1 (impl_mixOf_l0 l hn ys (i + 1) (mixStep a y) h3) fun k hk => ?_
      have e := rd_drop h
      simp only [impl_mixOf.l0, e, List.foldl]
      rw [if_pos (by omega), if_pos (by omega), if_pos (by omega), wrap_succ h1 hn]
      exact hk
theorem impl_mixOf_ev (l : List Int) (hn : l.length ≤ 1048576) : Ev (fun k => impl_mixOf.f k l) (mix l) :=
  Ev.of1 (impl_mixOf_l0 (l ++ [5, 2]) (by simp; omega) (l ++ [5, 2]) 0 (wrap64 (6007 + (l.length : Int))) rfl) fun k hk => by
    simp only [impl_mixOf.f, Option.bind_some, List.nil_append, List.length_nil]
    rw [if_pos (by omega), if_pos (by simp; omega)]
    exact hk
theorem impl_MixOf_ev (l : List Int) (hn : l.length ≤ 9223372036854775807) : Ev (fun k => impl_MixOf.f k l) (if keyOk l = true then (mix l, true) else (0, false)) := by
  by_cases h : keyOk l = true
  · have h8 : l.length ≤ 8 := by simp [keyOk] at h; exact h.1
    refine Ev.of2 (impl_isKeyList_ev l hn) (impl_mixOf_ev l (by omega)) fun k h1 h2 => ?_
    simp only [impl_MixOf.f, h1, h2, Option.bind_some]
    rw [if_pos h, if_pos h]
  · refine Ev.of1 (impl_isKeyList_ev l hn) fun k h1 => ?_
    simp only [impl_MixOf.f, h1, Option.bind_some]
    rw [if_neg h, if_neg h]
theorem j0_ev (l : List Int) (hn : l.length ≤ 1048576) : Ev (fun k => laws_FnExactMixOf.j0 k l l false) true :=
  (ev_and (laws_toIntS_ev l (by omega)) <| ev_one (laws_eqIntS_ev l (by omega))).next fun k ⟨h1, h2⟩ => by
    simp [laws_FnExactMixOf.j0, h1, h2]
theorem FnExactMixOf : Stat.FnExactMixOf := by
  intro l0  _
  refine Ev.rounds ?_
  by_cases hg : (l0.length : Int) > 1048576
  · exact Ev.all fun k => by simp only [laws_FnExactMixOf.f]; rw [if_pos hg]
  · have hn : l0.length ≤ 1048576 := by omega
    refine (ev_and (laws_toIntS_ev l0 (by omega)) <| ev_and (j0_ev l0 hn) <| ev_and (spec_MixOf_ev l0  (by omega)) <| ev_one (impl_MixOf_ev l0  (by omega))).ev fun k ⟨h1, h2, h3, h4⟩ => ?_
    simp only [laws_FnExactMixOf.f, h1, h3, h4, Option.bind_some]
    rw [if_neg hg]
    simp [h2]
end Go.Proofs.Ytbkolnbdcifnlaa.PureFnExactMixOf
namespace Go.Proofs.Ytbkolnbdcifnlaa.Pure
theorem FnExactMixOf : Stat.FnExactMixOf := PureFnExactMixOf.FnExactMixOf
end Go.Proofs.Ytbkolnbdcifnlaa.Pure
