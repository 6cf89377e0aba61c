/- The law FnExactWithCalendar over numbers and lists: it is true of every input. -/
import Derived.Test.YtbkolnbdcifnlaaStatFnExactWithCalendar
import Derived.Test.YtbkolnbdcifnlaaModel
set_option linter.unusedVariables false
set_option linter.unusedSimpArgs false
namespace Go.Proofs.Ytbkolnbdcifnlaa.PureFnExactWithCalendar
open Go.RowKit Go.Proofs.Ytbkolnbdcifnlaa.PFnExactWithCalendar Go.Proofs.YtbkolnbdcifnlaaW.PrintWords Go.Proofs.YtbkolnbdcifnlaaW.PrintLast Go.Proofs.YtbkolnbdcifnlaaW.PrintMore Go.Proofs.Ytbkolnbdcifnlaa.Kit Go.Proofs.Ytbkolnbdcifnlaa.Model
theorem laws_toBoolS_l0 (l : List Bool) (hn : l.length ≤ 9223372036854775807) : ∀ (ys : List Bool) (i : Nat) (x : List Bool), l.drop i = ys → x.length = l.length → x.take i = l.take i → Ev (fun k => laws_toBoolS.l0 k l x i) l
  | [], i, x, h, hl, ht => Ev.next0 fun k => by
      have h0 := drop_nil h
      have h1 : l.length = l.length := by simp
      simp only [laws_toBoolS.l0]
      rw [if_neg (by omega), copy_end hl ht (by omega)]
  | y :: ys, i, x, h, hl, ht => by
      obtain ⟨h1, h2, h3⟩ := drop_cons h
      have hm : l.length = l.length := by simp
      have hg : l[i]? = some y := by simp [h2]
      obtain ⟨c1, c2⟩ := copy_step hg hl ht
      refine Ev.next1 (laws_toBoolS_l0 l hn ys (i + 1) (x.set i y) h3 c1 c2) fun k hk => ?_
      have e := rdOf_drop (d := false) h
      simp only [laws_toBoolS.l0, e, Option.bind_some]
      rw [if_pos (by omega), if_pos (by omega), if_pos (by omega), wrap_succ h1 hn, toNat_cast]
      exact hk
theorem laws_toBoolS_ev (l : List Bool) (hn : l.length ≤ 281474976710656) : Ev (fun k => laws_toBoolS.f k l) l :=
  Ev.of1 (laws_toBoolS_l0 l (by omega) l 0 (List.replicate ((l.length : Int)).toNat false) rfl (by simp) rfl) fun k hk => by
    simp only [laws_toBoolS.f]
    rw [if_pos (by omega), if_pos (by omega)]
    exact hk
theorem laws_eqBoolS_l0 (l : List Bool) (hn : l.length ≤ 9223372036854775807) : ∀ (ys : List Bool) (i : Nat), l.drop i = ys → Ev (fun k => laws_eqBoolS.l0 k l l i) true
  | [], i, h => Ev.next0 fun k => by
      have h0 := drop_nil h
      simp only [laws_eqBoolS.l0]
      rw [if_neg (by omega)]
  | y :: ys, i, h => by
      obtain ⟨h1, h2, h3⟩ := drop_cons h
      refine Ev.next1 (laws_eqBoolS_l0 l hn ys (i + 1) h3) fun k hk => ?_
      have e := rdOf_drop (d := false) h
      simp only [laws_eqBoolS.l0, e]
      rw [if_pos (by omega), if_pos (by omega), if_pos (by omega), if_neg (by simp), wrap_succ h1 hn]
      exact hk
theorem laws_eqBoolS_ev (l : List Bool) (hn : l.length ≤ 9223372036854775807) : Ev (fun k => laws_eqBoolS.f k l l) true :=
  Ev.of1 (laws_eqBoolS_l0 l hn l 0 rfl) fun k hk => by
    simp only [laws_eqBoolS.f]
    rw [if_pos (by simp)]
    exact hk
theorem laws_toIntS_l0 (l : List Int) (hn : l.length ≤ 9223372036854775807) : ∀ (ys : List Int) (i : Nat) (x : List Int), l.drop i = ys → x.length = l.length → x.take i = l.take i → Ev (fun k => laws_toIntS.l0 k l x i) l
  | [], i, x, h, hl, ht => Ev.next0 fun k => by
      have h0 := drop_nil h
      have h1 : l.length = l.length := by simp
      simp only [laws_toIntS.l0]
      rw [if_neg (by omega), copy_end hl ht (by omega)]
  | y :: ys, i, x, h, hl, ht => by
      obtain ⟨h1, h2, h3⟩ := drop_cons h
      have hm : l.length = l.length := by simp
      have hg : l[i]? = some y := by simp [h2]
      obtain ⟨c1, c2⟩ := copy_step hg hl ht
      refine Ev.next1 (laws_toIntS_l0 l hn ys (i + 1) (x.set i y) h3 c1 c2) fun k hk => ?_
      have e := rd_drop h
      simp only [laws_toIntS.l0, e, Option.bind_some]
      rw [if_pos (by omega), if_pos (by omega), if_pos (by omega), wrap_succ h1 hn, toNat_cast]
      exact hk
theorem laws_toIntS_ev (l : List Int) (hn : l.length ≤ 35184372088832) : Ev (fun k => laws_toIntS.f k l) l :=
  Ev.of1 (laws_toIntS_l0 l (by omega) l 0 (List.replicate ((l.length : Int)).toNat 0) rfl (by simp) rfl) fun k hk => by
    simp only [laws_toIntS.f]
    rw [if_pos (by omega), if_pos (by omega)]
    exact hk
theorem laws_eqIntS_l0 (l : List Int) (hn : l.length ≤ 9223372036854775807) : ∀ (ys : List Int) (i : Nat), l.drop i = ys → Ev (fun k => laws_eqIntS.l0 k l l i) true
  | [], i, h => Ev.next0 fun k => by
      have h0 := drop_nil h
      simp only [laws_eqIntS.l0]
      rw [if_neg (by omega)]
  | y :: ys, i, h => by
      obtain ⟨h1, h2, h3⟩ := drop_cons h
      refine Ev.next1 (laws_eqIntS_l0 l hn ys (i + 1) h3) fun k hk => ?_
      have e := rd_drop h
      simp only [laws_eqIntS.l0, e]
      rw [if_pos (by omega), if_pos (by omega), if_pos (by omega), if_pos (by simp), wrap_succ h1 hn]
      exact hk
theorem laws_eqIntS_ev (l : List Int) (hn : l.length ≤ 9223372036854775807) : Ev (fun k => laws_eqIntS.f k l l) true :=
  Ev.of1 (laws_eqIntS_l0 l hn l 0 rfl) fun k hk => by
    simp only [laws_eqIntS.f]
    rw [if_pos (by simp)]
    exact hk
theorem spec_l1In_eq (a lo hi : Int) : spec_l1In.f a lo hi = some (decide (lo ≤ a ∧ a ≤ hi)) := by
  unfold spec_l1In.f
  split
  · congr 1; simp; omega
  · congr 1; simp; omega
theorem spec_l1Rising_l0 (n : Int) (l : List Int) (hn : l.length ≤ 9223372036854775807) : ∀ (ys : List Int) (i : Nat) (p : Int), l.drop i = ys → (i = 0 ∧ p = -1 ∨ 0 < i ∧ l[i - 1]? = some p) → Ev (fun k => spec_l1Rising.l0 k l 0 (n - 1) l (l.length : Int) i) (rise n p ys)
  | [], i, p, h, hp => Ev.next0 fun k => by
      have h0 := drop_nil h
      simp only [spec_l1Rising.l0, rise]
      rw [if_neg (by omega)]
  | y :: ys, i, p, h, hp => by
      obtain ⟨h1, h2, h3⟩ := drop_cons h
      refine Ev.next1 (spec_l1Rising_l0 n l hn ys (i + 1) y h3 (.inr ⟨by omega, by simpa using h2⟩)) fun k hk => ?_
      have e := rd_drop h
      simp only [spec_l1Rising.l0, e, spec_l1In_eq, Option.bind_some, rise]
      rw [if_pos (by omega), if_pos (by omega), if_pos (by omega), wrap_succ h1 hn]
      by_cases hy : 0 ≤ y ∧ y < n
      · rw [if_pos (by simp; omega)]
        rcases hp with ⟨rfl, rfl⟩ | ⟨hi, hp⟩
        · rw [if_neg (by omega), hk]; simp; omega
        · have e2 : rd l (wrap64 ((i : Int) - 1)) = p := by
            rw [wrap_id (by omega) (by omega), show (i : Int) - 1 = ((i - 1 : Nat) : Int) by omega]; exact rd_get hp
          rw [if_pos (by omega), wrap_id (by omega) (by omega), if_pos (by omega), if_pos (by omega)]
          rw [wrap_id (by omega) (by omega)] at e2
          rw [e2]
          by_cases hq : p < y
          · rw [if_neg (by omega), hk]; simp [hy, hq]
          · rw [if_pos (by omega)]; simp [hq]
      · rw [if_neg (by simp; omega)]; congr 1; symm; simp; omega
theorem spec_l1Rising_ev (n : Int) (l : List Int) (hn : l.length ≤ 9223372036854775807) : Ev (fun k => spec_l1Rising.f k l 0 (n - 1)) (rise n (-1) l) :=
  Ev.of1 (spec_l1Rising_l0 n l hn l 0 (-1) rfl (.inl ⟨rfl, rfl⟩)) fun k hk => by simp only [spec_l1Rising.f]; exact hk
def offAll (l : List Bool) (off : List Int) : List Bool := off.foldl (fun a s => a.set s.toNat false) l
theorem offAll_length : ∀ (off : List Int) (l : List Bool), (offAll l off).length = l.length
  | [], l => rfl
  | s :: off, l => by
    have := offAll_length off (l.set s.toNat false)
    simp only [List.length_set] at this
    exact this
def withCal (l : List Bool) (off : List Int) : List Bool × Bool := if l.length ≤ 60 ∧ rise l.length (-1) off = true then (offAll l off, true) else ([], false)
theorem spec_WithCalendar_l0 (n : Nat) (off : List Int) (hn : off.length ≤ 9223372036854775807) (ho : ∀ s ∈ off, 0 ≤ s ∧ s < (n : Int)) : ∀ (ys : List Int) (i : Nat) (a : List Bool), off.drop i = ys → a.length = n → Ev (fun k => spec_WithCalendar.l0 k a off (off.length : Int) i) (offAll a ys, true)
  | [], i, a, h, ha => Ev.next0 fun k => by
      have h0 := drop_nil h
      simp only [spec_WithCalendar.l0, offAll, List.foldl]
      rw [if_neg (by omega)]
  | y :: ys, i, a, h, ha => by
      obtain ⟨h1, h2, h3⟩ := drop_cons h
      have hy := ho y (List.mem_of_getElem? h2)
      refine Ev.next1 (spec_WithCalendar_l0 n off hn ho ys (i + 1) (a.set y.toNat false) h3 (by simpa using ha)) fun k hk => ?_
      have e := rd_drop h
      simp only [spec_WithCalendar.l0, e]
      rw [if_pos (by omega), if_pos (by omega), if_pos (by omega), if_pos (by omega), if_pos (by omega), wrap_succ h1 hn]
      exact hk
theorem spec_WithCalendar_j0 (l : List Bool) (off : List Int) (hl : l.length ≤ 60) (hn : off.length ≤ 9223372036854775807) (ho : rise l.length (-1) off = true) : Ev (fun k => spec_WithCalendar.j0 k l off false) (offAll l off, true) :=
  Ev.next1 (spec_WithCalendar_l0 l.length off hn (fun s hs => by have := rise_mem ho s hs; omega) off 0 l rfl rfl) fun k hk => by
    simp only [spec_WithCalendar.j0, Option.bind_some, List.length_nil, List.nil_append]
    rw [if_neg (by simp), if_pos (by omega)]
    exact hk
theorem spec_WithCalendar_no (l : List Bool) (off : List Int) : Ev (fun k => spec_WithCalendar.j0 k l off true) ([], false) := Ev.next0 fun k => by simp [spec_WithCalendar.j0]
theorem spec_WithCalendar_ev (l : List Bool) (off : List Int) (hn : off.length ≤ 9223372036854775807) : Ev (fun k => spec_WithCalendar.f k l off) (withCal l off) := by
  by_cases hl : l.length ≤ 60
  · by_cases ho : rise l.length (-1) off = true
    · refine (ev_and (spec_l1Rising_ev (l.length : Int) off hn) <| ev_one (spec_WithCalendar_j0 l off hl hn ho)).ev fun k ⟨h1, h2⟩ => ?_
      simp only [spec_WithCalendar.f]
      rw [if_neg (by omega), wrap_id (by omega) (by omega), h1, Option.bind_some, ho, Bool.not_true, h2, withCal, if_pos ⟨hl, ho⟩]
    · refine (ev_and (spec_l1Rising_ev (l.length : Int) off hn) <| ev_one (spec_WithCalendar_no l off)).ev fun k ⟨h1, h2⟩ => ?_
      simp only [spec_WithCalendar.f]
      rw [if_neg (by omega), wrap_id (by omega) (by omega), h1, Option.bind_some, show (!rise l.length (-1) off) = true by simpa using ho, h2, withCal, if_neg (fun h => ho h.2)]
  · refine (ev_one (spec_WithCalendar_no l off)).ev fun k h2 => ?_
    simp only [spec_WithCalendar.f]
    rw [if_pos (by omega), h2, withCal, if_neg (fun h => hl h.1)]
theorem impl_areBlocks_l0 (n : Int) (l : List Int) (hn : l.length ≤ 9223372036854775807) : ∀ (ys : List Int) (i : Nat) (p : Int), l.drop i = ys → (i = 0 ∧ p = -1 ∨ 0 < i ∧ l[i - 1]? = some p) → Ev (fun k => impl_areBlocks.l0 k l n l (l.length : Int) i) (rise n p ys)
  | [], i, p, h, hp => Ev.next0 fun k => by
      have h0 := drop_nil h
      simp only [impl_areBlocks.l0, rise]
      rw [if_neg (by omega)]
  | y :: ys, i, p, h, hp => by
      obtain ⟨h1, h2, h3⟩ := drop_cons h
      refine Ev.next1 (impl_areBlocks_l0 n l hn ys (i + 1) y h3 (.inr ⟨by omega, by simpa using h2⟩)) fun k hk => ?_
      have e := rd_drop h
      simp only [impl_areBlocks.l0, e, rise]
      rw [if_pos (by omega), if_pos (by omega), if_pos (by omega), wrap_succ h1 hn]
      by_cases hy : 0 ≤ y ∧ y < n
      · rw [if_neg (by omega), if_neg (by omega)]
        rcases hp with ⟨rfl, rfl⟩ | ⟨hi, hp⟩
        · rw [if_neg (by omega), hk]; simp; omega
        · have e2 : rd l ((i : Int) - 1) = p := by
            rw [show (i : Int) - 1 = ((i - 1 : Nat) : Int) by omega]; exact rd_get hp
          rw [if_pos (by omega), wrap_id (by omega) (by omega), if_pos (by omega), if_pos (by omega), e2]
          by_cases hq : p < y
          · rw [if_neg (by omega), hk]; simp [hy, hq]
          · rw [if_pos (by omega)]; simp [hq]
      · have e3 : (decide (0 ≤ y ∧ y < n ∧ p < y) && rise n y ys) = false := by simp; omega
        rw [e3]; split
        · rfl
        · rw [if_pos (by omega)]
theorem impl_areBlocks_ev (n : Int) (l : List Int) (hn : l.length ≤ 9223372036854775807) : Ev (fun k => impl_areBlocks.f k l n) (rise n (-1) l) :=
  Ev.of1 (impl_areBlocks_l0 n l hn l 0 (-1) rfl (.inl ⟨rfl, rfl⟩)) fun k hk => by simp only [impl_areBlocks.f]; exact hk
-- needs: spec_WithCalendar
theorem impl_WithCalendar_l0 (n : Nat) (off : List Int) (hn : off.length ≤ 9223372036854775807) (ho : ∀ s ∈ off, 0 ≤ s ∧ s < (n : Int)) : ∀ (ys : List Int) (i : Nat) (a : List Bool), off.drop i = ys → a.length = n → Ev (fun k => impl_WithCalendar.l0 k a off (off.length : Int) i) (offAll a ys, true)
  | [], i, a, h, ha => Ev.next0 fun k => by
      have h0 := drop_nil h
      simp only [impl_WithCalendar.l0, offAll, List.foldl]
      rw [if_neg (by omega)]
  | y :: ys, i, a, h, ha => by
      obtain ⟨h1, h2, h3⟩ := drop_cons h
      have hy := ho y (List.mem_of_getElem? h2)
      refine Ev.next1 (impl_WithCalendar_l0 n off hn ho ys (i + 1) (a.set y.toNat false) h3 (by simpa using ha)) fun k hk => ?_
      have e := rd_drop h
      simp only [impl_WithCalendar.l0, e]
      rw [if_pos (by omega), if_pos (by omega), if_pos (by omega), if_pos (by omega), if_pos (by omega), wrap_succ h1 hn]
      exact hk
theorem impl_WithCalendar_j0 (l : List Bool) (off : List Int) (hl : l.length ≤ 60) (hn : off.length ≤ 9223372036854775807) (ho : rise l.length (-1) off = true) : Ev (fun k => impl_WithCalendar.j0 k l off false) (offAll l off, true) :=
  Ev.next1 (impl_WithCalendar_l0 l.length off hn (fun s hs => by have := rise_mem ho s hs; omega) off 0 l rfl rfl) fun k hk => by
    simp only [impl_WithCalendar.j0, Option.bind_some, List.length_nil, List.nil_append]
    rw [if_neg (by simp), if_pos (by omega)]
    exact hk
theorem impl_WithCalendar_no (l : List Bool) (off : List Int) : Ev (fun k => impl_WithCalendar.j0 k l off true) ([], false) := Ev.next0 fun k => by simp [impl_WithCalendar.j0]
theorem impl_WithCalendar_ev (l : List Bool) (off : List Int) (hn : off.length ≤ 9223372036854775807) : Ev (fun k => impl_WithCalendar.f k l off) (withCal l off) := by
  by_cases hl : l.length ≤ 60
  · by_cases ho : rise l.length (-1) off = true
    · refine (ev_and (impl_areBlocks_ev (l.length : Int) off hn) <| ev_one (impl_WithCalendar_j0 l off hl hn ho)).ev fun k ⟨h1, h2⟩ => ?_
      simp only [impl_WithCalendar.f]
      rw [if_neg (by omega), h1, Option.bind_some, ho, Bool.not_true, h2, withCal, if_pos ⟨hl, ho⟩]
    · refine (ev_and (impl_areBlocks_ev (l.length : Int) off hn) <| ev_one (impl_WithCalendar_no l off)).ev fun k ⟨h1, h2⟩ => ?_
      simp only [impl_WithCalendar.f]
      rw [if_neg (by omega), h1, Option.bind_some, show (!rise l.length (-1) off) = true by simpa using ho, h2, withCal, if_neg (fun h => ho h.2)]
  · refine (ev_one (impl_WithCalendar_no l off)).ev fun k h2 => ?_
    simp only [impl_WithCalendar.f]
    rw [if_pos (by omega), h2, withCal, if_neg (fun h => hl h.1)]
theorem laws_markBoolS_l0 (n : Nat) (c : Int) (hc : 0 ≤ c) (hb : c + n ≤ 9223372036854775807) : ∀ (d i : Nat) (x : List Bool), i + d = n → x.length = n → x.take i = (markB n c).take i → Ev (fun k => laws_markBoolS.l0 k x (c + (i : Int)) i) (c + (n : Int), markB n c)
  | 0, i, x, hd, hl, ht => Ev.next0 fun k => by
      simp only [laws_markBoolS.l0]
      rw [if_neg (by omega), copy_end (by rw [hl, markB_length]) ht (by rw [markB_length]; omega), show i = n by omega]
  | d + 1, i, x, hd, hl, ht => by
      obtain ⟨c1, c2⟩ := copy_step (markB_get n c i (by omega)) (by rw [hl, markB_length]) ht
      refine Ev.next1 (laws_markBoolS_l0 n c hc hb d (i + 1) _ (by omega) (by rw [c1, markB_length]) c2) fun k hk => ?_
      simp only [laws_markBoolS.l0]
      rw [if_pos (by omega), if_pos (by omega), wrap_succ (n := n) (by omega) (by omega), wrap_id (by omega) (by omega), toNat_cast, show c + (i : Int) + 1 = c + ((i + 1 : Nat) : Int) by push_cast; omega]
      exact hk
theorem laws_markBoolS_ev (x : List Bool) (c : Int) (hc : 0 ≤ c) (hb : c + x.length ≤ 9223372036854775807) : Ev (fun k => laws_markBoolS.f k x c) (c + (x.length : Int), markB x.length c) :=
  Ev.of1 (laws_markBoolS_l0 x.length c hc hb x.length 0 x (by omega) rfl rfl) fun k hk => by
    simp only [laws_markBoolS.f]
    rw [show c + ((0 : Nat) : Int) = c by omega] at hk
    exact hk
theorem laws_markIntS_l0 (n : Nat) (c : Int) (hc : 0 ≤ c) (hb : c + n ≤ 9223372036854775807) : ∀ (d i : Nat) (x : List Int), i + d = n → x.length = n → x.take i = (markI n c).take i → Ev (fun k => laws_markIntS.l0 k x (c + (i : Int)) i) (c + (n : Int), markI n c)
  | 0, i, x, hd, hl, ht => Ev.next0 fun k => by
      simp only [laws_markIntS.l0]
      rw [if_neg (by omega), copy_end (by rw [hl, markI_length]) ht (by rw [markI_length]; omega), show i = n by omega]
  | d + 1, i, x, hd, hl, ht => by
      obtain ⟨c1, c2⟩ := copy_step (markI_get n c i (by omega)) (by rw [hl, markI_length]) ht
      refine Ev.next1 (laws_markIntS_l0 n c hc hb d (i + 1) _ (by omega) (by rw [c1, markI_length]) c2) fun k hk => ?_
      simp only [laws_markIntS.l0]
      rw [if_pos (by omega), if_pos (by omega), wrap_succ (n := n) (by omega) (by omega), wrap_id (by omega) (by omega), toNat_cast, show c + (i : Int) + 1 = c + ((i + 1 : Nat) : Int) by push_cast; omega]
      exact hk
theorem laws_markIntS_ev (x : List Int) (c : Int) (hc : 0 ≤ c) (hb : c + x.length ≤ 9223372036854775807) : Ev (fun k => laws_markIntS.f k x c) (c + (x.length : Int), markI x.length c) :=
  Ev.of1 (laws_markIntS_l0 x.length c hc hb x.length 0 x (by omega) rfl rfl) fun k hk => by
    simp only [laws_markIntS.f]
    rw [show c + ((0 : Nat) : Int) = c by omega] at hk
    exact hk
theorem laws_heldBoolS_l0 (n : Nat) (c : Int) (hc : 0 ≤ c) (hb : c + n ≤ 9223372036854775807) : ∀ (d i : Nat), i + d = n → Ev (fun k => laws_heldBoolS.l0 k (markB n c) (c + (i : Int)) i) (c + (n : Int))
  | 0, i, hd => Ev.next0 fun k => by
      simp only [laws_heldBoolS.l0]
      rw [if_neg (by rw [markB_length]; omega), show i = n by omega]
  | d + 1, i, hd => by
      refine Ev.next1 (laws_heldBoolS_l0 n c hc hb d (i + 1) (by omega)) fun k hk => ?_
      have e := rdOf_get (d := false) (markB_get n c i (by omega))
      simp only [laws_heldBoolS.l0, e]
      rw [if_pos (by rw [markB_length]; omega), if_pos (by omega), if_neg (by simp), wrap_succ (n := n) (by omega) (by omega), wrap_id (by omega) (by omega), show c + (i : Int) + 1 = c + ((i + 1 : Nat) : Int) by push_cast; omega]
      exact hk
theorem laws_heldBoolS_ev (n : Nat) (c : Int) (hc : 0 ≤ c) (hb : c + n ≤ 9223372036854775807) : Ev (fun k => laws_heldBoolS.f k (markB n c) c) (c + (n : Int)) :=
  Ev.of1 (laws_heldBoolS_l0 n c hc hb n 0 (by omega)) fun k hk => by
    simp only [laws_heldBoolS.f]
    rw [show c + ((0 : Nat) : Int) = c by omega] at hk
    exact hk
theorem withCal_len (l : List Bool) (off : List Int) : (withCal l off).1.length ≤ 60 := by
  unfold withCal
  split
  · rw [offAll_length]; omega
  · simp
theorem j2_ev (n : Nat) (hn : n ≤ 1048576) : Ev (fun k => laws_FnExactWithCalendar.j2 k (markB n 1) (1 + (n : Int)) false) true :=
  (ev_one (laws_heldBoolS_ev n 1 (by omega) (by omega))).next fun k h1 => by
    simp only [laws_FnExactWithCalendar.j2, h1, Option.bind_some]
    rw [if_neg (by simp), if_neg (by omega), if_pos (by simp)]
theorem j1_ev (l : List Bool) (off : List Int) (hn : l.length ≤ 1048576) (ho : off.length ≤ 1048576) : Ev (fun k => laws_FnExactWithCalendar.j1 k l off (withCal l off).1 (withCal l off).2 (withCal l off).1 false) true := by
  have hw := withCal_len l off
  refine (ev_and (laws_markBoolS_ev (withCal l off).1 1 (by omega) (by omega)) <| ev_and (laws_heldBoolS_ev (withCal l off).1.length 1 (by omega) (by omega)) <| ev_and (laws_toBoolS_ev l (by omega)) <| ev_and (laws_toIntS_ev off (by omega)) <|
    ev_and (impl_WithCalendar_ev l off (by omega)) <| ev_and (laws_eqBoolS_ev (withCal l off).1 (by omega)) <| ev_one (j2_ev (withCal l off).1.length (by omega))).next fun k ⟨h1, h2, h3, h4, h5, h6, h7⟩ => ?_
  simp only [laws_FnExactWithCalendar.j1, h1, h2, h3, h4, h5, h6, Option.bind_some]
  rw [if_neg (by simp), if_neg (by omega), if_pos (by simp), if_pos (by simp), bne_self_eq_false, h7]
theorem j0_ev (l : List Bool) (off : List Int) (hn : l.length ≤ 1048576) (ho : off.length ≤ 1048576) : Ev (fun k => laws_FnExactWithCalendar.j0 k l off (withCal l off).1 (withCal l off).2 l off (withCal l off).1 (withCal l off).2 false) true := by
  have hw := withCal_len l off
  refine (ev_and (laws_toBoolS_ev l (by omega)) <| ev_and (laws_eqBoolS_ev l (by omega)) <| ev_and (laws_toIntS_ev off (by omega)) <| ev_and (laws_eqIntS_ev off (by omega)) <| ev_and (laws_markBoolS_ev l 1 (by omega) (by omega)) <|
    ev_and (laws_markIntS_ev off (1 + (l.length : Int)) (by omega) (by omega)) <| ev_and (laws_eqBoolS_ev (withCal l off).1 (by omega)) <| ev_one (j1_ev l off hn ho)).next fun k ⟨h1, h2, h3, h4, h5, h6, h7, h8⟩ => ?_
  simp only [laws_FnExactWithCalendar.j0, h1, h2, h3, h4, h5, h6, h7, Option.bind_some]
  rw [if_neg (by simp), if_pos (by simp), if_pos (by simp), if_neg (by omega), if_pos (by simp), bne_self_eq_false, h8]
theorem FnExactWithCalendar : Stat.FnExactWithCalendar := by
  intro l off hl ho
  refine Ev.rounds ?_
  by_cases hg : (l.length : Int) > 1048576
  · exact Ev.all fun k => by simp only [laws_FnExactWithCalendar.f]; rw [if_pos hg]
  by_cases hq : (off.length : Int) > 1048576
  · exact Ev.all fun k => by simp only [laws_FnExactWithCalendar.f]; rw [if_neg hg, if_pos hq]
  have hn : l.length ≤ 1048576 := by omega
  have hm : off.length ≤ 1048576 := by omega
  have hw := withCal_len l off
  refine (ev_and (laws_toBoolS_ev l (by omega)) <| ev_and (laws_toIntS_ev off (by omega)) <| ev_and (spec_WithCalendar_ev l off (by omega)) <| ev_and (impl_WithCalendar_ev l off (by omega)) <| ev_and (laws_eqBoolS_ev (withCal l off).1 (by omega)) <| ev_one (j0_ev l off hn hm)).ev fun k ⟨h1, h2, h3, h4, h5, h6⟩ => ?_
  simp only [laws_FnExactWithCalendar.f, h1, h2, h3, h4, h5, Option.bind_some]
  rw [if_neg hg, if_neg hq, if_pos (by simp), bne_self_eq_false, h6]
end Go.Proofs.Ytbkolnbdcifnlaa.PureFnExactWithCalendar
namespace Go.Proofs.Ytbkolnbdcifnlaa.Pure
theorem FnExactWithCalendar : Stat.FnExactWithCalendar := PureFnExactWithCalendar.FnExactWithCalendar
end Go.Proofs.Ytbkolnbdcifnlaa.Pure
