/- This text is this session's own, not the print's: programs (wip/squeeze.py and others) made it out of what print.sh, or wip/ownprint.py, had written (BYTES set higher), its facts said by short words. -/
import Derived.Test.YtagnldmaglbpaaaPFnExactSpareMillx0
import Derived.Test.YtagnldmaglbpaaaPFnExactSpareMillx1
import Derived.Test.YtagnldmaglbpaaaPFnExactSpareMillx2
import Derived.Test.YtagnldmaglbpaaaPFnExactSpareMillx5
import Derived.Test.YtagnldmaglbpaaaPFnExactSpareMillx8
import Derived.Test.YtagnldmaglbpaaaPFnExactSpareMillvx9
import Derived.Test.YtagnldmaglbpaaaPFnExactSpareMillwx9
namespace Go.Proofs.Ytagnldmaglbpaaa.PFnExactSpareMill
open Go.RowKit Go.Proofs.YtagnldmaglbpaaaW.PrintWords Go.Proofs.YtagnldmaglbpaaaW.PrintLast Go.Proofs.YtagnldmaglbpaaaW.PrintMore
attribute [local go_sem] max2_int min2_int max_two min_two max_three min_three max_four min_four   -- for this text's walks alone
set_option linter.unusedVariables false
set_option linter.unusedSimpArgs false

/-! ### laws_FnExactSpareMill: function 11 -/
mutual
def laws_FnExactSpareMill.j0 : Nat → List (List Int) → List Int → Bool → List (List Int) → List Int → Bool → Bool → List (List Int) → List Int → List Int → Int → Int → Int → Int → Int → List (List Int) → List Int → List Int → Int → Int → Int → Int → Int → Option (Bool)
 | 0, _, _, _, _, _, _, _, _, _, _, _, _, _, _, _, _, _, _, _, _, _, _, _ => none
 | k + 1, x1, x6, x7, x9, x10, x11, x53, x207000, x207001, x207002, x207003, x207004, x207005, x207006, x207007, x245000, x245001, x245002, x245003, x245004, x245005, x245006, x245007 => if x53 = true then (some false) else ((laws_toJob.f k x207000 x207001 x207002 x207003 x207004 x207005 x207006 x207007).bind fun bt253 => ((laws_eqJob.f k x245000 x245001 x245002 x245003 x245004 x245005 x245006 x245007 bt253.1 bt253.2.1 bt253.2.2.1 bt253.2.2.2.1 bt253.2.2.2.2.1 bt253.2.2.2.2.2.1 bt253.2.2.2.2.2.2.1 bt253.2.2.2.2.2.2.2).bind fun t267 => (if t267 = true then ((laws_toIntSS.f k x1).bind fun t268 => ((laws_eqIntSS.f k x9 t268).bind fun t271 => (if t271 = true then ((laws_markJob.f k x245000 x245001 x245002 x245003 x245004 x245005 x245006 x245007 1).bind fun bt272 => ((laws_markIntSS.p k x9 bt272.1).bind fun bt276 => (if bt276.1 < 0 then (laws_FnExactSpareMill.j1 k x1 x6 x7 x10 true x207000 x207001 x207002 x207003 x207004 x207005 x207006 x207007) else ((laws_eqIntS.f k x10 x6).bind fun t278 => (if t278 = true then (laws_FnExactSpareMill.j1 k x1 x6 x7 x10 (x11 != x7) x207000 x207001 x207002 x207003 x207004 x207005 x207006 x207007) else (laws_FnExactSpareMill.j1 k x1 x6 x7 x10 true x207000 x207001 x207002 x207003 x207004 x207005 x207006 x207007)))))) else (some false)))) else (some false))))
def laws_FnExactSpareMill.j1 : Nat → List (List Int) → List Int → Bool → List Int → Bool → List (List Int) → List Int → List Int → Int → Int → Int → Int → Int → Option (Bool)
 | 0, _, _, _, _, _, _, _, _, _, _, _, _, _ => none
 | k + 1, x1, x6, x7, x10, x82, x207000, x207001, x207002, x207003, x207004, x207005, x207006, x207007 => if x82 = true then (some false) else ((laws_markIntS.f k x10 1).bind fun bt279 => ((laws_heldIntS.f k bt279.2 1).bind fun t281 => (if t281 < 0 then (some false) else (if t281 = bt279.1 then ((laws_toJob.f k x207000 x207001 x207002 x207003 x207004 x207005 x207006 x207007).bind fun bt282 => ((laws_toIntSS.f k x1).bind fun t296 => ((impl_SpareMill.f k bt282.1 bt282.2.1 bt282.2.2.1 bt282.2.2.2.1 bt282.2.2.2.2.1 bt282.2.2.2.2.2.1 bt282.2.2.2.2.2.2.1 bt282.2.2.2.2.2.2.2 t296).bind fun bt299 => ((laws_eqIntS.f k bt299.1 x6).bind fun t303 => (if t303 = true then (laws_FnExactSpareMill.j2 k bt279.2 bt279.1 (bt299.2 != x7)) else (laws_FnExactSpareMill.j2 k bt279.2 bt279.1 true)))))) else (some false)))))
def laws_FnExactSpareMill.j2 : Nat → List Int → Int → Bool → Option (Bool)
 | 0, _, _, _ => none
 | k + 1, x10, x13, x110 => if x110 = true then (some false) else ((laws_heldIntS.f k x10 1).bind fun t304 => (if t304 < 0 then (some false) else (if t304 = x13 then (some true) else (some false))))
end
def laws_FnExactSpareMill.f (k : Nat) (l0_0 : List (List Int)) (l0_1 : List Int) (l0_2 : List Int) (a0_3 : Int) (a0_4 : Int) (a0_5 : Int) (a0_6 : Int) (a0_7 : Int) (l1 : List (List Int)) : Option (Bool) := (laws_szJob.f k l0_0 l0_1 l0_2 a0_3 a0_4 a0_5 a0_6 a0_7 1048576).bind fun t207 => (if t207 < 0 then (some true) else ((laws_szIntSS.f k l1 t207).bind fun t208 => (if t208 < 0 then (some true) else ((laws_toJob.f k l0_0 l0_1 l0_2 a0_3 a0_4 a0_5 a0_6 a0_7).bind fun bt209 => ((laws_toIntSS.f k l1).bind fun t223 => ((spec_SpareMill.f k bt209.1 bt209.2.1 bt209.2.2.1 bt209.2.2.2.1 bt209.2.2.2.2.1 bt209.2.2.2.2.2.1 bt209.2.2.2.2.2.2.1 bt209.2.2.2.2.2.2.2 t223).bind fun bt226 => ((laws_toJob.f k l0_0 l0_1 l0_2 a0_3 a0_4 a0_5 a0_6 a0_7).bind fun bt230 => ((laws_toIntSS.f k l1).bind fun t245 => ((impl_SpareMill.f k bt230.1 bt230.2.1 bt230.2.2.1 bt230.2.2.2.1 bt230.2.2.2.2.1 bt230.2.2.2.2.2.1 bt230.2.2.2.2.2.2.1 bt230.2.2.2.2.2.2.2 t245).bind fun bt248 => ((laws_eqIntS.f k bt248.1 bt226.1).bind fun t252 => (if t252 = true then (laws_FnExactSpareMill.j0 k l1 bt226.1 bt226.2 t245 bt248.1 bt248.2 (bt248.2 != bt226.2) l0_0 l0_1 l0_2 a0_3 a0_4 a0_5 a0_6 a0_7 bt230.1 bt230.2.1 bt230.2.2.1 bt230.2.2.2.1 bt230.2.2.2.2.1 bt230.2.2.2.2.2.1 bt230.2.2.2.2.2.2.1 bt230.2.2.2.2.2.2.2) else (laws_FnExactSpareMill.j0 k l1 bt226.1 bt226.2 t245 bt248.1 bt248.2 true l0_0 l0_1 l0_2 a0_3 a0_4 a0_5 a0_6 a0_7 bt230.1 bt230.2.1 bt230.2.2.1 bt230.2.2.2.1 bt230.2.2.2.2.1 bt230.2.2.2.2.2.1 bt230.2.2.2.2.2.2.1 bt230.2.2.2.2.2.2.2))))))))))))
set_option maxHeartbeats 8000000 in
set_option maxRecDepth 100000 in
theorem laws_FnExactSpareMill.calls (k : Nat) (A0_0 : Option Addr) (c0_0 : Nat) (l0_0 : List (List Int)) (A0_1 : Option Addr) (c0_1 : Nat) (l0_1 : List Int) (A0_2 : Option Addr) (c0_2 : Nat) (l0_2 : List Int) (a0_3 : Int) (a0_4 : Int) (a0_5 : Int) (a0_6 : Int) (a0_7 : Int) (A1 : Option Addr) (c1 : Nat) (l1 : List (List Int)) (r : Bool) (w : World) (hr0_0 : Kd.C (Kd.slice 3 (Kd.int .i64)) w A0_0 l0_0.length l0_0) (hc0_0 : l0_0.length ≤ c0_0) (hr0_1 : Kd.C (Kd.int .i64) w A0_1 l0_1.length l0_1) (hc0_1 : l0_1.length ≤ c0_1) (hr0_2 : Kd.C (Kd.int .i64) w A0_2 l0_2.length l0_2) (hc0_2 : l0_2.length ≤ c0_2) (hr1 : Kd.C (Kd.slice 3 (Kd.int .i64)) w A1 l1.length l1) (hc1 : l1.length ≤ c1) (h : laws_FnExactSpareMill.f k l0_0 l0_1 l0_2 a0_3 a0_4 a0_5 a0_6 a0_7 l1 = some r) :
  Calls Try.prog 11 #[.agg #[.slice A0_0 l0_0.length c0_0, .slice A0_1 l0_1.length c0_1, .slice A0_2 l0_2.length c0_2, .int .i64 a0_3, .int .i64 a0_4, .int .i64 a0_5, .int .i64 a0_6, .int .i64 a0_7], .slice A1 l1.length c1] w fun e w' => e = .returned (.bool r) ∧ Below w.heap.size w w' := by
 have hu31 := Try.underlying31
 have hu45 := Try.underlying45
 have HR0_0 := Aside0.mk hr0_0
 have HC0_0 := Aside0.mk hc0_0
 clear hr0_0 hc0_0
 have HR0_1 := Aside0.mk hr0_1
 have HC0_1 := Aside0.mk hc0_1
 clear hr0_1 hc0_1
 have HR0_2 := Aside0.mk hr0_2
 have HC0_2 := Aside0.mk hc0_2
 clear hr0_2 hc0_2
 have HR1 := Aside0.mk hr1
 have HC1 := Aside0.mk hc1
 clear hr1 hc1
 have HB := Aside0.mk (Below.refl w.heap.size w)
 have H : ((laws_szJob.f k l0_0 l0_1 l0_2 a0_3 a0_4 a0_5 a0_6 a0_7 1048576).bind fun t207 => (if t207 < 0 then (some true) else ((laws_szIntSS.f k l1 t207).bind fun t208 => (if t208 < 0 then (some true) else ((laws_toJob.f k l0_0 l0_1 l0_2 a0_3 a0_4 a0_5 a0_6 a0_7).bind fun bt209 => ((laws_toIntSS.f k l1).bind fun t223 => ((spec_SpareMill.f k bt209.1 bt209.2.1 bt209.2.2.1 bt209.2.2.2.1 bt209.2.2.2.2.1 bt209.2.2.2.2.2.1 bt209.2.2.2.2.2.2.1 bt209.2.2.2.2.2.2.2 t223).bind fun bt226 => ((laws_toJob.f k l0_0 l0_1 l0_2 a0_3 a0_4 a0_5 a0_6 a0_7).bind fun bt230 => ((laws_toIntSS.f k l1).bind fun t245 => ((impl_SpareMill.f k bt230.1 bt230.2.1 bt230.2.2.1 bt230.2.2.2.1 bt230.2.2.2.2.1 bt230.2.2.2.2.2.1 bt230.2.2.2.2.2.2.1 bt230.2.2.2.2.2.2.2 t245).bind fun bt248 => ((laws_eqIntS.f k bt248.1 bt226.1).bind fun t252 => (if t252 = true then (laws_FnExactSpareMill.j0 k l1 bt226.1 bt226.2 t245 bt248.1 bt248.2 (bt248.2 != bt226.2) l0_0 l0_1 l0_2 a0_3 a0_4 a0_5 a0_6 a0_7 bt230.1 bt230.2.1 bt230.2.2.1 bt230.2.2.2.1 bt230.2.2.2.2.1 bt230.2.2.2.2.2.1 bt230.2.2.2.2.2.2.1 bt230.2.2.2.2.2.2.2) else (laws_FnExactSpareMill.j0 k l1 bt226.1 bt226.2 t245 bt248.1 bt248.2 true l0_0 l0_1 l0_2 a0_3 a0_4 a0_5 a0_6 a0_7 bt230.1 bt230.2.1 bt230.2.2.1 bt230.2.2.2.1 bt230.2.2.2.2.1 bt230.2.2.2.2.2.1 bt230.2.2.2.2.2.2.1 bt230.2.2.2.2.2.2.2))))))))))))) = some r := h
 clear h
 replace H := Option.bind_eq_some_iff.mp H
 obtain ⟨t207, A30, H⟩ := H
 have A3 := Aside0.mk A30
 clear A30
 by_cases c4 : t207 < 0
 ·rw [if_pos c4] at H
  have c4b0 : decide (t207 < 0) = true := decide_eq_true c4
  clear c4
  obtain rfl := Option.some.inj H
  go_enter Try.func11, Try.ntmps11
  go_wp2_with (first | ((with_reducible refine gate_dst (N := 2) rfl ?_); refine box_event ?hg (N := 2) ?hd (cs := #[.slice A0_0 l0_0.length c0_0, .slice A0_1 l0_1.length c0_1, .slice A0_2 l0_2.length c0_2, .int .i64 a0_3, .int .i64 a0_4, .int .i64 a0_5, .int .i64 a0_6, .int .i64 a0_7]) (t := 31) ?hr ?_; (case hd => rfl); (case hg => rfl); (case hr => first | (go_simp; done) | (go_simp; rfl)); intro gb206 hg w5 hbox hb; have BK206 := Aside0.mk (hbox); have GW206 := Aside0.mk ((by rw [hg]; exact (below_size (be0x9 HB.out)) : w.heap.size ≤ gb206)); have GE206 := Aside0.mk ((by rw [hg]; exact (below_size (be0x9 HB.out)) : w.heap.size ≤ gb206)); replace HB := Aside0.mk (below_step (be0x9 HB.out) hb); clear hb hbox hg; obtain ⟨hcz6_0, hcz6_1, hcz6_2, hcz6_3, hcz6_4, hcz6_5, hcz6_6, hcz6_7, hfz6_0, hfz6_1, hfz6_2, hfz6_3, hfz6_4, hfz6_5, hfz6_6, hfz6_7⟩ := cf8x9 BK206.out) | ((with_reducible refine gate_callee (f := 16) rfl ?_); refine goesL_ (some 19) rfl rfl Try.func16 (by kernel_rfl) rfl #[.agg #[.slice A0_0 l0_0.length c0_0, .slice A0_1 l0_1.length c0_1, .slice A0_2 l0_2.length c0_2, .int .i64 a0_3, .int .i64 a0_4, .int .i64 a0_5, .int .i64 a0_6, .int .i64 a0_7], .int .i64 1048576] rfl mpx9 ?_; (with_reducible refine (laws_szJob.calls k _ _ l0_0 _ _ l0_1 _ _ l0_2 a0_3 a0_4 a0_5 a0_6 a0_7 1048576 t207 _ ?side1 ?side2 ?side3 ?side4 ?side5 ?side6 A3.out).mono ?_); (case side1 => exact rCx9 (Kd.C_below HR0_0.out HB.out)); (case side2 => exact HC0_0.out); (case side3 => exact rCx9 (Kd.C_below HR0_1.out HB.out)); (case side4 => exact HC0_1.out); (case side5 => exact rCx9 (Kd.C_below HR0_2.out HB.out)); (case side6 => exact HC0_2.out); rintro e w7 ⟨rfl, hb⟩; refine ⟨_, rfl, ?_⟩; replace BK206 := Aside0.mk (blk_below (rBx9 BK206.out) hb); replace HB := Aside0.mk (below_step (be1x9 HB.out GE206.out) hb); (try clear hb); (try clear hb2); (try clear hk); (try clear hi)))
  go_ret
  exact ⟨by first | rfl | (simp [errW_none, errW_some] <;> rfl) | (simp [*, errW_none, errW_some] <;> rfl), be1x9 HB.out GE206.out⟩
 ·rw [if_neg c4] at H
  have c4b0 : decide (t207 < 0) = false := decide_eq_false c4
  clear c4
  replace H := Option.bind_eq_some_iff.mp H
  obtain ⟨t208, A80, H⟩ := H
  have A8 := Aside0.mk A80
  clear A80
  by_cases c9 : t208 < 0
  ·rw [if_pos c9] at H
   have c9b0 : decide (t208 < 0) = true := decide_eq_true c9
   clear c9
   obtain rfl := Option.some.inj H
   go_enter Try.func11, Try.ntmps11
   go_wp2_with (first | ((with_reducible refine gate_dst (N := 2) rfl ?_); refine box_event ?hg (N := 2) ?hd (cs := #[.slice A0_0 l0_0.length c0_0, .slice A0_1 l0_1.length c0_1, .slice A0_2 l0_2.length c0_2, .int .i64 a0_3, .int .i64 a0_4, .int .i64 a0_5, .int .i64 a0_6, .int .i64 a0_7]) (t := 31) ?hr ?_; (case hd => rfl); (case hg => rfl); (case hr => first | (go_simp; done) | (go_simp; rfl)); intro gb206 hg w10 hbox hb; have BK206 := Aside0.mk (hbox); have GW206 := Aside0.mk ((by rw [hg]; exact (below_size (be0x9 HB.out)) : w.heap.size ≤ gb206)); have GE206 := Aside0.mk ((by rw [hg]; exact (below_size (be0x9 HB.out)) : w.heap.size ≤ gb206)); replace HB := Aside0.mk (below_step (be0x9 HB.out) hb); clear hb hbox hg; obtain ⟨hcz11_0, hcz11_1, hcz11_2, hcz11_3, hcz11_4, hcz11_5, hcz11_6, hcz11_7, hfz11_0, hfz11_1, hfz11_2, hfz11_3, hfz11_4, hfz11_5, hfz11_6, hfz11_7⟩ := cf8x9 BK206.out) | ((with_reducible refine gate_callee (f := 16) rfl ?_); refine goesL_ (some 19) rfl rfl Try.func16 (by kernel_rfl) rfl #[.agg #[.slice A0_0 l0_0.length c0_0, .slice A0_1 l0_1.length c0_1, .slice A0_2 l0_2.length c0_2, .int .i64 a0_3, .int .i64 a0_4, .int .i64 a0_5, .int .i64 a0_6, .int .i64 a0_7], .int .i64 1048576] rfl mpx9 ?_; (with_reducible refine (laws_szJob.calls k _ _ l0_0 _ _ l0_1 _ _ l0_2 a0_3 a0_4 a0_5 a0_6 a0_7 1048576 t207 _ ?side1 ?side2 ?side3 ?side4 ?side5 ?side6 A3.out).mono ?_); (case side1 => exact rCx9 (Kd.C_below HR0_0.out HB.out)); (case side2 => exact HC0_0.out); (case side3 => exact rCx9 (Kd.C_below HR0_1.out HB.out)); (case side4 => exact HC0_1.out); (case side5 => exact rCx9 (Kd.C_below HR0_2.out HB.out)); (case side6 => exact HC0_2.out); rintro e w12 ⟨rfl, hb⟩; refine ⟨_, rfl, ?_⟩; replace BK206 := Aside0.mk (blk_below (rBx9 BK206.out) hb); replace HB := Aside0.mk (below_step (be1x9 HB.out GE206.out) hb); (try clear hb); (try clear hb2); (try clear hk); (try clear hi)) | ((with_reducible refine gate_callee (f := 32) rfl ?_); refine goesL_ (some 24) rfl rfl Try.func32 (by kernel_rfl) rfl #[.slice A1 l1.length c1, .int .i64 t207] rfl mpx9 ?_; (with_reducible refine (laws_szIntSS.calls k _ _ l1 t207 t208 _ ?side1 ?side2 A8.out).mono ?_); (case side1 => exact rCx9 (Kd.C_below HR1.out HB.out)); (case side2 => exact HC1.out); rintro e w' ⟨rfl, ⟨nd, rfl⟩⟩; refine ⟨_, rfl, ?_⟩))
   go_ret
   exact ⟨by first | rfl | (simp [errW_none, errW_some] <;> rfl) | (simp [*, errW_none, errW_some] <;> rfl), be1x9 HB.out GE206.out⟩
  ·rw [if_neg c9] at H
   have c9b0 : decide (t208 < 0) = false := decide_eq_false c9
   clear c9
   replace H := Option.bind_eq_some_iff.mp H
   obtain ⟨⟨t209, t212, t215, t218, t219, t220, t221, t222⟩, A130, H⟩ := H
   (try dsimp only at H)
   have A13 := Aside0.mk A130
   clear A130
   replace H := Option.bind_eq_some_iff.mp H
   obtain ⟨t223, A140, H⟩ := H
   have A14 := Aside0.mk A140
   clear A140
   replace H := Option.bind_eq_some_iff.mp H
   obtain ⟨⟨t226, t229⟩, A150, H⟩ := H
   (try dsimp only at H)
   have A15 := Aside0.mk A150
   clear A150
   replace H := Option.bind_eq_some_iff.mp H
   obtain ⟨⟨t230, t233, t236, t239, t240, t241, t242, t243⟩, A160, H⟩ := H
   (try dsimp only at H)
   have A16 := Aside0.mk A160
   clear A160
   replace H := Option.bind_eq_some_iff.mp H
   obtain ⟨t245, A170, H⟩ := H
   have A17 := Aside0.mk A170
   clear A170
   replace H := Option.bind_eq_some_iff.mp H
   obtain ⟨⟨t248, t251⟩, A180, H⟩ := H
   (try dsimp only at H)
   have A18 := Aside0.mk A180
   clear A180
   have HC19 := Aside0.mk H
   clear H
   go_enter Try.func11, Try.ntmps11
   go_upto_region 12 with (first | ((with_reducible refine gate_dst (N := 2) rfl ?_); refine box_event ?hg (N := 2) ?hd (cs := #[.slice A0_0 l0_0.length c0_0, .slice A0_1 l0_1.length c0_1, .slice A0_2 l0_2.length c0_2, .int .i64 a0_3, .int .i64 a0_4, .int .i64 a0_5, .int .i64 a0_6, .int .i64 a0_7]) (t := 31) ?hr ?_; (case hd => rfl); (case hg => rfl); (case hr => first | (go_simp; done) | (go_simp; rfl)); intro gb206 hg w20 hbox hb; have BK206 := Aside0.mk (hbox); have GW206 := Aside0.mk ((by rw [hg]; exact (below_size (be0x9 HB.out)) : w.heap.size ≤ gb206)); have GE206 := Aside0.mk ((by rw [hg]; exact (below_size (be0x9 HB.out)) : w.heap.size ≤ gb206)); replace HB := Aside0.mk (below_step (be0x9 HB.out) hb); clear hb hbox hg; obtain ⟨hcz21_0, hcz21_1, hcz21_2, hcz21_3, hcz21_4, hcz21_5, hcz21_6, hcz21_7, hfz21_0, hfz21_1, hfz21_2, hfz21_3, hfz21_4, hfz21_5, hfz21_6, hfz21_7⟩ := cf8x9 BK206.out) | ((with_reducible refine gate_callee (f := 16) rfl ?_); refine goesL_ (some 19) rfl rfl Try.func16 (by kernel_rfl) rfl #[.agg #[.slice A0_0 l0_0.length c0_0, .slice A0_1 l0_1.length c0_1, .slice A0_2 l0_2.length c0_2, .int .i64 a0_3, .int .i64 a0_4, .int .i64 a0_5, .int .i64 a0_6, .int .i64 a0_7], .int .i64 1048576] rfl mpx9 ?_; (with_reducible refine (laws_szJob.calls k _ _ l0_0 _ _ l0_1 _ _ l0_2 a0_3 a0_4 a0_5 a0_6 a0_7 1048576 t207 _ ?side1 ?side2 ?side3 ?side4 ?side5 ?side6 A3.out).mono ?_); (case side1 => exact rCx9 (Kd.C_below HR0_0.out HB.out)); (case side2 => exact HC0_0.out); (case side3 => exact rCx9 (Kd.C_below HR0_1.out HB.out)); (case side4 => exact HC0_1.out); (case side5 => exact rCx9 (Kd.C_below HR0_2.out HB.out)); (case side6 => exact HC0_2.out); rintro e w22 ⟨rfl, hb⟩; refine ⟨_, rfl, ?_⟩; replace BK206 := Aside0.mk (blk_below (rBx9 BK206.out) hb); replace HB := Aside0.mk (below_step (be1x9 HB.out GE206.out) hb); (try clear hb); (try clear hb2); (try clear hk); (try clear hi)) | ((with_reducible refine gate_callee (f := 32) rfl ?_); refine goesL_ (some 24) rfl rfl Try.func32 (by kernel_rfl) rfl #[.slice A1 l1.length c1, .int .i64 t207] rfl mpx9 ?_; (with_reducible refine (laws_szIntSS.calls k _ _ l1 t207 t208 _ ?side1 ?side2 A8.out).mono ?_); (case side1 => exact rCx9 (Kd.C_below HR1.out HB.out)); (case side2 => exact HC1.out); rintro e w' ⟨rfl, ⟨nd, rfl⟩⟩; refine ⟨_, rfl, ?_⟩; (try (rw [drewN_self w22]; generalize hq_ : World.drewN w22 _ = w22; have n0_ : Aside0 (w22.heap[gb206]? = some (.cells #[.slice A0_0 l0_0.length c0_0, .slice A0_1 l0_1.length c0_1, .slice A0_2 l0_2.length c0_2, .int .i64 a0_3, .int .i64 a0_4, .int .i64 a0_5, .int .i64 a0_6, .int .i64 a0_7] 31 (0, 0))) := ⟨by rw [← hq_]; exact (rBx9 BK206.out)⟩; have n1_ : Aside0 (Below w.heap.size w w22) := ⟨by rw [← hq_]; exact (be1x9 HB.out GE206.out)⟩; clear BK206 HB hq_; have BK206 := n0_; have HB := n1_; clear n0_ n1_)); obtain ⟨hcz23_0, hcz23_1, hcz23_2, hcz23_3, hcz23_4, hcz23_5, hcz23_6, hcz23_7, hfz23_0, hfz23_1, hfz23_2, hfz23_3, hfz23_4, hfz23_5, hfz23_6, hfz23_7⟩ := cf8x9 BK206.out) | ((with_reducible refine gate_callee (f := 20) rfl ?_); refine goesL_ (some 29) rfl rfl Try.func20 (by kernel_rfl) rfl #[.agg #[.slice A0_0 l0_0.length c0_0, .slice A0_1 l0_1.length c0_1, .slice A0_2 l0_2.length c0_2, .int .i64 a0_3, .int .i64 a0_4, .int .i64 a0_5, .int .i64 a0_6, .int .i64 a0_7]] rfl mpx9 ?_; (with_reducible refine (laws_toJob.calls k _ _ l0_0 _ _ l0_1 _ _ l0_2 a0_3 a0_4 a0_5 a0_6 a0_7 t209 t212 t215 t218 t219 t220 t221 t222 _ ?side1 ?side2 ?side3 ?side4 ?side5 ?side6 A13.out).mono ?_); (case side1 => exact rCx9 (Kd.C_below HR0_0.out HB.out)); (case side2 => exact HC0_0.out); (case side3 => exact rCx9 (Kd.C_below HR0_1.out HB.out)); (case side4 => exact HC0_1.out); (case side5 => exact rCx9 (Kd.C_below HR0_2.out HB.out)); (case side6 => exact HC0_2.out); rintro e w24 ⟨v210, v213, v216, rfl, ho0, ho1, ho2, hb⟩; refine ⟨_, rfl, ?_⟩; have HO211 := Aside0.mk (Kd.S_lower ho0 (below_size (be1x9 HB.out GE206.out))); have HO214 := Aside0.mk (Kd.R_lower ho1 (below_size (be1x9 HB.out GE206.out))); have HO217 := Aside0.mk (Kd.R_lower ho2 (below_size (be1x9 HB.out GE206.out))); replace BK206 := Aside0.mk (blk_below (rBx9 BK206.out) hb); replace HB := Aside0.mk (below_step (be1x9 HB.out GE206.out) hb); (try clear hb); (try clear hb2); (try clear hk); (try clear hi); (try clear ho0); (try clear ho1); (try clear ho2)) | ((with_reducible refine gate_callee (f := 34) rfl ?_); refine goesL_ (some 31) rfl rfl Try.func34 (by kernel_rfl) rfl #[.slice A1 l1.length c1] rfl mpx9 ?_; (with_reducible refine (laws_toIntSS.calls k _ _ l1 t223 _ ?side1 ?side2 A14.out).mono ?_); (case side1 => exact rCx9 (Kd.C_below HR1.out HB.out)); (case side2 => exact HC1.out); rintro e w25 ⟨v224, rfl, ho0, hb⟩; refine ⟨_, rfl, ?_⟩; have HO225 := Aside0.mk (Kd.S_lower (Kd.S_new' (Kd.S_new' (Kd.S_new' ho0 (Kd.S_lt (rSx9 HO211.out))) (Kd.R_lt (rRx9 HO214.out))) (Kd.R_lt (rRx9 HO217.out))) (below_size (be1x9 HB.out GE206.out))); replace HO211 := Aside0.mk (Kd.S_elder' (rSx9 HO211.out) (Kd.S_base ho0) hb); replace HO214 := Aside0.mk (Kd.R_below (rRx9 HO214.out) hb); replace HO217 := Aside0.mk (Kd.R_below (rRx9 HO217.out) hb); replace BK206 := Aside0.mk (blk_below (rBx9 BK206.out) hb); replace HB := Aside0.mk (below_step (be1x9 HB.out GE206.out) hb); (try clear hb); (try clear hb2); (try clear hk); (try clear hi); (try clear ho0); obtain ⟨Ao26, co26, eo26⟩ := Kd.S_slice HO211.out; subst eo26; obtain ⟨Ao27, co27, eo27⟩ := Kd.R_slice HO214.out; subst eo27; obtain ⟨Ao28, co28, eo28⟩ := Kd.R_slice HO217.out; subst eo28; obtain ⟨Ao29, co29, eo29⟩ := Kd.S_slice HO225.out; subst eo29) | ((with_reducible refine gate_callee (f := 53) rfl ?_); refine goesL_ (some 32) rfl rfl Try.func53 (by kernel_rfl) rfl #[.agg #[.slice Ao26 t209.length co26, .slice Ao27 t212.length co27, .slice Ao28 t215.length co28, .int .i64 t218, .int .i64 t219, .int .i64 t220, .int .i64 t221, .int .i64 t222], .slice Ao29 t223.length co29] rfl mpx9 ?_; (with_reducible refine (spec_SpareMill.calls k _ _ t209 _ _ t212 _ _ t215 t218 t219 t220 t221 t222 _ _ t223 t226 t229 _ ?side1 ?side2 ?side3 ?side4 ?side5 ?side6 ?side7 ?side8 A15.out).mono ?_); (case side1 => repeat (first | exact (Kd.S_reads' HO211.out).2.2 | (with_reducible refine Kd.C_alloc ?_ _) | (with_reducible refine Kd.C_drewN ?_ _) | (with_reducible refine Kd.C_drew ?_))); (case side2 => exact (Kd.S_reads' HO211.out).2.1); (case side3 => exact cRx9 HO214.out); (case side4 => exact (Kd.R_reads' HO214.out).2.1); (case side5 => exact cRx9 HO217.out); (case side6 => exact (Kd.R_reads' HO217.out).2.1); (case side7 => repeat (first | exact (Kd.S_reads' HO225.out).2.2 | (with_reducible refine Kd.C_alloc ?_ _) | (with_reducible refine Kd.C_drewN ?_ _) | (with_reducible refine Kd.C_drew ?_))); (case side8 => exact (Kd.S_reads' HO225.out).2.1); rintro e w30 ⟨v227, rfl, ho0, hb⟩; refine ⟨_, rfl, ?_⟩; replace HO211 := Aside0.mk (Kd.S_elder' (rSx9 HO211.out) (Kd.R_base ho0) hb); replace HO225 := Aside0.mk (Kd.S_elder' (rSx9 HO225.out) (Kd.R_base ho0) hb); have HO228 := Aside0.mk (Kd.R_lower (nwx9 (nwx9 ho0 (rRx9 HO214.out)) (rRx9 HO217.out)) (below_size (be1x9 HB.out GE206.out))); replace HO214 := Aside0.mk (Kd.R_elder' (rRx9 HO214.out) (Kd.R_base ho0) hb); replace HO217 := Aside0.mk (Kd.R_elder' (rRx9 HO217.out) (Kd.R_base ho0) hb); replace BK206 := Aside0.mk (blk_below (rBx9 BK206.out) hb); replace HB := Aside0.mk (below_step (be1x9 HB.out GE206.out) hb); (try clear hb); (try clear hb2); (try clear hk); (try clear hi); (try clear ho0); obtain ⟨hcz31_0, hcz31_1, hcz31_2, hcz31_3, hcz31_4, hcz31_5, hcz31_6, hcz31_7, hfz31_0, hfz31_1, hfz31_2, hfz31_3, hfz31_4, hfz31_5, hfz31_6, hfz31_7⟩ := cf8x9 BK206.out) | ((with_reducible refine gate_callee (f := 20) rfl ?_); refine goesL_ (some 36) rfl rfl Try.func20 (by kernel_rfl) rfl #[.agg #[.slice A0_0 l0_0.length c0_0, .slice A0_1 l0_1.length c0_1, .slice A0_2 l0_2.length c0_2, .int .i64 a0_3, .int .i64 a0_4, .int .i64 a0_5, .int .i64 a0_6, .int .i64 a0_7]] rfl mpx9 ?_; (with_reducible refine (laws_toJob.calls k _ _ l0_0 _ _ l0_1 _ _ l0_2 a0_3 a0_4 a0_5 a0_6 a0_7 t230 t233 t236 t239 t240 t241 t242 t243 _ ?side1 ?side2 ?side3 ?side4 ?side5 ?side6 A16.out).mono ?_); (case side1 => exact rCx9 (Kd.C_below HR0_0.out HB.out)); (case side2 => exact HC0_0.out); (case side3 => exact rCx9 (Kd.C_below HR0_1.out HB.out)); (case side4 => exact HC0_1.out); (case side5 => exact rCx9 (Kd.C_below HR0_2.out HB.out)); (case side6 => exact HC0_2.out); rintro e w32 ⟨v231, v234, v237, rfl, ho0, ho1, ho2, hb⟩; refine ⟨_, rfl, ?_⟩; have HO232 := Aside0.mk (Kd.S_lower (Kd.S_new' (Kd.S_new' (Kd.S_new' (Kd.S_new' (Kd.S_new' ho0 (Kd.S_lt (rSx9 HO211.out))) (Kd.R_lt (rRx9 HO214.out))) (Kd.R_lt (rRx9 HO217.out))) (Kd.S_lt (rSx9 HO225.out))) (Kd.R_lt (rRx9 HO228.out))) (below_size (be1x9 HB.out GE206.out))); replace HO211 := Aside0.mk (Kd.S_mono (Kd.S_told (Kd.S_told (Kd.S_told (Kd.S_old (rSx9 HO211.out) hb) (Kd.S_base ho0)) (Kd.R_base ho1)) (Kd.R_base ho2)) (fun _ h_ => h_.1)); replace HO225 := Aside0.mk (Kd.S_mono (Kd.S_told (Kd.S_told (Kd.S_told (Kd.S_old (rSx9 HO225.out) hb) (Kd.S_base ho0)) (Kd.R_base ho1)) (Kd.R_base ho2)) (fun _ h_ => h_.1)); have HO235 := Aside0.mk (Kd.R_lower (nwx9 (nwx9 (nwx9 ho1 (rRx9 HO214.out)) (rRx9 HO217.out)) (rRx9 HO228.out)) (below_size (be1x9 HB.out GE206.out))); have HO238 := Aside0.mk (Kd.R_lower (nwx9 (nwx9 (nwx9 ho2 (rRx9 HO214.out)) (rRx9 HO217.out)) (rRx9 HO228.out)) (below_size (be1x9 HB.out GE206.out))); replace HO214 := Aside0.mk (Kd.R_mono (Kd.R_told (Kd.R_told (Kd.R_old (rRx9 HO214.out) hb) (Kd.R_base ho1)) (Kd.R_base ho2)) (fun _ h_ => h_.1)); replace HO217 := Aside0.mk (Kd.R_mono (Kd.R_told (Kd.R_told (Kd.R_old (rRx9 HO217.out) hb) (Kd.R_base ho1)) (Kd.R_base ho2)) (fun _ h_ => h_.1)); replace HO228 := Aside0.mk (Kd.R_mono (Kd.R_told (Kd.R_told (Kd.R_old (rRx9 HO228.out) hb) (Kd.R_base ho1)) (Kd.R_base ho2)) (fun _ h_ => h_.1)); replace BK206 := Aside0.mk (blk_below (rBx9 BK206.out) hb); replace HB := Aside0.mk (below_step (be1x9 HB.out GE206.out) hb); (try clear hb); (try clear hb2); (try clear hk); (try clear hi); (try clear ho0); (try clear ho1); (try clear ho2)) | ((with_reducible refine gate_dst (N := 8) rfl ?_); refine box_event ?hg (N := 8) ?hd (cs := #[.slice none 0 0, .slice none 0 0, .slice none 0 0, .int .i64 0, .int .i64 0, .int .i64 0, .int .i64 0, .int .i64 0]) (t := 45) ?hr ?_; (case hd => rfl); (case hg => rfl); (case hr => first | (go_simp; done) | (go_simp; rfl)); intro gb244 hg w33 hbox hb; replace HO211 := Aside0.mk (Kd.S_below (rSx9 HO211.out) hb); replace HO214 := Aside0.mk (Kd.R_below (rRx9 HO214.out) hb); replace HO217 := Aside0.mk (Kd.R_below (rRx9 HO217.out) hb); replace HO225 := Aside0.mk (Kd.S_below (rSx9 HO225.out) hb); replace HO228 := Aside0.mk (Kd.R_below (rRx9 HO228.out) hb); replace HO232 := Aside0.mk (Kd.S_below (rSx9 HO232.out) hb); replace HO235 := Aside0.mk (Kd.R_below (rRx9 HO235.out) hb); replace HO238 := Aside0.mk (Kd.R_below (rRx9 HO238.out) hb); have BK244 := Aside0.mk (hbox); have GW244 := Aside0.mk ((by rw [hg]; exact (below_size (be1x9 HB.out GE206.out)) : w.heap.size ≤ gb244)); have GE244 := Aside0.mk ((by rw [hg]; exact (below_size (be1x9 HB.out GE206.out)) : w.heap.size ≤ gb244)); replace HB := Aside0.mk (below_step (be1x9 HB.out GE206.out) hb); have NB206_244 := Aside0.mk ((by rw [hg]; exact Nat.ne_of_lt (blk_lt (rBx9 BK206.out)) : gb206 ≠ gb244)); have NB244_206 := Aside0.mk ((by rw [hg]; exact Nat.ne_of_gt (blk_lt (rBx9 BK206.out)) : gb244 ≠ gb206)); replace BK206 := Aside0.mk (blk_below (rBx9 BK206.out) hb); clear hb hbox hg; obtain ⟨Ao34, co34, eo34⟩ := Kd.S_slice HO232.out; subst eo34; have hnb35 := NB244_206.out; have hnc35 := NB206_244.out; obtain ⟨hcz36_0, hcz36_1, hcz36_2, hcz36_3, hcz36_4, hcz36_5, hcz36_6, hcz36_7, hfz36_0, hfz36_1, hfz36_2, hfz36_3, hfz36_4, hfz36_5, hfz36_6, hfz36_7⟩ := cf8x9 BK244.out; obtain ⟨Ao37, co37, eo37⟩ := Kd.R_slice HO235.out; subst eo37; obtain ⟨Ao38, co38, eo38⟩ := Kd.R_slice HO238.out; subst eo38) | ((with_reducible refine gate_callee (f := 34) rfl ?_); refine goesL_ (some 38) rfl rfl Try.func34 (by kernel_rfl) rfl #[.slice A1 l1.length c1] rfl mpx9 ?_; (with_reducible refine (laws_toIntSS.calls k _ _ l1 t245 _ ?side1 ?side2 A17.out).mono ?_); (case side1 => exact Kd.C_below HR1.out (be2x9 HB.out GE206.out GE244.out)); (case side2 => exact HC1.out); rintro e w39 ⟨v246, rfl, ho0, hb⟩; refine ⟨_, rfl, ?_⟩; obtain ⟨N_, hN_⟩ := age_of ho0; replace ho0 := age_new hN_ ho0; have HO247 := Aside0.mk (Kd.S_lower (Kd.S_new' (Kd.S_new' (Kd.S_new' (Kd.S_new' (Kd.S_new' (Kd.S_new' (Kd.S_new' (Kd.S_new' ho0 (Kd.S_lt (by (with_reducible repeat (first | apply Kd.S_alloc | apply Kd.S_drewN | apply Kd.S_drew)); exact (Kd.S_mono (Kd.S_far (p := ⟨gb244, 7, none⟩) (Kd.S_far (p := ⟨gb244, 6, none⟩) (Kd.S_far (p := ⟨gb244, 5, none⟩) (Kd.S_far (p := ⟨gb244, 4, none⟩) (Kd.S_far (p := ⟨gb244, 3, none⟩) (Kd.S_far (p := ⟨gb244, 2, none⟩) (Kd.S_far (p := ⟨gb244, 1, none⟩) (Kd.S_far (p := ⟨gb244, 0, none⟩) (Kd.S_types HO211.out BK244.out (by decide)) (fun _ hk => hk.2) (.slice Ao34 t230.length co34)) (fun _ hk => hk.2) (.slice Ao37 t233.length co37)) (fun _ hk => hk.2) (.slice Ao38 t236.length co38)) (fun _ hk => hk.2) (.int .i64 t239)) (fun _ hk => hk.2) (.int .i64 t240)) (fun _ hk => hk.2) (.int .i64 t241)) (fun _ hk => hk.2) (.int .i64 t242)) (fun _ hk => hk.2) (.int .i64 t243)) (fun _ h_ => h_.1))))) (Kd.R_lt (sR8x9 HO214.out BK244.out))) (Kd.R_lt (sR8x9 HO217.out BK244.out))) (Kd.S_lt (by (with_reducible repeat (first | apply Kd.S_alloc | apply Kd.S_drewN | apply Kd.S_drew)); exact (Kd.S_mono (Kd.S_far (p := ⟨gb244, 7, none⟩) (Kd.S_far (p := ⟨gb244, 6, none⟩) (Kd.S_far (p := ⟨gb244, 5, none⟩) (Kd.S_far (p := ⟨gb244, 4, none⟩) (Kd.S_far (p := ⟨gb244, 3, none⟩) (Kd.S_far (p := ⟨gb244, 2, none⟩) (Kd.S_far (p := ⟨gb244, 1, none⟩) (Kd.S_far (p := ⟨gb244, 0, none⟩) (Kd.S_types HO225.out BK244.out (by decide)) (fun _ hk => hk.2) (.slice Ao34 t230.length co34)) (fun _ hk => hk.2) (.slice Ao37 t233.length co37)) (fun _ hk => hk.2) (.slice Ao38 t236.length co38)) (fun _ hk => hk.2) (.int .i64 t239)) (fun _ hk => hk.2) (.int .i64 t240)) (fun _ hk => hk.2) (.int .i64 t241)) (fun _ hk => hk.2) (.int .i64 t242)) (fun _ hk => hk.2) (.int .i64 t243)) (fun _ h_ => h_.1))))) (Kd.R_lt (sR8x9 HO228.out BK244.out))) (Kd.S_lt (by (with_reducible repeat (first | apply Kd.S_alloc | apply Kd.S_drewN | apply Kd.S_drew)); exact (Kd.S_mono (Kd.S_far (p := ⟨gb244, 7, none⟩) (Kd.S_far (p := ⟨gb244, 6, none⟩) (Kd.S_far (p := ⟨gb244, 5, none⟩) (Kd.S_far (p := ⟨gb244, 4, none⟩) (Kd.S_far (p := ⟨gb244, 3, none⟩) (Kd.S_far (p := ⟨gb244, 2, none⟩) (Kd.S_far (p := ⟨gb244, 1, none⟩) (Kd.S_far (p := ⟨gb244, 0, none⟩) (Kd.S_types HO232.out BK244.out (by decide)) (fun _ hk => hk.2) (.slice Ao34 t230.length co34)) (fun _ hk => hk.2) (.slice Ao37 t233.length co37)) (fun _ hk => hk.2) (.slice Ao38 t236.length co38)) (fun _ hk => hk.2) (.int .i64 t239)) (fun _ hk => hk.2) (.int .i64 t240)) (fun _ hk => hk.2) (.int .i64 t241)) (fun _ hk => hk.2) (.int .i64 t242)) (fun _ hk => hk.2) (.int .i64 t243)) (fun _ h_ => h_.1))))) (Kd.R_lt (sR8x9 HO235.out BK244.out))) (Kd.R_lt (sR8x9 HO238.out BK244.out))) (below_size (be2x9 HB.out GE206.out GE244.out))); replace HO211 := Aside0.mk (Kd.S_elder' (by (with_reducible repeat (first | apply Kd.S_alloc | apply Kd.S_drewN | apply Kd.S_drew)); exact (Kd.S_mono (Kd.S_far (p := ⟨gb244, 7, none⟩) (Kd.S_far (p := ⟨gb244, 6, none⟩) (Kd.S_far (p := ⟨gb244, 5, none⟩) (Kd.S_far (p := ⟨gb244, 4, none⟩) (Kd.S_far (p := ⟨gb244, 3, none⟩) (Kd.S_far (p := ⟨gb244, 2, none⟩) (Kd.S_far (p := ⟨gb244, 1, none⟩) (Kd.S_far (p := ⟨gb244, 0, none⟩) (Kd.S_types HO211.out BK244.out (by decide)) (fun _ hk => hk.2) (.slice Ao34 t230.length co34)) (fun _ hk => hk.2) (.slice Ao37 t233.length co37)) (fun _ hk => hk.2) (.slice Ao38 t236.length co38)) (fun _ hk => hk.2) (.int .i64 t239)) (fun _ hk => hk.2) (.int .i64 t240)) (fun _ hk => hk.2) (.int .i64 t241)) (fun _ hk => hk.2) (.int .i64 t242)) (fun _ hk => hk.2) (.int .i64 t243)) (fun _ h_ => h_.1))) (Kd.S_base ho0) hb); replace HO214 := Aside0.mk (Kd.R_below (sR8x9 HO214.out BK244.out) hb); replace HO217 := Aside0.mk (Kd.R_below (sR8x9 HO217.out BK244.out) hb); replace HO225 := Aside0.mk (Kd.S_elder' (by (with_reducible repeat (first | apply Kd.S_alloc | apply Kd.S_drewN | apply Kd.S_drew)); exact (Kd.S_mono (Kd.S_far (p := ⟨gb244, 7, none⟩) (Kd.S_far (p := ⟨gb244, 6, none⟩) (Kd.S_far (p := ⟨gb244, 5, none⟩) (Kd.S_far (p := ⟨gb244, 4, none⟩) (Kd.S_far (p := ⟨gb244, 3, none⟩) (Kd.S_far (p := ⟨gb244, 2, none⟩) (Kd.S_far (p := ⟨gb244, 1, none⟩) (Kd.S_far (p := ⟨gb244, 0, none⟩) (Kd.S_types HO225.out BK244.out (by decide)) (fun _ hk => hk.2) (.slice Ao34 t230.length co34)) (fun _ hk => hk.2) (.slice Ao37 t233.length co37)) (fun _ hk => hk.2) (.slice Ao38 t236.length co38)) (fun _ hk => hk.2) (.int .i64 t239)) (fun _ hk => hk.2) (.int .i64 t240)) (fun _ hk => hk.2) (.int .i64 t241)) (fun _ hk => hk.2) (.int .i64 t242)) (fun _ hk => hk.2) (.int .i64 t243)) (fun _ h_ => h_.1))) (Kd.S_base ho0) hb); replace HO228 := Aside0.mk (Kd.R_below (sR8x9 HO228.out BK244.out) hb); replace HO232 := Aside0.mk (age_old hN_ (by (with_reducible repeat (first | apply Kd.S_alloc | apply Kd.S_drewN | apply Kd.S_drew)); exact (Kd.S_mono (Kd.S_far (p := ⟨gb244, 7, none⟩) (Kd.S_far (p := ⟨gb244, 6, none⟩) (Kd.S_far (p := ⟨gb244, 5, none⟩) (Kd.S_far (p := ⟨gb244, 4, none⟩) (Kd.S_far (p := ⟨gb244, 3, none⟩) (Kd.S_far (p := ⟨gb244, 2, none⟩) (Kd.S_far (p := ⟨gb244, 1, none⟩) (Kd.S_far (p := ⟨gb244, 0, none⟩) (Kd.S_types HO232.out BK244.out (by decide)) (fun _ hk => hk.2) (.slice Ao34 t230.length co34)) (fun _ hk => hk.2) (.slice Ao37 t233.length co37)) (fun _ hk => hk.2) (.slice Ao38 t236.length co38)) (fun _ hk => hk.2) (.int .i64 t239)) (fun _ hk => hk.2) (.int .i64 t240)) (fun _ hk => hk.2) (.int .i64 t241)) (fun _ hk => hk.2) (.int .i64 t242)) (fun _ hk => hk.2) (.int .i64 t243)) (fun _ h_ => h_.1))) (Kd.S_base ho0) hb); replace HO235 := Aside0.mk (Kd.R_below (sR8x9 HO235.out BK244.out) hb); replace HO238 := Aside0.mk (Kd.R_below (sR8x9 HO238.out BK244.out) hb); replace BK206 := Aside0.mk (blk_below (bb8x9 BK206.out NB206_244.out) hb); replace BK244 := Aside0.mk (blk_below (g := gb244) (o := .cells #[.slice Ao34 t230.length co34, .slice Ao37 t233.length co37, .slice Ao38 t236.length co38, .int .i64 t239, .int .i64 t240, .int .i64 t241, .int .i64 t242, .int .i64 t243] 45 (0, 0)) (by (with_reducible repeat (first | refine blk_drewN ?_ _ | refine blk_drew ?_ | refine blk_alloc ?_ _)); refine blk_put (cs := #[.slice Ao34 t230.length co34, .slice Ao37 t233.length co37, .slice Ao38 t236.length co38, .int .i64 t239, .int .i64 t240, .int .i64 t241, .int .i64 t242, .int .i64 0]) ?_ 7 _ rfl; (with_reducible repeat (first | refine blk_drewN ?_ _ | refine blk_drew ?_ | refine blk_alloc ?_ _)); refine blk_put (cs := #[.slice Ao34 t230.length co34, .slice Ao37 t233.length co37, .slice Ao38 t236.length co38, .int .i64 t239, .int .i64 t240, .int .i64 t241, .int .i64 0, .int .i64 0]) ?_ 6 _ rfl; (with_reducible repeat (first | refine blk_drewN ?_ _ | refine blk_drew ?_ | refine blk_alloc ?_ _)); refine blk_put (cs := #[.slice Ao34 t230.length co34, .slice Ao37 t233.length co37, .slice Ao38 t236.length co38, .int .i64 t239, .int .i64 t240, .int .i64 0, .int .i64 0, .int .i64 0]) ?_ 5 _ rfl; (with_reducible repeat (first | refine blk_drewN ?_ _ | refine blk_drew ?_ | refine blk_alloc ?_ _)); refine blk_put (cs := #[.slice Ao34 t230.length co34, .slice Ao37 t233.length co37, .slice Ao38 t236.length co38, .int .i64 t239, .int .i64 0, .int .i64 0, .int .i64 0, .int .i64 0]) ?_ 4 _ rfl; (with_reducible repeat (first | refine blk_drewN ?_ _ | refine blk_drew ?_ | refine blk_alloc ?_ _)); refine blk_put (cs := #[.slice Ao34 t230.length co34, .slice Ao37 t233.length co37, .slice Ao38 t236.length co38, .int .i64 0, .int .i64 0, .int .i64 0, .int .i64 0, .int .i64 0]) ?_ 3 _ rfl; (with_reducible repeat (first | refine blk_drewN ?_ _ | refine blk_drew ?_ | refine blk_alloc ?_ _)); refine blk_put (cs := #[.slice Ao34 t230.length co34, .slice Ao37 t233.length co37, .slice none 0 0, .int .i64 0, .int .i64 0, .int .i64 0, .int .i64 0, .int .i64 0]) ?_ 2 _ rfl; (with_reducible repeat (first | refine blk_drewN ?_ _ | refine blk_drew ?_ | refine blk_alloc ?_ _)); refine blk_put (cs := #[.slice Ao34 t230.length co34, .slice none 0 0, .slice none 0 0, .int .i64 0, .int .i64 0, .int .i64 0, .int .i64 0, .int .i64 0]) ?_ 1 _ rfl; (with_reducible repeat (first | refine blk_drewN ?_ _ | refine blk_drew ?_ | refine blk_alloc ?_ _)); refine blk_put (cs := #[.slice none 0 0, .slice none 0 0, .slice none 0 0, .int .i64 0, .int .i64 0, .int .i64 0, .int .i64 0, .int .i64 0]) ?_ 0 _ rfl; (with_reducible repeat (first | refine blk_drewN ?_ _ | refine blk_drew ?_ | refine blk_alloc ?_ _)); exact BK244.out) hb); replace HB := Aside0.mk (below_step (be2x9 HB.out GE206.out GE244.out) hb); (try clear hb); (try clear hb2); (try clear hk); (try clear hi); (try clear ho0); (try clear hN_); obtain ⟨hcz40_0, hcz40_1, hcz40_2, hcz40_3, hcz40_4, hcz40_5, hcz40_6, hcz40_7, hfz40_0, hfz40_1, hfz40_2, hfz40_3, hfz40_4, hfz40_5, hfz40_6, hfz40_7⟩ := cf8x9 BK244.out; obtain ⟨Ao41, co41, eo41⟩ := Kd.S_slice HO247.out; subst eo41) | ((with_reducible refine gate_callee (f := 54) rfl ?_); refine goesL_ (some 42) rfl rfl Try.func54 (by kernel_rfl) rfl #[.agg #[.slice Ao34 t230.length co34, .slice Ao37 t233.length co37, .slice Ao38 t236.length co38, .int .i64 t239, .int .i64 t240, .int .i64 t241, .int .i64 t242, .int .i64 t243], .slice Ao41 t245.length co41] rfl mpx9 ?_; (with_reducible refine (impl_SpareMill.calls k _ _ t230 _ _ t233 _ _ t236 t239 t240 t241 t242 t243 _ _ t245 t248 t251 _ ?side1 ?side2 ?side3 ?side4 ?side5 ?side6 ?side7 ?side8 A18.out).mono ?_); (case side1 => repeat (first | exact (Kd.S_reads' HO232.out).2.2 | (with_reducible refine Kd.C_alloc ?_ _) | (with_reducible refine Kd.C_drewN ?_ _) | (with_reducible refine Kd.C_drew ?_))); (case side2 => exact (Kd.S_reads' HO232.out).2.1); (case side3 => exact cRx9 HO235.out); (case side4 => exact (Kd.R_reads' HO235.out).2.1); (case side5 => exact cRx9 HO238.out); (case side6 => exact (Kd.R_reads' HO238.out).2.1); (case side7 => repeat (first | exact (Kd.S_reads' HO247.out).2.2 | (with_reducible refine Kd.C_alloc ?_ _) | (with_reducible refine Kd.C_drewN ?_ _) | (with_reducible refine Kd.C_drew ?_))); (case side8 => exact (Kd.S_reads' HO247.out).2.1); rintro e w42 ⟨v249, rfl, ho0, hb⟩; refine ⟨_, rfl, ?_⟩; replace HO211 := Aside0.mk (Kd.S_elder' (rSx9 HO211.out) (Kd.R_base ho0) hb); replace HO225 := Aside0.mk (Kd.S_elder' (rSx9 HO225.out) (Kd.R_base ho0) hb); replace HO232 := Aside0.mk (Kd.S_elder' (rSx9 HO232.out) (Kd.R_base ho0) hb); replace HO247 := Aside0.mk (Kd.S_elder' (rSx9 HO247.out) (Kd.R_base ho0) hb); have HO250 := Aside0.mk (Kd.R_lower (nwx9 (nwx9 (nwx9 (nwx9 (nwx9 ho0 (rRx9 HO214.out)) (rRx9 HO217.out)) (rRx9 HO228.out)) (rRx9 HO235.out)) (rRx9 HO238.out)) (below_size (be2x9 HB.out GE206.out GE244.out))); replace HO214 := Aside0.mk (Kd.R_elder' (rRx9 HO214.out) (Kd.R_base ho0) hb); replace HO217 := Aside0.mk (Kd.R_elder' (rRx9 HO217.out) (Kd.R_base ho0) hb); replace HO228 := Aside0.mk (Kd.R_elder' (rRx9 HO228.out) (Kd.R_base ho0) hb); replace HO235 := Aside0.mk (Kd.R_elder' (rRx9 HO235.out) (Kd.R_base ho0) hb); replace HO238 := Aside0.mk (Kd.R_elder' (rRx9 HO238.out) (Kd.R_base ho0) hb); replace BK206 := Aside0.mk (blk_below (rBx9 BK206.out) hb); replace BK244 := Aside0.mk (blk_below (rBx9 BK244.out) hb); replace HB := Aside0.mk (below_step (be2x9 HB.out GE206.out GE244.out) hb); (try clear hb); (try clear hb2); (try clear hk); (try clear hi); (try clear ho0)))
   (try simp only [Act.put, List.setIfInBounds_toArray, List.set_cons_zero, List.set_cons_succ])
   go_cut [53] (fun v53 wc => ∃ (kq : Nat) (x53_18 : Bool), v53 = .bool x53_18 ∧ Aside0 (laws_FnExactSpareMill.j0 kq l1 t226 t229 t245 t248 t251 x53_18 l0_0 l0_1 l0_2 a0_3 a0_4 a0_5 a0_6 a0_7 t230 t233 t236 t239 t240 t241 t242 t243 = some r) ∧ Aside0 (kq ≤ k) ∧ Aside0 (Kd.R (Kd.int .i64) 3 wc w.heap.size (fun k_ => some k_ ≠ (v249 : Value).ownBlock ∧ some k_ ≠ ((.slice Ao37 t233.length co37) : Value).ownBlock ∧ some k_ ≠ ((.slice Ao38 t236.length co38) : Value).ownBlock) v227 t226) ∧ Aside0 (Kd.S (Kd.slice 3 (Kd.int .i64)) 24 wc w.heap.size (fun k_ => some k_ ≠ (v227 : Value).ownBlock ∧ some k_ ≠ (v249 : Value).ownBlock ∧ (some k_ ≠ ((.slice Ao34 t230.length co34) : Value).ownBlock ∧ N_ ≤ k_) ∧ some k_ ≠ ((.slice Ao37 t233.length co37) : Value).ownBlock ∧ some k_ ≠ ((.slice Ao38 t236.length co38) : Value).ownBlock) (.slice Ao41 t245.length co41) t245) ∧ Aside0 (Kd.R (Kd.int .i64) 3 wc w.heap.size (fun k_ => some k_ ≠ (v227 : Value).ownBlock ∧ some k_ ≠ ((.slice Ao37 t233.length co37) : Value).ownBlock ∧ some k_ ≠ ((.slice Ao38 t236.length co38) : Value).ownBlock) v249 t248) ∧ Aside0 (Kd.S (Kd.slice 3 (Kd.int .i64)) 24 wc w.heap.size (fun k_ => some k_ ≠ (v227 : Value).ownBlock ∧ (some k_ ≠ ((.slice Ao41 t245.length co41) : Value).ownBlock ∧ k_ < N_) ∧ some k_ ≠ (v249 : Value).ownBlock ∧ some k_ ≠ ((.slice Ao37 t233.length co37) : Value).ownBlock ∧ some k_ ≠ ((.slice Ao38 t236.length co38) : Value).ownBlock) (.slice Ao34 t230.length co34) t230) ∧ Aside0 (Kd.R (Kd.int .i64) 3 wc w.heap.size (fun k_ => some k_ ≠ (v227 : Value).ownBlock ∧ some k_ ≠ (v249 : Value).ownBlock ∧ some k_ ≠ ((.slice Ao38 t236.length co38) : Value).ownBlock) (.slice Ao37 t233.length co37) t233) ∧ Aside0 (Kd.R (Kd.int .i64) 3 wc w.heap.size (fun k_ => some k_ ≠ (v227 : Value).ownBlock ∧ some k_ ≠ (v249 : Value).ownBlock ∧ some k_ ≠ ((.slice Ao37 t233.length co37) : Value).ownBlock) (.slice Ao38 t236.length co38) t236) ∧ Aside0 (wc.heap[gb206]? = some (.cells #[(.slice A0_0 l0_0.length c0_0), (.slice A0_1 l0_1.length c0_1), (.slice A0_2 l0_2.length c0_2), .int .i64 a0_3, .int .i64 a0_4, .int .i64 a0_5, .int .i64 a0_6, .int .i64 a0_7] 31 (0, 0))) ∧ Aside0 (wc.heap[gb244]? = some (.cells #[(.slice Ao34 t230.length co34), (.slice Ao37 t233.length co37), (.slice Ao38 t236.length co38), .int .i64 t239, .int .i64 t240, .int .i64 t241, .int .i64 t242, .int .i64 t243] 45 (0, 0))) ∧ Aside0 (Below w.heap.size w wc))
   case first =>
    have H := HC19.out
    clear HC19
    replace H := Option.bind_eq_some_iff.mp H
    obtain ⟨t252, A430, H⟩ := H
    have A43 := Aside0.mk A430
    clear A430
    by_cases c44 : t252 = true
    ·subst c44
     have H1 : (laws_FnExactSpareMill.j0 k l1 t226 t229 t245 t248 t251 (t251 != t229) l0_0 l0_1 l0_2 a0_3 a0_4 a0_5 a0_6 a0_7 t230 t233 t236 t239 t240 t241 t242 t243) = some r := by rw [if_pos rfl] at H; exact H
     clear H
     have H := H1
     clear H1
     have H' := Aside0.mk H
     clear H
     obtain ⟨Ao45, co45, eo45⟩ := Kd.R_slice HO250.out
     subst eo45
     obtain ⟨Ao46, co46, eo46⟩ := Kd.R_slice HO228.out
     subst eo46
     go_wp2_with (first | ((with_reducible refine gate_callee (f := 23) rfl ?_); refine goesL_ (some 47) rfl rfl Try.func23 (by kernel_rfl) rfl #[.slice Ao45 t248.length co45, .slice Ao46 t226.length co46] rfl mpx9 ?_; (with_reducible refine (laws_eqIntS.calls k _ _ t248 _ _ t226 true _ ?side1 ?side2 ?side3 ?side4 A43.out).mono ?_); (case side1 => exact cRx9 HO250.out); (case side2 => exact (Kd.R_reads' HO250.out).2.1); (case side3 => exact cRx9 HO228.out); (case side4 => exact (Kd.R_reads' HO228.out).2.1); rintro e w' ⟨rfl, ⟨nd, rfl⟩⟩; refine ⟨_, rfl, ?_⟩))
     go_meet
     case rel => exact ⟨_, ((t251 != t229)), (by first | rfl | (simp; done) | (simp [*]; done)), H', ⟨by first | omega | exact Nat.le_refl _⟩, ⟨by exact rRx9 (mox9 HO228.out)⟩, ⟨by (with_reducible repeat (first | apply Kd.S_alloc | apply Kd.S_drewN | apply Kd.S_drew)); exact Kd.S_mono HO247.out (fun _ hk => ⟨hk.1.1.1.1.2, ⟨hk.2, ⟨⟨hk.1.1.1.2, hk.1.1.1.1.1.1.1.1.1.2⟩, ⟨hk.1.1.2, hk.1.2⟩⟩⟩⟩)⟩, ⟨by exact rRx9 (mox9 HO250.out)⟩, ⟨by (with_reducible repeat (first | apply Kd.S_alloc | apply Kd.S_drewN | apply Kd.S_drew)); exact Kd.S_mono HO232.out (fun _ hk => ⟨hk.1.1.2, ⟨hk.1.2, ⟨hk.2, ⟨hk.1.1.1.1.1.1.1.1, hk.1.1.1.1.1.1.1.2⟩⟩⟩⟩)⟩, ⟨by exact rRx9 (mox9 HO235.out)⟩, ⟨by exact rRx9 (mox9 HO238.out)⟩, ⟨rBx9 BK206.out⟩, ⟨rBx9 BK244.out⟩, ⟨be2x9 HB.out GE206.out GE244.out⟩⟩
    ·replace c44 := Bool.eq_false_iff.mpr c44
     subst c44
     have H1 : (laws_FnExactSpareMill.j0 k l1 t226 t229 t245 t248 t251 true l0_0 l0_1 l0_2 a0_3 a0_4 a0_5 a0_6 a0_7 t230 t233 t236 t239 t240 t241 t242 t243) = some r := by rw [if_neg (show ¬ (false = true) by decide)] at H; exact H
     clear H
     have H := H1
     clear H1
     have H' := Aside0.mk H
     clear H
     obtain ⟨Ao47, co47, eo47⟩ := Kd.R_slice HO250.out
     subst eo47
     obtain ⟨Ao48, co48, eo48⟩ := Kd.R_slice HO228.out
     subst eo48
     go_wp2_with (first | ((with_reducible refine gate_callee (f := 23) rfl ?_); refine goesL_ (some 47) rfl rfl Try.func23 (by kernel_rfl) rfl #[.slice Ao47 t248.length co47, .slice Ao48 t226.length co48] rfl mpx9 ?_; (with_reducible refine (laws_eqIntS.calls k _ _ t248 _ _ t226 false _ ?side1 ?side2 ?side3 ?side4 A43.out).mono ?_); (case side1 => exact cRx9 HO250.out); (case side2 => exact (Kd.R_reads' HO250.out).2.1); (case side3 => exact cRx9 HO228.out); (case side4 => exact (Kd.R_reads' HO228.out).2.1); rintro e w' ⟨rfl, ⟨nd, rfl⟩⟩; refine ⟨_, rfl, ?_⟩))
     go_meet
     case rel => exact ⟨_, (true), (by first | rfl | (simp; done) | (simp [*]; done)), H', ⟨by first | omega | exact Nat.le_refl _⟩, ⟨by exact rRx9 (mox9 HO228.out)⟩, ⟨by (with_reducible repeat (first | apply Kd.S_alloc | apply Kd.S_drewN | apply Kd.S_drew)); exact Kd.S_mono HO247.out (fun _ hk => ⟨hk.1.1.1.1.2, ⟨hk.2, ⟨⟨hk.1.1.1.2, hk.1.1.1.1.1.1.1.1.1.2⟩, ⟨hk.1.1.2, hk.1.2⟩⟩⟩⟩)⟩, ⟨by exact rRx9 (mox9 HO250.out)⟩, ⟨by (with_reducible repeat (first | apply Kd.S_alloc | apply Kd.S_drewN | apply Kd.S_drew)); exact Kd.S_mono HO232.out (fun _ hk => ⟨hk.1.1.2, ⟨hk.1.2, ⟨hk.2, ⟨hk.1.1.1.1.1.1.1.1, hk.1.1.1.1.1.1.1.2⟩⟩⟩⟩)⟩, ⟨by exact rRx9 (mox9 HO235.out)⟩, ⟨by exact rRx9 (mox9 HO238.out)⟩, ⟨rBx9 BK206.out⟩, ⟨rBx9 BK244.out⟩, ⟨be2x9 HB.out GE206.out GE244.out⟩⟩
   case rest =>
    clear HC19
    try clear c1; try clear c4; try clear c4b0; try clear c9; try clear c9b0; try clear c44; try clear hcz11_0 hcz11_1 hcz11_2 hcz11_3 hcz11_4 hcz11_5 hcz11_6 hcz11_7; try clear hcz21_0 hcz21_1 hcz21_2 hcz21_3 hcz21_4 hcz21_5 hcz21_6 hcz21_7; try clear hcz23_0 hcz23_1 hcz23_2 hcz23_3 hcz23_4 hcz23_5 hcz23_6 hcz23_7; try clear hcz31_0 hcz31_1 hcz31_2 hcz31_3 hcz31_4 hcz31_5 hcz31_6 hcz31_7; try clear hcz36_0 hcz36_1 hcz36_2 hcz36_3 hcz36_4 hcz36_5 hcz36_6 hcz36_7; try clear hcz40_0 hcz40_1 hcz40_2 hcz40_3 hcz40_4 hcz40_5 hcz40_6 hcz40_7; try clear hcz6_0 hcz6_1 hcz6_2 hcz6_3 hcz6_4 hcz6_5 hcz6_6 hcz6_7; try clear hfz11_0 hfz11_1 hfz11_2 hfz11_3 hfz11_4 hfz11_5 hfz11_6 hfz11_7; try clear hfz21_0 hfz21_1 hfz21_2 hfz21_3 hfz21_4 hfz21_5 hfz21_6 hfz21_7; try clear hfz23_0 hfz23_1 hfz23_2 hfz23_3 hfz23_4 hfz23_5 hfz23_6 hfz23_7; try clear hfz31_0 hfz31_1 hfz31_2 hfz31_3 hfz31_4 hfz31_5 hfz31_6 hfz31_7; try clear hfz36_0 hfz36_1 hfz36_2 hfz36_3 hfz36_4 hfz36_5 hfz36_6 hfz36_7; try clear hfz40_0 hfz40_1 hfz40_2 hfz40_3 hfz40_4 hfz40_5 hfz40_6 hfz40_7; try clear hfz6_0 hfz6_1 hfz6_2 hfz6_3 hfz6_4 hfz6_5 hfz6_6 hfz6_7
    obtain ⟨kq, x53_18, rfl, HA, HJ18, HO_6, HO_9, HO_10, HO_245000, HO_245001, HO_245002, BK206, BK244, HB⟩ := hcut
    cases kq with
    | zero => exact absurd HA.out (by simp [laws_FnExactSpareMill.j0])
    | succ kj18 =>
     have H := HA.out
     clear HA
     simp only [laws_FnExactSpareMill.j0] at H
     by_cases c49 : x53_18 = true
     ·subst c49
      have H1 : (some false) = some r := by rw [if_pos rfl] at H; exact H
      clear H
      have H := H1
      clear H1
      obtain rfl := Option.some.inj H
      go_wp2
      go_ret
      exact ⟨by first | rfl | (simp [errW_none, errW_some] <;> rfl) | (simp [*, errW_none, errW_some] <;> rfl), be2x9 HB.out GE206.out GE244.out⟩
     ·replace c49 := Bool.eq_false_iff.mpr c49
      subst c49
      have H1 : ((laws_toJob.f kj18 l0_0 l0_1 l0_2 a0_3 a0_4 a0_5 a0_6 a0_7).bind fun bt253 => ((laws_eqJob.f kj18 t230 t233 t236 t239 t240 t241 t242 t243 bt253.1 bt253.2.1 bt253.2.2.1 bt253.2.2.2.1 bt253.2.2.2.2.1 bt253.2.2.2.2.2.1 bt253.2.2.2.2.2.2.1 bt253.2.2.2.2.2.2.2).bind fun t267 => (if t267 = true then ((laws_toIntSS.f kj18 l1).bind fun t268 => ((laws_eqIntSS.f kj18 t245 t268).bind fun t271 => (if t271 = true then ((laws_markJob.f kj18 t230 t233 t236 t239 t240 t241 t242 t243 1).bind fun bt272 => ((laws_markIntSS.p kj18 t245 bt272.1).bind fun bt276 => (if bt276.1 < 0 then (laws_FnExactSpareMill.j1 kj18 l1 t226 t229 t248 true l0_0 l0_1 l0_2 a0_3 a0_4 a0_5 a0_6 a0_7) else ((laws_eqIntS.f kj18 t248 t226).bind fun t278 => (if t278 = true then (laws_FnExactSpareMill.j1 kj18 l1 t226 t229 t248 (t251 != t229) l0_0 l0_1 l0_2 a0_3 a0_4 a0_5 a0_6 a0_7) else (laws_FnExactSpareMill.j1 kj18 l1 t226 t229 t248 true l0_0 l0_1 l0_2 a0_3 a0_4 a0_5 a0_6 a0_7)))))) else (some false)))) else (some false)))) = some r := by rw [if_neg (show ¬ (false = true) by decide)] at H; exact H
      clear H
      have H := H1
      clear H1
      replace H := Option.bind_eq_some_iff.mp H
      obtain ⟨⟨t253, t256, t259, t262, t263, t264, t265, t266⟩, A500, H⟩ := H
      (try dsimp only at H)
      have A50 := Aside0.mk A500
      clear A500
      replace H := Option.bind_eq_some_iff.mp H
      obtain ⟨t267, A510, H⟩ := H
      have A51 := Aside0.mk A510
      clear A510
      by_cases c52 : t267 = true
      ·subst c52
       have H1 : ((laws_toIntSS.f kj18 l1).bind fun t268 => ((laws_eqIntSS.f kj18 t245 t268).bind fun t271 => (if t271 = true then ((laws_markJob.f kj18 t230 t233 t236 t239 t240 t241 t242 t243 1).bind fun bt272 => ((laws_markIntSS.p kj18 t245 bt272.1).bind fun bt276 => (if bt276.1 < 0 then (laws_FnExactSpareMill.j1 kj18 l1 t226 t229 t248 true l0_0 l0_1 l0_2 a0_3 a0_4 a0_5 a0_6 a0_7) else ((laws_eqIntS.f kj18 t248 t226).bind fun t278 => (if t278 = true then (laws_FnExactSpareMill.j1 kj18 l1 t226 t229 t248 (t251 != t229) l0_0 l0_1 l0_2 a0_3 a0_4 a0_5 a0_6 a0_7) else (laws_FnExactSpareMill.j1 kj18 l1 t226 t229 t248 true l0_0 l0_1 l0_2 a0_3 a0_4 a0_5 a0_6 a0_7)))))) else (some false)))) = some r := by rw [if_pos rfl] at H; exact H
       clear H
       have H := H1
       clear H1
       replace H := Option.bind_eq_some_iff.mp H
       obtain ⟨t268, A530, H⟩ := H
       have A53 := Aside0.mk A530
       clear A530
       replace H := Option.bind_eq_some_iff.mp H
       obtain ⟨t271, A540, H⟩ := H
       have A54 := Aside0.mk A540
       clear A540
       by_cases c55 : t271 = true
       ·subst c55
        have H1 : ((laws_markJob.f kj18 t230 t233 t236 t239 t240 t241 t242 t243 1).bind fun bt272 => ((laws_markIntSS.p kj18 t245 bt272.1).bind fun bt276 => (if bt276.1 < 0 then (laws_FnExactSpareMill.j1 kj18 l1 t226 t229 t248 true l0_0 l0_1 l0_2 a0_3 a0_4 a0_5 a0_6 a0_7) else ((laws_eqIntS.f kj18 t248 t226).bind fun t278 => (if t278 = true then (laws_FnExactSpareMill.j1 kj18 l1 t226 t229 t248 (t251 != t229) l0_0 l0_1 l0_2 a0_3 a0_4 a0_5 a0_6 a0_7) else (laws_FnExactSpareMill.j1 kj18 l1 t226 t229 t248 true l0_0 l0_1 l0_2 a0_3 a0_4 a0_5 a0_6 a0_7)))))) = some r := by rw [if_pos rfl] at H; exact H
        clear H
        have H := H1
        clear H1
        replace H := Option.bind_eq_some_iff.mp H
        obtain ⟨⟨t272, t273, t274, t275⟩, A560, H⟩ := H
        (try dsimp only at H)
        have A56 := Aside0.mk A560
        clear A560
        replace H := Option.bind_eq_some_iff.mp H
        obtain ⟨⟨t276, t277⟩, A570, H⟩ := H
        (try dsimp only at H)
        have A57 := Aside0.mk A570
        clear A570
        have HC58 := Aside0.mk H
        clear H
        try go_wp2
        replace HO_6 := Aside0.mk (Kd.R_drew HO_6.out)
        replace HO_9 := Aside0.mk (Kd.S_drew HO_9.out)
        replace HO_10 := Aside0.mk (Kd.R_drew HO_10.out)
        replace HO_245000 := Aside0.mk (Kd.S_drew HO_245000.out)
        replace HO_245001 := Aside0.mk (Kd.R_drew HO_245001.out)
        replace HO_245002 := Aside0.mk (Kd.R_drew HO_245002.out)
        replace BK206 := Aside0.mk (blk_drew BK206.out)
        replace BK244 := Aside0.mk (blk_drew BK244.out)
        replace HB := Aside0.mk (below_drew1 HB.out)
        refine start_ (n := 5) (S := fun w' => w'.cell? ⟨gb244, 0, none⟩ = some (.slice Ao34 t230.length co34) ∧ w'.cell? ⟨gb244, 1, none⟩ = some (.slice Ao37 t233.length co37) ∧ w'.cell? ⟨gb244, 2, none⟩ = some (.slice Ao38 t236.length co38) ∧ w'.cell? ⟨gb244, 3, none⟩ = some (.int .i64 t239) ∧ w'.cell? ⟨gb244, 4, none⟩ = some (.int .i64 t240) ∧ w'.cell? ⟨gb244, 5, none⟩ = some (.int .i64 t241) ∧ w'.cell? ⟨gb244, 6, none⟩ = some (.int .i64 t242) ∧ w'.cell? ⟨gb244, 7, none⟩ = some (.int .i64 t243) ∧ w'.cell? ⟨gb206, 0, none⟩ = some (.slice A0_0 l0_0.length c0_0) ∧ w'.cell? ⟨gb206, 1, none⟩ = some (.slice A0_1 l0_1.length c0_1) ∧ w'.cell? ⟨gb206, 2, none⟩ = some (.slice A0_2 l0_2.length c0_2) ∧ w'.cell? ⟨gb206, 3, none⟩ = some (.int .i64 a0_3) ∧ w'.cell? ⟨gb206, 4, none⟩ = some (.int .i64 a0_4) ∧ w'.cell? ⟨gb206, 5, none⟩ = some (.int .i64 a0_5) ∧ w'.cell? ⟨gb206, 6, none⟩ = some (.int .i64 a0_6) ∧ w'.cell? ⟨gb206, 7, none⟩ = some (.int .i64 a0_7)) (ds := []) #[false, false, false, false, false] (by kernel_rfl) rfl rfl (ca8x9 BK244.out (cc8x9 BK206.out)) (fun hHeld => ?_)
        generalize wc.drew = w59 at HO_6 HO_9 HO_10 HO_245000 HO_245001 HO_245002 BK206 BK244 HB hHeld ⊢
        refine take_ (i := 0) (N := some 54) (v := ?_) (a' := ?_) #[true, false, false, false, false] rfl rfl (by kernel_rfl) (fun _ _ _ h => h) (Or.inl ⟨by rfl, ?_⟩) hHeld ?_ ?_
        rotate_left
        ·rintro w' ⟨s0, s1, s2, s3, s4, s5, s6, s7, s8, s9, s10, s11, s12, s13, s14, s15⟩
         go_simp
         with_reducible rfl
        rotate_left
        ·simp only [Act.put, List.setIfInBounds_toArray, List.set_cons_zero, List.set_cons_succ, i64_w, i32_w]
         rfl
        refine take_ (i := 1) (N := some 55) (v := ?_) (a' := ?_) #[true, true, false, false, false] rfl rfl (by kernel_rfl) (fun _ _ _ h => h) (Or.inl ⟨by rfl, ?_⟩) hHeld ?_ ?_
        rotate_left
        ·rintro w' ⟨s0, s1, s2, s3, s4, s5, s6, s7, s8, s9, s10, s11, s12, s13, s14, s15⟩
         go_simp
         with_reducible rfl
        rotate_left
        ·simp only [Act.put, List.setIfInBounds_toArray, List.set_cons_zero, List.set_cons_succ, i64_w, i32_w]
         rfl
        refine one_ (i := 2) (N := some 56) #[true, true, true, false, false] rfl rfl (by kernel_rfl) (by decide) (fun K hK => ?_)
        refine goes_ Try.func20 (by kernel_rfl) rfl #[.agg #[.slice A0_0 l0_0.length c0_0, .slice A0_1 l0_1.length c0_1, .slice A0_2 l0_2.length c0_2, .int .i64 a0_3, .int .i64 a0_4, .int .i64 a0_5, .int .i64 a0_6, .int .i64 a0_7]] (by rfl) rfl rfl mpx9 ?_
        with_reducible refine (laws_toJob.calls kj18 _ _ l0_0 _ _ l0_1 _ _ l0_2 a0_3 a0_4 a0_5 a0_6 a0_7 t253 t256 t259 t262 t263 t264 t265 t266 _ ?side1 ?side2 ?side3 ?side4 ?side5 ?side6 A50.out).mono ?_
        (case side1 => exact rCx9 (Kd.C_below HR0_0.out HB.out))
        (case side2 => exact HC0_0.out)
        (case side3 => exact rCx9 (Kd.C_below HR0_1.out HB.out))
        (case side4 => exact HC0_1.out)
        (case side5 => exact rCx9 (Kd.C_below HR0_2.out HB.out))
        (case side6 => exact HC0_2.out)
        rintro e w60 ⟨v254, v257, v260, rfl, ho0, ho1, ho2, hb⟩
        refine ⟨_, rfl, ?_⟩
        have HO255 := Aside0.mk (Kd.S_lower (Kd.S_new' (Kd.S_new' (Kd.S_new' (Kd.S_new' (Kd.S_new' (Kd.S_new' ho0 (Kd.R_lt (rRx9 HO_6.out))) (Kd.S_lt (rSx9 HO_9.out))) (Kd.R_lt (rRx9 HO_10.out))) (Kd.S_lt (rSx9 HO_245000.out))) (Kd.R_lt (rRx9 HO_245001.out))) (Kd.R_lt (rRx9 HO_245002.out))) (below_size (be2x9 HB.out GE206.out GE244.out)))
        replace HO_9 := Aside0.mk (Kd.S_mono (Kd.S_told (Kd.S_told (Kd.S_told (Kd.S_old (rSx9 HO_9.out) hb) (Kd.S_base ho0)) (Kd.R_base ho1)) (Kd.R_base ho2)) (fun _ h_ => h_.1))
        replace HO_245000 := Aside0.mk (Kd.S_mono (Kd.S_told (Kd.S_told (Kd.S_told (Kd.S_old (rSx9 HO_245000.out) hb) (Kd.S_base ho0)) (Kd.R_base ho1)) (Kd.R_base ho2)) (fun _ h_ => h_.1))
        have HO258 := Aside0.mk (Kd.R_lower (nwx9 (nwx9 (nwx9 (nwx9 ho1 (rRx9 HO_6.out)) (rRx9 HO_10.out)) (rRx9 HO_245001.out)) (rRx9 HO_245002.out)) (below_size (be2x9 HB.out GE206.out GE244.out)))
        have HO261 := Aside0.mk (Kd.R_lower (nwx9 (nwx9 (nwx9 (nwx9 ho2 (rRx9 HO_6.out)) (rRx9 HO_10.out)) (rRx9 HO_245001.out)) (rRx9 HO_245002.out)) (below_size (be2x9 HB.out GE206.out GE244.out)))
        replace HO_6 := Aside0.mk (Kd.R_mono (Kd.R_told (Kd.R_told (Kd.R_old (rRx9 HO_6.out) hb) (Kd.R_base ho1)) (Kd.R_base ho2)) (fun _ h_ => h_.1))
        replace HO_10 := Aside0.mk (Kd.R_mono (Kd.R_told (Kd.R_told (Kd.R_old (rRx9 HO_10.out) hb) (Kd.R_base ho1)) (Kd.R_base ho2)) (fun _ h_ => h_.1))
        replace HO_245001 := Aside0.mk (Kd.R_mono (Kd.R_told (Kd.R_told (Kd.R_old (rRx9 HO_245001.out) hb) (Kd.R_base ho1)) (Kd.R_base ho2)) (fun _ h_ => h_.1))
        replace HO_245002 := Aside0.mk (Kd.R_mono (Kd.R_told (Kd.R_told (Kd.R_old (rRx9 HO_245002.out) hb) (Kd.R_base ho1)) (Kd.R_base ho2)) (fun _ h_ => h_.1))
        replace BK206 := Aside0.mk (blk_below (rBx9 BK206.out) hb)
        replace BK244 := Aside0.mk (blk_below (rBx9 BK244.out) hb)
        replace HB := Aside0.mk (below_step (be2x9 HB.out GE206.out GE244.out) hb)
        (try clear hb)
        (try clear hb2)
        (try clear hk)
        (try clear hi)
        (try clear ho0)
        (try clear ho1)
        (try clear ho2)
        obtain ⟨Ao61, co61, eo61⟩ := Kd.S_slice HO255.out
        (first | subst eo61 | (injection eo61 with f1_ f2_ f3_; have f4_ := f1_.symm; have f5_ := f3_.symm; clear f1_ f2_ f3_; subst f4_; subst f5_))
        obtain ⟨Ao62, co62, eo62⟩ := Kd.R_slice HO258.out
        (first | subst eo62 | (injection eo62 with f1_ f2_ f3_; have f4_ := f1_.symm; have f5_ := f3_.symm; clear f1_ f2_ f3_; subst f4_; subst f5_))
        obtain ⟨Ao63, co63, eo63⟩ := Kd.R_slice HO261.out
        (first | subst eo63 | (injection eo63 with f1_ f2_ f3_; have f4_ := f1_.symm; have f5_ := f3_.symm; clear f1_ f2_ f3_; subst f4_; subst f5_))
        refine hK.out _ _ (ca8x9 BK244.out (cc8x9 BK206.out)) (fun hHeld => ?_)
        clear hK K
        refine norm_ (a' := ?_) ?_ ?_
        rotate_left
        ·show Act.put _ (some 56) _ = _
         simp only [Act.put, List.setIfInBounds_toArray, List.set_cons_zero, List.set_cons_succ, i64_w, i32_w]
         rfl
        refine one_ (i := 3) (N := some 57) #[true, true, true, true, false] rfl rfl (by kernel_rfl) (by decide) (fun K hK => ?_)
        refine goes_ Try.func25 (by kernel_rfl) rfl #[.agg #[.slice Ao34 t230.length co34, .slice Ao37 t233.length co37, .slice Ao38 t236.length co38, .int .i64 t239, .int .i64 t240, .int .i64 t241, .int .i64 t242, .int .i64 t243], .agg #[.slice Ao61 t253.length co61, .slice Ao62 t256.length co62, .slice Ao63 t259.length co63, .int .i64 t262, .int .i64 t263, .int .i64 t264, .int .i64 t265, .int .i64 t266]] (by rfl) rfl rfl mpx9 ?_
        with_reducible refine (laws_eqJob.calls kj18 _ _ t230 _ _ t233 _ _ t236 t239 t240 t241 t242 t243 _ _ t253 _ _ t256 _ _ t259 t262 t263 t264 t265 t266 true _ ?side1 ?side2 ?side3 ?side4 ?side5 ?side6 ?side7 ?side8 ?side9 ?side10 ?side11 ?side12 A51.out).mono ?_
        (case side1 => repeat (first | exact (Kd.S_reads' HO_245000.out).2.2 | (with_reducible refine Kd.C_alloc ?_ _) | (with_reducible refine Kd.C_drewN ?_ _) | (with_reducible refine Kd.C_drew ?_)))
        (case side2 => exact (Kd.S_reads' HO_245000.out).2.1)
        (case side3 => exact cRx9 HO_245001.out)
        (case side4 => exact (Kd.R_reads' HO_245001.out).2.1)
        (case side5 => exact cRx9 HO_245002.out)
        (case side6 => exact (Kd.R_reads' HO_245002.out).2.1)
        (case side7 => repeat (first | exact (Kd.S_reads' HO255.out).2.2 | (with_reducible refine Kd.C_alloc ?_ _) | (with_reducible refine Kd.C_drewN ?_ _) | (with_reducible refine Kd.C_drew ?_)))
        (case side8 => exact (Kd.S_reads' HO255.out).2.1)
        (case side9 => exact cRx9 HO258.out)
        (case side10 => exact (Kd.R_reads' HO258.out).2.1)
        (case side11 => exact cRx9 HO261.out)
        (case side12 => exact (Kd.R_reads' HO261.out).2.1)
        rintro e w64 ⟨rfl, hb⟩
        refine ⟨_, rfl, ?_⟩
        replace HO_6 := Aside0.mk (Kd.R_below (rRx9 HO_6.out) hb)
        replace HO_9 := Aside0.mk (Kd.S_below (rSx9 HO_9.out) hb)
        replace HO_10 := Aside0.mk (Kd.R_below (rRx9 HO_10.out) hb)
        replace HO_245000 := Aside0.mk (Kd.S_below (rSx9 HO_245000.out) hb)
        replace HO_245001 := Aside0.mk (Kd.R_below (rRx9 HO_245001.out) hb)
        replace HO_245002 := Aside0.mk (Kd.R_below (rRx9 HO_245002.out) hb)
        replace HO255 := Aside0.mk (Kd.S_below (rSx9 HO255.out) hb)
        replace HO258 := Aside0.mk (Kd.R_below (rRx9 HO258.out) hb)
        replace HO261 := Aside0.mk (Kd.R_below (rRx9 HO261.out) hb)
        replace BK206 := Aside0.mk (blk_below (rBx9 BK206.out) hb)
        replace BK244 := Aside0.mk (blk_below (rBx9 BK244.out) hb)
        replace HB := Aside0.mk (below_step (be2x9 HB.out GE206.out GE244.out) hb)
        (try clear hb)
        (try clear hb2)
        (try clear hk)
        (try clear hi)
        refine hK.out _ _ (ca8x9 BK244.out (cc8x9 BK206.out)) (fun hHeld => ?_)
        clear hK K
        refine norm_ (a' := ?_) ?_ ?_
        rotate_left
        ·show Act.put _ (some 57) _ = _
         simp only [Act.put, List.setIfInBounds_toArray, List.set_cons_zero, List.set_cons_succ, i64_w, i32_w]
         rfl
        refine pure_ (i := 4) (N := some 58) (v := ?_) (a' := ?_) #[true, true, true, true, true] rfl rfl (by kernel_rfl) (fun _ _ _ h => h) (Or.inl ⟨by rfl, ?_⟩) ?_ ?_
        rotate_left
        ·intro w'
         go_simp
         with_reducible rfl
        rotate_left
        ·simp only [Act.put, List.setIfInBounds_toArray, List.set_cons_zero, List.set_cons_succ, i64_w, i32_w]
         rfl
        refine done_ (by kernel_rfl) ?_
        go_upto_region 21 with (first | ((with_reducible refine gate_callee (f := 34) rfl ?_); refine goesL_ (some 61) rfl rfl Try.func34 (by kernel_rfl) rfl #[.slice A1 l1.length c1] rfl mpx9 ?_; (with_reducible refine (laws_toIntSS.calls kj18 _ _ l1 t268 _ ?side1 ?side2 A53.out).mono ?_); (case side1 => exact rCx9 (Kd.C_below HR1.out HB.out)); (case side2 => exact HC1.out); rintro e w65 ⟨v269, rfl, ho0, hb⟩; refine ⟨_, rfl, ?_⟩; have HO270 := Aside0.mk (Kd.S_lower (Kd.S_new' (Kd.S_new' (Kd.S_new' (Kd.S_new' (Kd.S_new' (Kd.S_new' (Kd.S_new' (Kd.S_new' (Kd.S_new' ho0 (Kd.R_lt (rRx9 HO_6.out))) (Kd.S_lt (rSx9 HO_9.out))) (Kd.R_lt (rRx9 HO_10.out))) (Kd.S_lt (rSx9 HO_245000.out))) (Kd.R_lt (rRx9 HO_245001.out))) (Kd.R_lt (rRx9 HO_245002.out))) (Kd.S_lt (rSx9 HO255.out))) (Kd.R_lt (rRx9 HO258.out))) (Kd.R_lt (rRx9 HO261.out))) (below_size (be2x9 HB.out GE206.out GE244.out))); replace HO_6 := Aside0.mk (Kd.R_below (rRx9 HO_6.out) hb); replace HO_9 := Aside0.mk (Kd.S_elder' (rSx9 HO_9.out) (Kd.S_base ho0) hb); replace HO_10 := Aside0.mk (Kd.R_below (rRx9 HO_10.out) hb); replace HO_245000 := Aside0.mk (Kd.S_elder' (rSx9 HO_245000.out) (Kd.S_base ho0) hb); replace HO_245001 := Aside0.mk (Kd.R_below (rRx9 HO_245001.out) hb); replace HO_245002 := Aside0.mk (Kd.R_below (rRx9 HO_245002.out) hb); replace HO255 := Aside0.mk (Kd.S_elder' (rSx9 HO255.out) (Kd.S_base ho0) hb); replace HO258 := Aside0.mk (Kd.R_below (rRx9 HO258.out) hb); replace HO261 := Aside0.mk (Kd.R_below (rRx9 HO261.out) hb); replace BK206 := Aside0.mk (blk_below (rBx9 BK206.out) hb); replace BK244 := Aside0.mk (blk_below (rBx9 BK244.out) hb); replace HB := Aside0.mk (below_step (be2x9 HB.out GE206.out GE244.out) hb); (try clear hb); (try clear hb2); (try clear hk); (try clear hi); (try clear ho0); obtain ⟨Ao66, co66, eo66⟩ := Kd.S_slice HO270.out; subst eo66) | ((with_reducible refine gate_callee (f := 36) rfl ?_); refine goesL_ (some 62) rfl rfl Try.func36 (by kernel_rfl) rfl #[.slice Ao41 t245.length co41, .slice Ao66 t268.length co66] rfl mpx9 ?_; (with_reducible refine (laws_eqIntSS.calls kj18 _ _ t245 _ _ t268 true _ ?side1 ?side2 ?side3 ?side4 A54.out).mono ?_); (case side1 => repeat (first | exact (Kd.S_reads' HO_9.out).2.2 | (with_reducible refine Kd.C_alloc ?_ _) | (with_reducible refine Kd.C_drewN ?_ _) | (with_reducible refine Kd.C_drew ?_))); (case side2 => exact (Kd.S_reads' HO_9.out).2.1); (case side3 => repeat (first | exact (Kd.S_reads' HO270.out).2.2 | (with_reducible refine Kd.C_alloc ?_ _) | (with_reducible refine Kd.C_drewN ?_ _) | (with_reducible refine Kd.C_drew ?_))); (case side4 => exact (Kd.S_reads' HO270.out).2.1); rintro e w' ⟨rfl, ⟨nd, rfl⟩⟩; refine ⟨_, rfl, ?_⟩; have hnb67 := NB244_206.out; have hnc67 := NB206_244.out; obtain ⟨hcz68_0, hcz68_1, hcz68_2, hcz68_3, hcz68_4, hcz68_5, hcz68_6, hcz68_7, hfz68_0, hfz68_1, hfz68_2, hfz68_3, hfz68_4, hfz68_5, hfz68_6, hfz68_7⟩ := cf8x9 BK244.out) | ((with_reducible refine gate_callee (f := 28) rfl ?_); refine goesL_ (some 66) rfl rfl Try.func28 (by kernel_rfl) rfl #[.agg #[.slice Ao34 t230.length co34, .slice Ao37 t233.length co37, .slice Ao38 t236.length co38, .int .i64 t239, .int .i64 t240, .int .i64 t241, .int .i64 t242, .int .i64 t243], .int .i64 1] rfl mpx9 ?_; (with_reducible refine (laws_markJob.callsp kj18 (fun k_ => ((some k_ ≠ (v227 : Value).ownBlock ∧ (some k_ ≠ (.slice Ao41 t245.length co41 : Value).ownBlock ∧ k_ < N_) ∧ some k_ ≠ (v249 : Value).ownBlock ∧ some k_ ≠ (.slice Ao37 t233.length co37 : Value).ownBlock ∧ some k_ ≠ (.slice Ao38 t236.length co38 : Value).ownBlock) ∧ k_ ≠ gb206) ∧ k_ ≠ gb244) (fun k_ => some k_ = (.slice Ao37 t233.length co37 : Value).ownBlock) (fun k_ => some k_ = (.slice Ao38 t236.length co38 : Value).ownBlock) (.slice Ao34 t230.length co34) (.slice Ao37 t233.length co37) (.slice Ao38 t236.length co38) t230 t233 t236 t239 t240 t241 t242 t243 1 t272 t273 t274 t275 w _ ?side1 ?side2 ?side3 ?side4 ?side5 ?side6 ?side7 A56.out).mono ?_); (case side1 => exact be2x9 HB.out GE206.out GE244.out); (case side2 => (with_reducible repeat (first | apply Kd.S_alloc | apply Kd.S_drewN | apply Kd.S_drew)); exact Kd.S_types (Kd.S_types (Kd.S_mono HO_245000.out (fun _ hk => hk.1.1.1.1)) BK206.out (by decide)) BK244.out (by decide)); (case side3 => (with_reducible repeat (first | apply Kd.R_alloc | apply Kd.R_drewN | apply Kd.R_drew)); exact Kd.R_tight rfl HO_245001.out); (case side4 => (with_reducible repeat (first | apply Kd.R_alloc | apply Kd.R_drewN | apply Kd.R_drew)); exact Kd.R_tight rfl HO_245002.out); (case side5 => exact fun k_ e_ hp_ => hp_.1.1.2.2.2.1 e_); (case side6 => exact fun k_ e_ hp_ => hp_.1.1.2.2.2.2 e_); (case side7 => exact fun k_ e_ f_ => (HO_245001.out.1 k_ f_.symm).1.1.2.2 e_); rintro e w69 ⟨rfl, hy0, hy1, hy2, hb, hkp⟩; refine ⟨_, rfl, ?_⟩; have n0_ := Aside0.mk (Kd.R_reok rfl (Kd.R_step (Kd.R_tight rfl HO_6.out) (fun k_ e_ hl_ => hkp.2 k_ hl_ (fun hs_ => hs_.elim (fun p_ => p_.1.1.1 e_) (fun q_ => q_.elim (fun a_ => (HO_6.out.1 k_ e_.symm).1.1.2.1 a_) (fun b_ => (HO_6.out.1 k_ e_.symm).1.1.2.2 b_))))) (fun k_ e_ => (HO_6.out.1 k_ e_).1.1)); have n1_ := Aside0.mk (Kd.R_reok rfl (Kd.R_step (Kd.R_tight rfl HO_10.out) (fun k_ e_ hl_ => hkp.2 k_ hl_ (fun hs_ => hs_.elim (fun p_ => p_.1.1.2.2.1 e_) (fun q_ => q_.elim (fun a_ => (HO_10.out.1 k_ e_.symm).1.1.2.1 a_) (fun b_ => (HO_10.out.1 k_ e_.symm).1.1.2.2 b_))))) (fun k_ e_ => (HO_10.out.1 k_ e_).1.1)); have n2_ := Aside0.mk (Kd.S_mono (ok' := fun k_ => some k_ ≠ (v227 : Value).ownBlock ∧ some k_ ≠ (v249 : Value).ownBlock ∧ (some k_ ≠ (.slice Ao34 t230.length co34 : Value).ownBlock ∧ N_ ≤ k_) ∧ some k_ ≠ (.slice Ao37 t233.length co37 : Value).ownBlock ∧ some k_ ≠ (.slice Ao38 t236.length co38 : Value).ownBlock) (S_kept_ HO_9.out hkp (fun k_ hk_ hs_ => hs_.elim (fun p_ => Nat.not_le.2 p_.1.1.2.1.2 hk_.1.1.1.1.2.2.1.2) (fun q_ => q_.elim (fun a_ => hk_.1.1.1.1.2.2.2.1 a_) (fun b_ => hk_.1.1.1.1.2.2.2.2 b_)))) (fun k_ hk_ => hk_.1.1.1.1)); have n3_ := Aside0.mk (Kd.S_mono (ok' := fun k_ => some k_ ≠ (v227 : Value).ownBlock ∧ (some k_ ≠ (.slice Ao41 t245.length co41 : Value).ownBlock ∧ k_ < N_) ∧ some k_ ≠ (v249 : Value).ownBlock ∧ some k_ ≠ (.slice Ao37 t233.length co37 : Value).ownBlock ∧ some k_ ≠ (.slice Ao38 t236.length co38 : Value).ownBlock) hy0 (fun k_ hk_ => hk_.1.1)); have n4_ := Aside0.mk (Kd.R_reok rfl hy1 (fun k_ e_ => (HO_245001.out.1 k_ e_).1.1)); have n5_ := Aside0.mk (Kd.R_reok rfl hy2 (fun k_ e_ => (HO_245002.out.1 k_ e_).1.1)); have n6_ := Aside0.mk (blk_kept (rBx9 BK206.out) hkp (fun hs_ => hs_.elim (fun p_ => p_.1.2 rfl) (fun q_ => q_.elim (fun a_ => (Kd.R_ne HO_245001.out BK206.out (by decide)) a_) (fun b_ => (Kd.R_ne HO_245002.out BK206.out (by decide)) b_)))); have n7_ := Aside0.mk (blk_kept (rBx9 BK244.out) hkp (fun hs_ => hs_.elim (fun p_ => p_.2 rfl) (fun q_ => q_.elim (fun a_ => (Kd.R_ne HO_245001.out BK244.out (by decide)) a_) (fun b_ => (Kd.R_ne HO_245002.out BK244.out (by decide)) b_)))); have n8_ := Aside0.mk (hb); clear HO_6 HO_10 HO_9 HO_245000 HO_245001 HO_245002 BK206 BK244 HB HO255 HO258 HO261 HO270; have HO_6 := n0_; have HO_10 := n1_; have HO_9 := n2_; have HO_245000 := n3_; have HO_245001 := n4_; have HO_245002 := n5_; have BK206 := n6_; have BK244 := n7_; have HB := n8_; clear n0_ n1_ n2_ n3_ n4_ n5_ n6_ n7_ n8_; (try clear hb); (try clear hkp); (try clear hy0); (try clear hy1); (try clear hy2)) | ((with_reducible refine gate_callee (f := 37) rfl ?_); refine goesL_ (some 69) rfl rfl Try.func37 (by kernel_rfl) rfl #[.slice Ao41 t245.length co41, .int .i64 t272] rfl mpx9 ?_; (with_reducible refine (laws_markIntSS.callsp kj18 (fun k_ => ((some k_ ≠ (v227 : Value).ownBlock ∧ some k_ ≠ (v249 : Value).ownBlock ∧ (some k_ ≠ (.slice Ao34 t230.length co34 : Value).ownBlock ∧ N_ ≤ k_) ∧ some k_ ≠ (.slice Ao37 t233.length co37 : Value).ownBlock ∧ some k_ ≠ (.slice Ao38 t236.length co38 : Value).ownBlock) ∧ k_ ≠ gb206) ∧ k_ ≠ gb244) (.slice Ao41 t245.length co41) t245 t272 t276 t277 w _ ?side1 ?side2 A57.out).mono ?_); (case side1 => exact be2x9 HB.out GE206.out GE244.out); (case side2 => (with_reducible repeat (first | apply Kd.S_alloc | apply Kd.S_drewN | apply Kd.S_drew)); exact Kd.S_types (Kd.S_types HO_9.out BK206.out (by decide)) BK244.out (by decide)); rintro e w70 ⟨rfl, hy0, hb, hkp⟩; refine ⟨_, rfl, ?_⟩; have n0_ := Aside0.mk (Kd.R_reok rfl (Kd.R_step (Kd.R_tight rfl HO_6.out) (fun k_ e_ hl_ => hkp.2 k_ hl_ (fun hs_ => hs_.1.1.1 e_))) (fun k_ e_ => (HO_6.out.1 k_ e_))); have n1_ := Aside0.mk (Kd.R_reok rfl (Kd.R_step (Kd.R_tight rfl HO_10.out) (fun k_ e_ hl_ => hkp.2 k_ hl_ (fun hs_ => hs_.1.1.2.1 e_))) (fun k_ e_ => (HO_10.out.1 k_ e_))); have n2_ := Aside0.mk (Kd.S_mono (ok' := fun k_ => some k_ ≠ (v227 : Value).ownBlock ∧ some k_ ≠ (v249 : Value).ownBlock ∧ some k_ ≠ (.slice Ao37 t233.length co37 : Value).ownBlock ∧ some k_ ≠ (.slice Ao38 t236.length co38 : Value).ownBlock) (S_kept_ HO_245000.out hkp (fun k_ hk_ hs_ => Nat.not_le.2 hk_.2.1.2 hs_.1.1.2.2.1.2)) (fun k_ hk_ => ⟨hk_.1, hk_.2.2.1, hk_.2.2.2.1, hk_.2.2.2.2⟩)); have n3_ := Aside0.mk (Kd.R_reok rfl (Kd.R_step (Kd.R_tight rfl HO_245001.out) (fun k_ e_ hl_ => hkp.2 k_ hl_ (fun hs_ => hs_.1.1.2.2.2.1 e_))) (fun k_ e_ => (HO_245001.out.1 k_ e_))); have n4_ := Aside0.mk (Kd.R_reok rfl (Kd.R_step (Kd.R_tight rfl HO_245002.out) (fun k_ e_ hl_ => hkp.2 k_ hl_ (fun hs_ => hs_.1.1.2.2.2.2 e_))) (fun k_ e_ => (HO_245002.out.1 k_ e_))); have n5_ := Aside0.mk (blk_kept (rBx9 BK206.out) hkp (fun hs_ => hs_.1.2 rfl)); have n6_ := Aside0.mk (blk_kept (rBx9 BK244.out) hkp (fun hs_ => hs_.2 rfl)); have n7_ := Aside0.mk (hb); clear HO_6 HO_10 HO_245000 HO_245001 HO_245002 BK206 BK244 HB HO_9; have HO_6 := n0_; have HO_10 := n1_; have HO_245000 := n2_; have HO_245001 := n3_; have HO_245002 := n4_; have BK206 := n5_; have BK244 := n6_; have HB := n7_; clear n0_ n1_ n2_ n3_ n4_ n5_ n6_ n7_; (try clear hb); (try clear hkp); (try clear hy0); (try clear hy1); (try clear hy2)))
        (try simp only [Act.put, List.setIfInBounds_toArray, List.set_cons_zero, List.set_cons_succ])
        go_cut [82] (fun v82 wc => ∃ (kq : Nat) (x82_57 : Bool), v82 = .bool x82_57 ∧ Aside0 (laws_FnExactSpareMill.j1 kq l1 t226 t229 t248 x82_57 l0_0 l0_1 l0_2 a0_3 a0_4 a0_5 a0_6 a0_7 = some r) ∧ Aside0 (kq ≤ kj18) ∧ Aside0 (Kd.R (Kd.int .i64) 3 wc w.heap.size (fun k_ => some k_ ≠ (v249 : Value).ownBlock ∧ some k_ ≠ ((.slice Ao37 t233.length co37) : Value).ownBlock ∧ some k_ ≠ ((.slice Ao38 t236.length co38) : Value).ownBlock) v227 t226) ∧ Aside0 (Kd.R (Kd.int .i64) 3 wc w.heap.size (fun k_ => some k_ ≠ (v227 : Value).ownBlock ∧ some k_ ≠ ((.slice Ao37 t233.length co37) : Value).ownBlock ∧ some k_ ≠ ((.slice Ao38 t236.length co38) : Value).ownBlock) v249 t248) ∧ Aside0 (Kd.S (Kd.slice 3 (Kd.int .i64)) 24 wc w.heap.size (fun k_ => some k_ ≠ (v227 : Value).ownBlock ∧ some k_ ≠ (v249 : Value).ownBlock ∧ some k_ ≠ ((.slice Ao37 t233.length co37) : Value).ownBlock ∧ some k_ ≠ ((.slice Ao38 t236.length co38) : Value).ownBlock) (.slice Ao34 t230.length co34) t273) ∧ Aside0 (Kd.R (Kd.int .i64) 3 wc w.heap.size (fun k_ => some k_ ≠ (v227 : Value).ownBlock ∧ some k_ ≠ (v249 : Value).ownBlock ∧ some k_ ≠ ((.slice Ao38 t236.length co38) : Value).ownBlock) (.slice Ao37 t233.length co37) t274) ∧ Aside0 (Kd.R (Kd.int .i64) 3 wc w.heap.size (fun k_ => some k_ ≠ (v227 : Value).ownBlock ∧ some k_ ≠ (v249 : Value).ownBlock ∧ some k_ ≠ ((.slice Ao37 t233.length co37) : Value).ownBlock) (.slice Ao38 t236.length co38) t275) ∧ Aside0 (wc.heap[gb206]? = some (.cells #[(.slice A0_0 l0_0.length c0_0), (.slice A0_1 l0_1.length c0_1), (.slice A0_2 l0_2.length c0_2), .int .i64 a0_3, .int .i64 a0_4, .int .i64 a0_5, .int .i64 a0_6, .int .i64 a0_7] 31 (0, 0))) ∧ Aside0 (wc.heap[gb244]? = some (.cells #[(.slice Ao34 t230.length co34), (.slice Ao37 t233.length co37), (.slice Ao38 t236.length co38), .int .i64 t239, .int .i64 t240, .int .i64 t241, .int .i64 t242, .int .i64 t243] 45 (0, 0))) ∧ Aside0 (Below w.heap.size w wc))
        case first =>
         have H := HC58.out
         clear HC58
         by_cases c71 : t276 < 0
         ·rw [if_pos c71] at H
          have c71b0 : decide (t276 < 0) = true := decide_eq_true c71
          clear c71
          (first | rw [c71b0] | (simp only [i64_w, i32_w]; rw [c71b0]) | skip)
          have H' := Aside0.mk H
          clear H
          go_wp2
          go_meet
          case rel => exact ⟨_, (true), (by first | rfl | (simp; done) | (simp [*]; done)), H', ⟨by have := HJ18.out; first | omega | exact Nat.le_refl _⟩, ⟨rRx9 HO_6.out⟩, ⟨rRx9 HO_10.out⟩, ⟨rSx9 HO_245000.out⟩, ⟨rRx9 HO_245001.out⟩, ⟨rRx9 HO_245002.out⟩, ⟨rBx9 BK206.out⟩, ⟨rBx9 BK244.out⟩, ⟨be2x9 HB.out GE206.out GE244.out⟩⟩
         ·rw [if_neg c71] at H
          have c71b0 : decide (t276 < 0) = false := decide_eq_false c71
          clear c71
          (first | rw [c71b0] | (simp only [i64_w, i32_w]; rw [c71b0]) | skip)
          replace H := Option.bind_eq_some_iff.mp H
          obtain ⟨t278, A720, H⟩ := H
          have A72 := Aside0.mk A720
          clear A720
          by_cases c73 : t278 = true
          ·subst c73
           have H1 : (laws_FnExactSpareMill.j1 kj18 l1 t226 t229 t248 (t251 != t229) l0_0 l0_1 l0_2 a0_3 a0_4 a0_5 a0_6 a0_7) = some r := by rw [if_pos rfl] at H; exact H
           clear H
           have H := H1
           clear H1
           have H' := Aside0.mk H
           clear H
           obtain ⟨Ao74, co74, eo74⟩ := Kd.R_slice HO_10.out
           subst eo74
           obtain ⟨Ao75, co75, eo75⟩ := Kd.R_slice HO_6.out
           subst eo75
           go_wp2_with (first | (go_at_call 23; (with_reducible refine (laws_eqIntS.calls kj18 _ _ t248 _ _ t226 true _ ?side1 ?side2 ?side3 ?side4 A72.out).mono ?_); (case side1 => exact cRx9 HO_10.out); (case side2 => exact (Kd.R_reads' HO_10.out).2.1); (case side3 => exact cRx9 HO_6.out); (case side4 => exact (Kd.R_reads' HO_6.out).2.1); rintro e w' ⟨rfl, ⟨nd, rfl⟩⟩))
           go_meet
           case rel => exact ⟨_, ((t251 != t229)), (by first | rfl | (simp; done) | (simp [*]; done)), H', ⟨by have := HJ18.out; first | omega | exact Nat.le_refl _⟩, ⟨rRx9 HO_6.out⟩, ⟨rRx9 HO_10.out⟩, ⟨rSx9 HO_245000.out⟩, ⟨rRx9 HO_245001.out⟩, ⟨rRx9 HO_245002.out⟩, ⟨rBx9 BK206.out⟩, ⟨rBx9 BK244.out⟩, ⟨be2x9 HB.out GE206.out GE244.out⟩⟩
          ·replace c73 := Bool.eq_false_iff.mpr c73
           subst c73
           have H1 : (laws_FnExactSpareMill.j1 kj18 l1 t226 t229 t248 true l0_0 l0_1 l0_2 a0_3 a0_4 a0_5 a0_6 a0_7) = some r := by rw [if_neg (show ¬ (false = true) by decide)] at H; exact H
           clear H
           have H := H1
           clear H1
           have H' := Aside0.mk H
           clear H
           obtain ⟨Ao76, co76, eo76⟩ := Kd.R_slice HO_10.out
           subst eo76
           obtain ⟨Ao77, co77, eo77⟩ := Kd.R_slice HO_6.out
           subst eo77
           go_wp2_with (first | (go_at_call 23; (with_reducible refine (laws_eqIntS.calls kj18 _ _ t248 _ _ t226 false _ ?side1 ?side2 ?side3 ?side4 A72.out).mono ?_); (case side1 => exact cRx9 HO_10.out); (case side2 => exact (Kd.R_reads' HO_10.out).2.1); (case side3 => exact cRx9 HO_6.out); (case side4 => exact (Kd.R_reads' HO_6.out).2.1); rintro e w' ⟨rfl, ⟨nd, rfl⟩⟩))
           go_meet
           case rel => exact ⟨_, (true), (by first | rfl | (simp; done) | (simp [*]; done)), H', ⟨by have := HJ18.out; first | omega | exact Nat.le_refl _⟩, ⟨rRx9 HO_6.out⟩, ⟨rRx9 HO_10.out⟩, ⟨rSx9 HO_245000.out⟩, ⟨rRx9 HO_245001.out⟩, ⟨rRx9 HO_245002.out⟩, ⟨rBx9 BK206.out⟩, ⟨rBx9 BK244.out⟩, ⟨be2x9 HB.out GE206.out GE244.out⟩⟩
        case rest =>
         clear HC58
         try clear c1; try clear c49; try clear c52; try clear c55; try clear c71; try clear c71b0; try clear c73; try clear hcz68_0 hcz68_1 hcz68_2 hcz68_3 hcz68_4 hcz68_5 hcz68_6 hcz68_7 hfz68_0 hfz68_1 hfz68_2 hfz68_3 hfz68_4 hfz68_5 hfz68_6 hfz68_7
         obtain ⟨kq, x82_57, rfl, HA, HJ57, HO_6, HO_10, HO_245000, HO_245001, HO_245002, BK206, BK244, HB⟩ := hcut
         have hl245000_57 := (Kd.S_reads' HO_245000.out).1
         rw [hl245000_57] at HO_245000
         (try simp only [hl245000_57])
         (try simp only [hl245000_57] at BK206)
         (try simp only [hl245000_57] at BK244)
         (try simp only [hl245000_57] at HO_6)
         (try simp only [hl245000_57] at HO_10)
         (try simp only [hl245000_57] at HO_245001)
         (try simp only [hl245000_57] at HO_245002)
         have hl245001_57 := (Kd.R_reads' HO_245001.out).1
         rw [hl245001_57] at HO_245001
         (try simp only [hl245001_57])
         (try simp only [hl245001_57] at BK206)
         (try simp only [hl245001_57] at BK244)
         (try simp only [hl245001_57] at HO_6)
         (try simp only [hl245001_57] at HO_10)
         (try simp only [hl245001_57] at HO_245000)
         (try simp only [hl245001_57] at HO_245002)
         have hl245002_57 := (Kd.R_reads' HO_245002.out).1
         rw [hl245002_57] at HO_245002
         (try simp only [hl245002_57])
         (try simp only [hl245002_57] at BK206)
         (try simp only [hl245002_57] at BK244)
         (try simp only [hl245002_57] at HO_6)
         (try simp only [hl245002_57] at HO_10)
         (try simp only [hl245002_57] at HO_245000)
         (try simp only [hl245002_57] at HO_245001)
         cases kq with
         | zero => exact absurd HA.out (by simp [laws_FnExactSpareMill.j1])
         | succ kj57 =>
          have H := HA.out
          clear HA
          simp only [laws_FnExactSpareMill.j1] at H
          by_cases c78 : x82_57 = true
          ·subst c78
           have H1 : (some false) = some r := by rw [if_pos rfl] at H; exact H
           clear H
           have H := H1
           clear H1
           obtain rfl := Option.some.inj H
           go_wp2
           go_ret
           exact ⟨by first | rfl | (simp [errW_none, errW_some] <;> rfl) | (simp [*, errW_none, errW_some] <;> rfl), be2x9 HB.out GE206.out GE244.out⟩
          ·replace c78 := Bool.eq_false_iff.mpr c78
           subst c78
           have H1 : ((laws_markIntS.f kj57 t248 1).bind fun bt279 => ((laws_heldIntS.f kj57 bt279.2 1).bind fun t281 => (if t281 < 0 then (some false) else (if t281 = bt279.1 then ((laws_toJob.f kj57 l0_0 l0_1 l0_2 a0_3 a0_4 a0_5 a0_6 a0_7).bind fun bt282 => ((laws_toIntSS.f kj57 l1).bind fun t296 => ((impl_SpareMill.f kj57 bt282.1 bt282.2.1 bt282.2.2.1 bt282.2.2.2.1 bt282.2.2.2.2.1 bt282.2.2.2.2.2.1 bt282.2.2.2.2.2.2.1 bt282.2.2.2.2.2.2.2 t296).bind fun bt299 => ((laws_eqIntS.f kj57 bt299.1 t226).bind fun t303 => (if t303 = true then (laws_FnExactSpareMill.j2 kj57 bt279.2 bt279.1 (bt299.2 != t229)) else (laws_FnExactSpareMill.j2 kj57 bt279.2 bt279.1 true)))))) else (some false))))) = some r := by rw [if_neg (show ¬ (false = true) by decide)] at H; exact H
           clear H
           have H := H1
           clear H1
           replace H := Option.bind_eq_some_iff.mp H
           obtain ⟨⟨t279, t280⟩, A790, H⟩ := H
           (try dsimp only at H)
           have A79 := Aside0.mk A790
           clear A790
           replace H := Option.bind_eq_some_iff.mp H
           obtain ⟨t281, A800, H⟩ := H
           have A80 := Aside0.mk A800
           clear A800
           by_cases c81 : t281 < 0
           ·rw [if_pos c81] at H
            have c81b0 : decide (t281 < 0) = true := decide_eq_true c81
            clear c81
            obtain rfl := Option.some.inj H
            obtain ⟨Ao82, co82, eo82⟩ := Kd.R_slice HO_10.out
            subst eo82
            go_wp2_with (first | ((with_reducible refine gate_callee (f := 30) rfl ?_); refine goesL_ (some 85) rfl rfl Try.func30 (by kernel_rfl) rfl #[.slice Ao82 t248.length co82, .int .i64 1] rfl mpx9 ?_; (with_reducible refine (laws_markIntS.calls kj57 (fun k_ => some k_ = (.slice Ao82 t248.length co82 : Value).ownBlock) (.slice Ao82 t248.length co82) t248 1 t279 t280 w _ ?side1 ?side2 A79.out).mono ?_); (case side1 => exact be2x9 HB.out GE206.out GE244.out); (case side2 => exact Kd.R_tight rfl HO_10.out); rintro e w83 ⟨rfl, hy0, hb, hkp⟩; refine ⟨_, rfl, ?_⟩; replace HO_6 := Aside0.mk (Kd.R_mono (ok' := fun k_ => some k_ ≠ (.slice Ao82 t248.length co82 : Value).ownBlock ∧ some k_ ≠ (.slice Ao37 t274.length co37 : Value).ownBlock ∧ some k_ ≠ (.slice Ao38 t275.length co38 : Value).ownBlock) (Kd.R_keptB (HO_6.out) hkp (fun k_ hk_ hs_ => (hk_.1) hs_)) (fun k_ hk_ => ⟨hk_.1.1, hk_.1.2.1, hk_.1.2.2⟩)); replace HO_245000 := Aside0.mk (Kd.S_mono (ok' := fun k_ => some k_ ≠ (v227 : Value).ownBlock ∧ some k_ ≠ (.slice Ao82 t248.length co82 : Value).ownBlock ∧ some k_ ≠ (.slice Ao37 t274.length co37 : Value).ownBlock ∧ some k_ ≠ (.slice Ao38 t275.length co38 : Value).ownBlock) (Kd.S_keptB (HO_245000.out) hkp (fun k_ hk_ hs_ => (hk_.2.1) hs_)) (fun k_ hk_ => ⟨hk_.1.1, hk_.1.2.1, hk_.1.2.2.1, hk_.1.2.2.2⟩)); replace HO_245001 := Aside0.mk (Kd.R_mono (ok' := fun k_ => some k_ ≠ (v227 : Value).ownBlock ∧ some k_ ≠ (.slice Ao82 t248.length co82 : Value).ownBlock ∧ some k_ ≠ (.slice Ao38 t275.length co38 : Value).ownBlock) (Kd.R_keptB (HO_245001.out) hkp (fun k_ hk_ hs_ => (hk_.2.1) hs_)) (fun k_ hk_ => ⟨hk_.1.1, hk_.1.2.1, hk_.1.2.2⟩)); replace HO_245002 := Aside0.mk (Kd.R_mono (ok' := fun k_ => some k_ ≠ (v227 : Value).ownBlock ∧ some k_ ≠ (.slice Ao82 t248.length co82 : Value).ownBlock ∧ some k_ ≠ (.slice Ao37 t274.length co37 : Value).ownBlock) (Kd.R_keptB (HO_245002.out) hkp (fun k_ hk_ hs_ => (hk_.2.1) hs_)) (fun k_ hk_ => ⟨hk_.1.1, hk_.1.2.1, hk_.1.2.2⟩)); replace BK206 := Aside0.mk (blk_kept (rBx9 BK206.out) hkp (fun hs_ => (fun e_ => (Kd.R_ne HO_10.out BK206.out (by decide)) e_) hs_)); replace BK244 := Aside0.mk (blk_kept (rBx9 BK244.out) hkp (fun hs_ => (fun e_ => (Kd.R_ne HO_10.out BK244.out (by decide)) e_) hs_)); replace HO_10 := Aside0.mk (Kd.R_reok rfl hy0 (fun k_ e_ => HO_10.out.1 k_ e_)); replace HB := Aside0.mk (hb); (try clear hb); (try clear hkp); (try clear hy0)) | ((with_reducible refine gate_callee (f := 31) rfl ?_); refine goesL_ (some 88) rfl rfl Try.func31 (by kernel_rfl) rfl #[.slice Ao82 t280.length co82, .int .i64 1] rfl (by (try simp only [List.map_toArray, List.map_cons, List.map_nil]); first | done | (rw [show t280.length = t248.length from (Kd.R_reads' HO_10.out).1.symm] <;> rfl) | rfl | (simp only [List.length_drop, List.length_take]; rfl)) ?_; (with_reducible refine (laws_heldIntS.calls kj57 _ _ t280 1 t281 _ ?side1 ?side2 A80.out).mono ?_); (case side1 => exact cRx9 HO_10.out); (case side2 => rw [show t280.length = t248.length from (Kd.R_reads' HO_10.out).1.symm]; exact (Kd.R_reads' HO_10.out).2.1); rintro e w' ⟨rfl, ⟨nd, rfl⟩⟩; refine ⟨_, rfl, ?_⟩))
            go_ret
            exact ⟨by first | rfl | (simp [errW_none, errW_some] <;> rfl) | (simp [*, errW_none, errW_some] <;> rfl), be2x9 HB.out GE206.out GE244.out⟩
           ·rw [if_neg c81] at H
            have c81b0 : decide (t281 < 0) = false := decide_eq_false c81
            clear c81
            by_cases c84 : t281 = t279
            ·rw [if_pos c84] at H
             have c84b0 : (t281 == t279) = true := beq_iff_eq.mpr c84
             have c84b1 : (t281 != t279) = false := bne_eq_false_iff_eq.mpr c84
             clear c84
             replace H := Option.bind_eq_some_iff.mp H
             obtain ⟨⟨t282, t285, t288, t291, t292, t293, t294, t295⟩, A850, H⟩ := H
             (try dsimp only at H)
             have A85 := Aside0.mk A850
             clear A850
             replace H := Option.bind_eq_some_iff.mp H
             obtain ⟨t296, A860, H⟩ := H
             have A86 := Aside0.mk A860
             clear A860
             replace H := Option.bind_eq_some_iff.mp H
             obtain ⟨⟨t299, t302⟩, A870, H⟩ := H
             (try dsimp only at H)
             have A87 := Aside0.mk A870
             clear A870
             have HC88 := Aside0.mk H
             clear H
             obtain ⟨Ao89, co89, eo89⟩ := Kd.R_slice HO_10.out
             subst eo89
             go_upto_region 32 with (first | ((with_reducible refine gate_callee (f := 30) rfl ?_); refine goesL_ (some 85) rfl rfl Try.func30 (by kernel_rfl) rfl #[.slice Ao89 t248.length co89, .int .i64 1] rfl mpx9 ?_; (with_reducible refine (laws_markIntS.calls kj57 (fun k_ => some k_ = (.slice Ao89 t248.length co89 : Value).ownBlock) (.slice Ao89 t248.length co89) t248 1 t279 t280 w _ ?side1 ?side2 A79.out).mono ?_); (case side1 => exact be2x9 HB.out GE206.out GE244.out); (case side2 => exact Kd.R_tight rfl HO_10.out); rintro e w90 ⟨rfl, hy0, hb, hkp⟩; refine ⟨_, rfl, ?_⟩; replace HO_6 := Aside0.mk (Kd.R_mono (ok' := fun k_ => some k_ ≠ (.slice Ao89 t248.length co89 : Value).ownBlock ∧ some k_ ≠ (.slice Ao37 t274.length co37 : Value).ownBlock ∧ some k_ ≠ (.slice Ao38 t275.length co38 : Value).ownBlock) (Kd.R_keptB (HO_6.out) hkp (fun k_ hk_ hs_ => (hk_.1) hs_)) (fun k_ hk_ => ⟨hk_.1.1, hk_.1.2.1, hk_.1.2.2⟩)); replace HO_245000 := Aside0.mk (Kd.S_mono (ok' := fun k_ => some k_ ≠ (v227 : Value).ownBlock ∧ some k_ ≠ (.slice Ao89 t248.length co89 : Value).ownBlock ∧ some k_ ≠ (.slice Ao37 t274.length co37 : Value).ownBlock ∧ some k_ ≠ (.slice Ao38 t275.length co38 : Value).ownBlock) (Kd.S_keptB (HO_245000.out) hkp (fun k_ hk_ hs_ => (hk_.2.1) hs_)) (fun k_ hk_ => ⟨hk_.1.1, hk_.1.2.1, hk_.1.2.2.1, hk_.1.2.2.2⟩)); replace HO_245001 := Aside0.mk (Kd.R_mono (ok' := fun k_ => some k_ ≠ (v227 : Value).ownBlock ∧ some k_ ≠ (.slice Ao89 t248.length co89 : Value).ownBlock ∧ some k_ ≠ (.slice Ao38 t275.length co38 : Value).ownBlock) (Kd.R_keptB (HO_245001.out) hkp (fun k_ hk_ hs_ => (hk_.2.1) hs_)) (fun k_ hk_ => ⟨hk_.1.1, hk_.1.2.1, hk_.1.2.2⟩)); replace HO_245002 := Aside0.mk (Kd.R_mono (ok' := fun k_ => some k_ ≠ (v227 : Value).ownBlock ∧ some k_ ≠ (.slice Ao89 t248.length co89 : Value).ownBlock ∧ some k_ ≠ (.slice Ao37 t274.length co37 : Value).ownBlock) (Kd.R_keptB (HO_245002.out) hkp (fun k_ hk_ hs_ => (hk_.2.1) hs_)) (fun k_ hk_ => ⟨hk_.1.1, hk_.1.2.1, hk_.1.2.2⟩)); replace BK206 := Aside0.mk (blk_kept (rBx9 BK206.out) hkp (fun hs_ => (fun e_ => (Kd.R_ne HO_10.out BK206.out (by decide)) e_) hs_)); replace BK244 := Aside0.mk (blk_kept (rBx9 BK244.out) hkp (fun hs_ => (fun e_ => (Kd.R_ne HO_10.out BK244.out (by decide)) e_) hs_)); replace HO_10 := Aside0.mk (Kd.R_reok rfl hy0 (fun k_ e_ => HO_10.out.1 k_ e_)); replace HB := Aside0.mk (hb); (try clear hb); (try clear hkp); (try clear hy0)) | ((with_reducible refine gate_callee (f := 31) rfl ?_); refine goesL_ (some 88) rfl rfl Try.func31 (by kernel_rfl) rfl #[.slice Ao89 t280.length co89, .int .i64 1] rfl (by (try simp only [List.map_toArray, List.map_cons, List.map_nil]); first | done | (rw [show t280.length = t248.length from (Kd.R_reads' HO_10.out).1.symm] <;> rfl) | rfl | (simp only [List.length_drop, List.length_take]; rfl)) ?_; (with_reducible refine (laws_heldIntS.calls kj57 _ _ t280 1 t281 _ ?side1 ?side2 A80.out).mono ?_); (case side1 => exact cRx9 HO_10.out); (case side2 => rw [show t280.length = t248.length from (Kd.R_reads' HO_10.out).1.symm]; exact (Kd.R_reads' HO_10.out).2.1); rintro e w' ⟨rfl, ⟨nd, rfl⟩⟩; refine ⟨_, rfl, ?_⟩; have hnb91 := NB206_244.out; have hnc91 := NB244_206.out; obtain ⟨hcz92_0, hcz92_1, hcz92_2, hcz92_3, hcz92_4, hcz92_5, hcz92_6, hcz92_7, hfz92_0, hfz92_1, hfz92_2, hfz92_3, hfz92_4, hfz92_5, hfz92_6, hfz92_7⟩ := cf8x9 BK206.out) | ((with_reducible refine gate_callee (f := 20) rfl ?_); refine goesL_ (some 96) rfl rfl Try.func20 (by kernel_rfl) rfl #[.agg #[.slice A0_0 l0_0.length c0_0, .slice A0_1 l0_1.length c0_1, .slice A0_2 l0_2.length c0_2, .int .i64 a0_3, .int .i64 a0_4, .int .i64 a0_5, .int .i64 a0_6, .int .i64 a0_7]] rfl mpx9 ?_; (with_reducible refine (laws_toJob.calls kj57 _ _ l0_0 _ _ l0_1 _ _ l0_2 a0_3 a0_4 a0_5 a0_6 a0_7 t282 t285 t288 t291 t292 t293 t294 t295 _ ?side1 ?side2 ?side3 ?side4 ?side5 ?side6 A85.out).mono ?_); (case side1 => repeat (first | exact (Kd.C_below HR0_0.out (be2x9 HB.out GE206.out GE244.out)) | (with_reducible refine Kd.C_alloc ?_ _) | (with_reducible refine Kd.C_drewN ?_ _) | (with_reducible refine Kd.C_drew ?_))); (case side2 => exact HC0_0.out); (case side3 => repeat (first | exact (Kd.C_below HR0_1.out (be2x9 HB.out GE206.out GE244.out)) | (with_reducible refine Kd.C_alloc ?_ _) | (with_reducible refine Kd.C_drewN ?_ _) | (with_reducible refine Kd.C_drew ?_))); (case side4 => exact HC0_1.out); (case side5 => repeat (first | exact (Kd.C_below HR0_2.out (be2x9 HB.out GE206.out GE244.out)) | (with_reducible refine Kd.C_alloc ?_ _) | (with_reducible refine Kd.C_drewN ?_ _) | (with_reducible refine Kd.C_drew ?_))); (case side6 => exact HC0_2.out); rintro e w93 ⟨v283, v286, v289, rfl, ho0, ho1, ho2, hb⟩; refine ⟨_, rfl, ?_⟩; have HO284 := Aside0.mk (Kd.S_lower (Kd.S_new' (Kd.S_new' (Kd.S_new' (Kd.S_new' (Kd.S_new' ho0 (Kd.R_lt (rRx9 HO_6.out))) (Kd.R_lt (rRx9 HO_10.out))) (Kd.S_lt (rSx9 HO_245000.out))) (Kd.R_lt (rRx9 HO_245001.out))) (Kd.R_lt (rRx9 HO_245002.out))) (below_size (be2x9 HB.out GE206.out GE244.out))); replace HO_245000 := Aside0.mk (Kd.S_mono (Kd.S_told (Kd.S_told (Kd.S_told (Kd.S_old (rSx9 HO_245000.out) hb) (Kd.S_base ho0)) (Kd.R_base ho1)) (Kd.R_base ho2)) (fun _ h_ => h_.1)); have HO287 := Aside0.mk (Kd.R_lower (nwx9 (nwx9 (nwx9 (nwx9 ho1 (rRx9 HO_6.out)) (rRx9 HO_10.out)) (rRx9 HO_245001.out)) (rRx9 HO_245002.out)) (below_size (be2x9 HB.out GE206.out GE244.out))); have HO290 := Aside0.mk (Kd.R_lower (nwx9 (nwx9 (nwx9 (nwx9 ho2 (rRx9 HO_6.out)) (rRx9 HO_10.out)) (rRx9 HO_245001.out)) (rRx9 HO_245002.out)) (below_size (be2x9 HB.out GE206.out GE244.out))); replace HO_6 := Aside0.mk (Kd.R_mono (Kd.R_told (Kd.R_told (Kd.R_old (rRx9 HO_6.out) hb) (Kd.R_base ho1)) (Kd.R_base ho2)) (fun _ h_ => h_.1)); replace HO_10 := Aside0.mk (Kd.R_mono (Kd.R_told (Kd.R_told (Kd.R_old (rRx9 HO_10.out) hb) (Kd.R_base ho1)) (Kd.R_base ho2)) (fun _ h_ => h_.1)); replace HO_245001 := Aside0.mk (Kd.R_mono (Kd.R_told (Kd.R_told (Kd.R_old (rRx9 HO_245001.out) hb) (Kd.R_base ho1)) (Kd.R_base ho2)) (fun _ h_ => h_.1)); replace HO_245002 := Aside0.mk (Kd.R_mono (Kd.R_told (Kd.R_told (Kd.R_old (rRx9 HO_245002.out) hb) (Kd.R_base ho1)) (Kd.R_base ho2)) (fun _ h_ => h_.1)); replace BK206 := Aside0.mk (blk_below (rBx9 BK206.out) hb); replace BK244 := Aside0.mk (blk_below (rBx9 BK244.out) hb); replace HB := Aside0.mk (below_step (be2x9 HB.out GE206.out GE244.out) hb); (try clear hb); (try clear hb2); (try clear hk); (try clear hi); (try clear ho0); (try clear ho1); (try clear ho2)) | ((with_reducible refine gate_callee (f := 34) rfl ?_); refine goesL_ (some 98) rfl rfl Try.func34 (by kernel_rfl) rfl #[.slice A1 l1.length c1] rfl mpx9 ?_; (with_reducible refine (laws_toIntSS.calls kj57 _ _ l1 t296 _ ?side1 ?side2 A86.out).mono ?_); (case side1 => exact rCx9 (Kd.C_below HR1.out HB.out)); (case side2 => exact HC1.out); rintro e w94 ⟨v297, rfl, ho0, hb⟩; refine ⟨_, rfl, ?_⟩; have HO298 := Aside0.mk (Kd.S_lower (Kd.S_new' (Kd.S_new' (Kd.S_new' (Kd.S_new' (Kd.S_new' (Kd.S_new' (Kd.S_new' (Kd.S_new' ho0 (Kd.R_lt (rRx9 HO_6.out))) (Kd.R_lt (rRx9 HO_10.out))) (Kd.S_lt (rSx9 HO_245000.out))) (Kd.R_lt (rRx9 HO_245001.out))) (Kd.R_lt (rRx9 HO_245002.out))) (Kd.S_lt (rSx9 HO284.out))) (Kd.R_lt (rRx9 HO287.out))) (Kd.R_lt (rRx9 HO290.out))) (below_size (be2x9 HB.out GE206.out GE244.out))); replace HO_6 := Aside0.mk (Kd.R_below (rRx9 HO_6.out) hb); replace HO_10 := Aside0.mk (Kd.R_below (rRx9 HO_10.out) hb); replace HO_245000 := Aside0.mk (Kd.S_elder' (rSx9 HO_245000.out) (Kd.S_base ho0) hb); replace HO_245001 := Aside0.mk (Kd.R_below (rRx9 HO_245001.out) hb); replace HO_245002 := Aside0.mk (Kd.R_below (rRx9 HO_245002.out) hb); replace HO284 := Aside0.mk (Kd.S_elder' (rSx9 HO284.out) (Kd.S_base ho0) hb); replace HO287 := Aside0.mk (Kd.R_below (rRx9 HO287.out) hb); replace HO290 := Aside0.mk (Kd.R_below (rRx9 HO290.out) hb); replace BK206 := Aside0.mk (blk_below (rBx9 BK206.out) hb); replace BK244 := Aside0.mk (blk_below (rBx9 BK244.out) hb); replace HB := Aside0.mk (below_step (be2x9 HB.out GE206.out GE244.out) hb); (try clear hb); (try clear hb2); (try clear hk); (try clear hi); (try clear ho0); obtain ⟨Ao95, co95, eo95⟩ := Kd.S_slice HO284.out; subst eo95; obtain ⟨Ao96, co96, eo96⟩ := Kd.R_slice HO287.out; subst eo96; obtain ⟨Ao97, co97, eo97⟩ := Kd.R_slice HO290.out; subst eo97; obtain ⟨Ao98, co98, eo98⟩ := Kd.S_slice HO298.out; subst eo98) | ((with_reducible refine gate_callee (f := 54) rfl ?_); refine goesL_ (some 99) rfl rfl Try.func54 (by kernel_rfl) rfl #[.agg #[.slice Ao95 t282.length co95, .slice Ao96 t285.length co96, .slice Ao97 t288.length co97, .int .i64 t291, .int .i64 t292, .int .i64 t293, .int .i64 t294, .int .i64 t295], .slice Ao98 t296.length co98] rfl mpx9 ?_; (with_reducible refine (impl_SpareMill.calls kj57 _ _ t282 _ _ t285 _ _ t288 t291 t292 t293 t294 t295 _ _ t296 t299 t302 _ ?side1 ?side2 ?side3 ?side4 ?side5 ?side6 ?side7 ?side8 A87.out).mono ?_); (case side1 => repeat (first | exact (Kd.S_reads' HO284.out).2.2 | (with_reducible refine Kd.C_alloc ?_ _) | (with_reducible refine Kd.C_drewN ?_ _) | (with_reducible refine Kd.C_drew ?_))); (case side2 => exact (Kd.S_reads' HO284.out).2.1); (case side3 => exact cRx9 HO287.out); (case side4 => exact (Kd.R_reads' HO287.out).2.1); (case side5 => exact cRx9 HO290.out); (case side6 => exact (Kd.R_reads' HO290.out).2.1); (case side7 => repeat (first | exact (Kd.S_reads' HO298.out).2.2 | (with_reducible refine Kd.C_alloc ?_ _) | (with_reducible refine Kd.C_drewN ?_ _) | (with_reducible refine Kd.C_drew ?_))); (case side8 => exact (Kd.S_reads' HO298.out).2.1); rintro e w99 ⟨v300, rfl, ho0, hb⟩; refine ⟨_, rfl, ?_⟩; replace HO_245000 := Aside0.mk (Kd.S_elder' (rSx9 HO_245000.out) (Kd.R_base ho0) hb); replace HO284 := Aside0.mk (Kd.S_elder' (rSx9 HO284.out) (Kd.R_base ho0) hb); replace HO298 := Aside0.mk (Kd.S_elder' (rSx9 HO298.out) (Kd.R_base ho0) hb); have HO301 := Aside0.mk (Kd.R_lower (nwx9 (nwx9 (nwx9 (nwx9 (nwx9 (nwx9 ho0 (rRx9 HO_6.out)) (rRx9 HO_10.out)) (rRx9 HO_245001.out)) (rRx9 HO_245002.out)) (rRx9 HO287.out)) (rRx9 HO290.out)) (below_size (be2x9 HB.out GE206.out GE244.out))); replace HO_6 := Aside0.mk (Kd.R_elder' (rRx9 HO_6.out) (Kd.R_base ho0) hb); replace HO_10 := Aside0.mk (Kd.R_elder' (rRx9 HO_10.out) (Kd.R_base ho0) hb); replace HO_245001 := Aside0.mk (Kd.R_elder' (rRx9 HO_245001.out) (Kd.R_base ho0) hb); replace HO_245002 := Aside0.mk (Kd.R_elder' (rRx9 HO_245002.out) (Kd.R_base ho0) hb); replace HO287 := Aside0.mk (Kd.R_elder' (rRx9 HO287.out) (Kd.R_base ho0) hb); replace HO290 := Aside0.mk (Kd.R_elder' (rRx9 HO290.out) (Kd.R_base ho0) hb); replace BK206 := Aside0.mk (blk_below (rBx9 BK206.out) hb); replace BK244 := Aside0.mk (blk_below (rBx9 BK244.out) hb); replace HB := Aside0.mk (below_step (be2x9 HB.out GE206.out GE244.out) hb); (try clear hb); (try clear hb2); (try clear hk); (try clear hi); (try clear ho0)))
             (try simp only [Act.put, List.setIfInBounds_toArray, List.set_cons_zero, List.set_cons_succ])
             go_cut [110] (fun v110 wc => ∃ (kq : Nat) (x110_87 : Bool), v110 = .bool x110_87 ∧ Aside0 (laws_FnExactSpareMill.j2 kq t280 t279 x110_87 = some r) ∧ Aside0 (kq ≤ kj57) ∧ Aside0 (Kd.R (Kd.int .i64) 3 wc w.heap.size (fun k_ => some k_ ≠ ((.slice Ao37 t274.length co37) : Value).ownBlock ∧ some k_ ≠ ((.slice Ao38 t275.length co38) : Value).ownBlock) (.slice Ao89 t248.length co89) t280) ∧ Aside0 (Kd.S (Kd.slice 3 (Kd.int .i64)) 24 wc w.heap.size (fun k_ => some k_ ≠ ((.slice Ao89 t248.length co89) : Value).ownBlock ∧ some k_ ≠ ((.slice Ao37 t274.length co37) : Value).ownBlock ∧ some k_ ≠ ((.slice Ao38 t275.length co38) : Value).ownBlock) (.slice Ao34 t273.length co34) t273) ∧ Aside0 (Kd.R (Kd.int .i64) 3 wc w.heap.size (fun k_ => some k_ ≠ ((.slice Ao89 t248.length co89) : Value).ownBlock ∧ some k_ ≠ ((.slice Ao38 t275.length co38) : Value).ownBlock) (.slice Ao37 t274.length co37) t274) ∧ Aside0 (Kd.R (Kd.int .i64) 3 wc w.heap.size (fun k_ => some k_ ≠ ((.slice Ao89 t248.length co89) : Value).ownBlock ∧ some k_ ≠ ((.slice Ao37 t274.length co37) : Value).ownBlock) (.slice Ao38 t275.length co38) t275) ∧ Aside0 (wc.heap[gb206]? = some (.cells #[(.slice A0_0 l0_0.length c0_0), (.slice A0_1 l0_1.length c0_1), (.slice A0_2 l0_2.length c0_2), .int .i64 a0_3, .int .i64 a0_4, .int .i64 a0_5, .int .i64 a0_6, .int .i64 a0_7] 31 (0, 0))) ∧ Aside0 (wc.heap[gb244]? = some (.cells #[(.slice Ao34 t273.length co34), (.slice Ao37 t274.length co37), (.slice Ao38 t275.length co38), .int .i64 t239, .int .i64 t240, .int .i64 t241, .int .i64 t242, .int .i64 t243] 45 (0, 0))) ∧ Aside0 (Below w.heap.size w wc))
             case first =>
              have H := HC88.out
              clear HC88
              replace H := Option.bind_eq_some_iff.mp H
              obtain ⟨t303, A1000, H⟩ := H
              have A100 := Aside0.mk A1000
              clear A1000
              by_cases c101 : t303 = true
              ·subst c101
               have H1 : (laws_FnExactSpareMill.j2 kj57 t280 t279 (t302 != t229)) = some r := by rw [if_pos rfl] at H; exact H
               clear H
               have H := H1
               clear H1
               have H' := Aside0.mk H
               clear H
               obtain ⟨Ao102, co102, eo102⟩ := Kd.R_slice HO301.out
               subst eo102
               obtain ⟨Ao103, co103, eo103⟩ := Kd.R_slice HO_6.out
               subst eo103
               go_wp2_with (first | ((with_reducible refine gate_callee (f := 23) rfl ?_); refine goesL_ (some 104) rfl rfl Try.func23 (by kernel_rfl) rfl #[.slice Ao102 t299.length co102, .slice Ao103 t226.length co103] rfl mpx9 ?_; (with_reducible refine (laws_eqIntS.calls kj57 _ _ t299 _ _ t226 true _ ?side1 ?side2 ?side3 ?side4 A100.out).mono ?_); (case side1 => exact cRx9 HO301.out); (case side2 => exact (Kd.R_reads' HO301.out).2.1); (case side3 => exact cRx9 HO_6.out); (case side4 => exact (Kd.R_reads' HO_6.out).2.1); rintro e w' ⟨rfl, ⟨nd, rfl⟩⟩; refine ⟨_, rfl, ?_⟩))
               go_meet
               case rel => exact ⟨_, ((t302 != t229)), (by first | rfl | (simp; done) | (simp [*]; done)), H', ⟨by have := HJ18.out; have := HJ57.out; first | omega | exact Nat.le_refl _⟩, ⟨by (try simp only [hl245000_57, hl245001_57, hl245002_57]); exact rRx9 (mox9 HO_10.out)⟩, ⟨by (try simp only [hl245000_57, hl245001_57, hl245002_57]); (with_reducible repeat (first | apply Kd.S_alloc | apply Kd.S_drewN | apply Kd.S_drew)); exact Kd.S_mono HO_245000.out (fun _ hk => ⟨hk.1.1.1.1.1.2.1, ⟨hk.1.1.1.1.1.2.2.1, hk.1.1.1.1.1.2.2.2⟩⟩)⟩, ⟨by (try simp only [hl245000_57, hl245001_57, hl245002_57]); exact rRx9 (mox9 HO_245001.out)⟩, ⟨by (try simp only [hl245000_57, hl245001_57, hl245002_57]); exact rRx9 (mox9 HO_245002.out)⟩, ⟨by (try simp only [hl245000_57, hl245001_57, hl245002_57]); (with_reducible repeat (first | refine blk_drewN ?_ _ | refine blk_drew ?_ | refine blk_alloc ?_ _)); exact BK206.out⟩, ⟨by (try simp only [hl245000_57, hl245001_57, hl245002_57]); (with_reducible repeat (first | refine blk_drewN ?_ _ | refine blk_drew ?_ | refine blk_alloc ?_ _)); exact BK244.out⟩, ⟨be2x9 HB.out GE206.out GE244.out⟩⟩
              ·replace c101 := Bool.eq_false_iff.mpr c101
               subst c101
               have H1 : (laws_FnExactSpareMill.j2 kj57 t280 t279 true) = some r := by rw [if_neg (show ¬ (false = true) by decide)] at H; exact H
               clear H
               have H := H1
               clear H1
               have H' := Aside0.mk H
               clear H
               obtain ⟨Ao104, co104, eo104⟩ := Kd.R_slice HO301.out
               subst eo104
               obtain ⟨Ao105, co105, eo105⟩ := Kd.R_slice HO_6.out
               subst eo105
               go_wp2_with (first | ((with_reducible refine gate_callee (f := 23) rfl ?_); refine goesL_ (some 104) rfl rfl Try.func23 (by kernel_rfl) rfl #[.slice Ao104 t299.length co104, .slice Ao105 t226.length co105] rfl mpx9 ?_; (with_reducible refine (laws_eqIntS.calls kj57 _ _ t299 _ _ t226 false _ ?side1 ?side2 ?side3 ?side4 A100.out).mono ?_); (case side1 => exact cRx9 HO301.out); (case side2 => exact (Kd.R_reads' HO301.out).2.1); (case side3 => exact cRx9 HO_6.out); (case side4 => exact (Kd.R_reads' HO_6.out).2.1); rintro e w' ⟨rfl, ⟨nd, rfl⟩⟩; refine ⟨_, rfl, ?_⟩))
               go_meet
               case rel => exact ⟨_, (true), (by first | rfl | (simp; done) | (simp [*]; done)), H', ⟨by have := HJ18.out; have := HJ57.out; first | omega | exact Nat.le_refl _⟩, ⟨by (try simp only [hl245000_57, hl245001_57, hl245002_57]); exact rRx9 (mox9 HO_10.out)⟩, ⟨by (try simp only [hl245000_57, hl245001_57, hl245002_57]); (with_reducible repeat (first | apply Kd.S_alloc | apply Kd.S_drewN | apply Kd.S_drew)); exact Kd.S_mono HO_245000.out (fun _ hk => ⟨hk.1.1.1.1.1.2.1, ⟨hk.1.1.1.1.1.2.2.1, hk.1.1.1.1.1.2.2.2⟩⟩)⟩, ⟨by (try simp only [hl245000_57, hl245001_57, hl245002_57]); exact rRx9 (mox9 HO_245001.out)⟩, ⟨by (try simp only [hl245000_57, hl245001_57, hl245002_57]); exact rRx9 (mox9 HO_245002.out)⟩, ⟨by (try simp only [hl245000_57, hl245001_57, hl245002_57]); (with_reducible repeat (first | refine blk_drewN ?_ _ | refine blk_drew ?_ | refine blk_alloc ?_ _)); exact BK206.out⟩, ⟨by (try simp only [hl245000_57, hl245001_57, hl245002_57]); (with_reducible repeat (first | refine blk_drewN ?_ _ | refine blk_drew ?_ | refine blk_alloc ?_ _)); exact BK244.out⟩, ⟨be2x9 HB.out GE206.out GE244.out⟩⟩
             case rest =>
              clear HC88
              try clear c1; try clear c78; try clear c81; try clear c81b0; try clear c84; try clear c84b0; try clear c84b1; try clear c101; try clear hcz92_0 hcz92_1 hcz92_2 hcz92_3 hcz92_4 hcz92_5 hcz92_6 hcz92_7 hfz92_0 hfz92_1 hfz92_2 hfz92_3 hfz92_4 hfz92_5 hfz92_6 hfz92_7
              obtain ⟨kq, x110_87, rfl, HA, HJ87, HO_10, HO_245000, HO_245001, HO_245002, BK206, BK244, HB⟩ := hcut
              have hl10_87 := (Kd.R_reads' HO_10.out).1
              rw [hl10_87] at HO_10
              (try simp only [hl10_87])
              (try simp only [hl10_87] at BK206)
              (try simp only [hl10_87] at BK244)
              (try simp only [hl10_87] at HO_245000)
              (try simp only [hl10_87] at HO_245001)
              (try simp only [hl10_87] at HO_245002)
              cases kq with
              | zero => exact absurd HA.out (by simp [laws_FnExactSpareMill.j2])
              | succ kj87 =>
               have H := HA.out
               clear HA
               simp only [laws_FnExactSpareMill.j2] at H
               by_cases c106 : x110_87 = true
               ·subst c106
                have H1 : (some false) = some r := by rw [if_pos rfl] at H; exact H
                clear H
                have H := H1
                clear H1
                obtain rfl := Option.some.inj H
                go_wp2
                go_ret
                exact ⟨by first | rfl | (simp [errW_none, errW_some] <;> rfl) | (simp [*, errW_none, errW_some] <;> rfl), be2x9 HB.out GE206.out GE244.out⟩
               ·replace c106 := Bool.eq_false_iff.mpr c106
                subst c106
                have H1 : ((laws_heldIntS.f kj87 t280 1).bind fun t304 => (if t304 < 0 then (some false) else (if t304 = t279 then (some true) else (some false)))) = some r := by rw [if_neg (show ¬ (false = true) by decide)] at H; exact H
                clear H
                have H := H1
                clear H1
                replace H := Option.bind_eq_some_iff.mp H
                obtain ⟨t304, A1070, H⟩ := H
                have A107 := Aside0.mk A1070
                clear A1070
                by_cases c108 : t304 < 0
                ·rw [if_pos c108] at H
                 have c108b0 : decide (t304 < 0) = true := decide_eq_true c108
                 clear c108
                 obtain rfl := Option.some.inj H
                 go_wp2_with (first | ((with_reducible refine gate_callee (f := 31) rfl ?_); refine goesL_ (some 113) rfl rfl Try.func31 (by kernel_rfl) rfl #[.slice Ao89 t280.length co89, .int .i64 1] rfl mpx9 ?_; (with_reducible refine (laws_heldIntS.calls kj87 _ _ t280 1 t304 _ ?side1 ?side2 A107.out).mono ?_); (case side1 => exact cRx9 HO_10.out); (case side2 => exact (Kd.R_reads' HO_10.out).2.1); rintro e w' ⟨rfl, ⟨nd, rfl⟩⟩; refine ⟨_, rfl, ?_⟩))
                 go_ret
                 exact ⟨by first | rfl | (simp [errW_none, errW_some] <;> rfl) | (simp [*, errW_none, errW_some] <;> rfl), be2x9 HB.out GE206.out GE244.out⟩
                ·rw [if_neg c108] at H
                 have c108b0 : decide (t304 < 0) = false := decide_eq_false c108
                 clear c108
                 by_cases c109 : t304 = t279
                 ·rw [if_pos c109] at H
                  have c109b0 : (t304 == t279) = true := beq_iff_eq.mpr c109
                  have c109b1 : (t304 != t279) = false := bne_eq_false_iff_eq.mpr c109
                  clear c109
                  obtain rfl := Option.some.inj H
                  go_wp2_with (first | ((with_reducible refine gate_callee (f := 31) rfl ?_); refine goesL_ (some 113) rfl rfl Try.func31 (by kernel_rfl) rfl #[.slice Ao89 t280.length co89, .int .i64 1] rfl mpx9 ?_; (with_reducible refine (laws_heldIntS.calls kj87 _ _ t280 1 t304 _ ?side1 ?side2 A107.out).mono ?_); (case side1 => exact cRx9 HO_10.out); (case side2 => exact (Kd.R_reads' HO_10.out).2.1); rintro e w' ⟨rfl, ⟨nd, rfl⟩⟩; refine ⟨_, rfl, ?_⟩))
                  go_ret
                  exact ⟨by first | rfl | (simp [errW_none, errW_some] <;> rfl) | (simp [*, errW_none, errW_some] <;> rfl), be2x9 HB.out GE206.out GE244.out⟩
                 ·rw [if_neg c109] at H
                  have c109b0 : (t304 == t279) = false := beq_eq_false_iff_ne.mpr c109
                  have c109b1 : (t304 != t279) = true := bne_iff_ne.mpr c109
                  obtain rfl := Option.some.inj H
                  go_wp2_with (first | ((with_reducible refine gate_callee (f := 31) rfl ?_); refine goesL_ (some 113) rfl rfl Try.func31 (by kernel_rfl) rfl #[.slice Ao89 t280.length co89, .int .i64 1] rfl mpx9 ?_; (with_reducible refine (laws_heldIntS.calls kj87 _ _ t280 1 t304 _ ?side1 ?side2 A107.out).mono ?_); (case side1 => exact cRx9 HO_10.out); (case side2 => exact (Kd.R_reads' HO_10.out).2.1); rintro e w' ⟨rfl, ⟨nd, rfl⟩⟩; refine ⟨_, rfl, ?_⟩))
                  go_ret
                  exact ⟨by first | rfl | (simp [errW_none, errW_some] <;> rfl) | (simp [*, errW_none, errW_some] <;> rfl), be2x9 HB.out GE206.out GE244.out⟩
            ·rw [if_neg c84] at H
             have c84b0 : (t281 == t279) = false := beq_eq_false_iff_ne.mpr c84
             have c84b1 : (t281 != t279) = true := bne_iff_ne.mpr c84
             obtain rfl := Option.some.inj H
             obtain ⟨Ao110, co110, eo110⟩ := Kd.R_slice HO_10.out
             subst eo110
             go_wp2_with (first | ((with_reducible refine gate_callee (f := 30) rfl ?_); refine goesL_ (some 85) rfl rfl Try.func30 (by kernel_rfl) rfl #[.slice Ao110 t248.length co110, .int .i64 1] rfl mpx9 ?_; (with_reducible refine (laws_markIntS.calls kj57 (fun k_ => some k_ = (.slice Ao110 t248.length co110 : Value).ownBlock) (.slice Ao110 t248.length co110) t248 1 t279 t280 w _ ?side1 ?side2 A79.out).mono ?_); (case side1 => exact be2x9 HB.out GE206.out GE244.out); (case side2 => exact Kd.R_tight rfl HO_10.out); rintro e w111 ⟨rfl, hy0, hb, hkp⟩; refine ⟨_, rfl, ?_⟩; replace HO_6 := Aside0.mk (Kd.R_mono (ok' := fun k_ => some k_ ≠ (.slice Ao110 t248.length co110 : Value).ownBlock ∧ some k_ ≠ (.slice Ao37 t274.length co37 : Value).ownBlock ∧ some k_ ≠ (.slice Ao38 t275.length co38 : Value).ownBlock) (Kd.R_keptB (HO_6.out) hkp (fun k_ hk_ hs_ => (hk_.1) hs_)) (fun k_ hk_ => ⟨hk_.1.1, hk_.1.2.1, hk_.1.2.2⟩)); replace HO_245000 := Aside0.mk (Kd.S_mono (ok' := fun k_ => some k_ ≠ (v227 : Value).ownBlock ∧ some k_ ≠ (.slice Ao110 t248.length co110 : Value).ownBlock ∧ some k_ ≠ (.slice Ao37 t274.length co37 : Value).ownBlock ∧ some k_ ≠ (.slice Ao38 t275.length co38 : Value).ownBlock) (Kd.S_keptB (HO_245000.out) hkp (fun k_ hk_ hs_ => (hk_.2.1) hs_)) (fun k_ hk_ => ⟨hk_.1.1, hk_.1.2.1, hk_.1.2.2.1, hk_.1.2.2.2⟩)); replace HO_245001 := Aside0.mk (Kd.R_mono (ok' := fun k_ => some k_ ≠ (v227 : Value).ownBlock ∧ some k_ ≠ (.slice Ao110 t248.length co110 : Value).ownBlock ∧ some k_ ≠ (.slice Ao38 t275.length co38 : Value).ownBlock) (Kd.R_keptB (HO_245001.out) hkp (fun k_ hk_ hs_ => (hk_.2.1) hs_)) (fun k_ hk_ => ⟨hk_.1.1, hk_.1.2.1, hk_.1.2.2⟩)); replace HO_245002 := Aside0.mk (Kd.R_mono (ok' := fun k_ => some k_ ≠ (v227 : Value).ownBlock ∧ some k_ ≠ (.slice Ao110 t248.length co110 : Value).ownBlock ∧ some k_ ≠ (.slice Ao37 t274.length co37 : Value).ownBlock) (Kd.R_keptB (HO_245002.out) hkp (fun k_ hk_ hs_ => (hk_.2.1) hs_)) (fun k_ hk_ => ⟨hk_.1.1, hk_.1.2.1, hk_.1.2.2⟩)); replace BK206 := Aside0.mk (blk_kept (rBx9 BK206.out) hkp (fun hs_ => (fun e_ => (Kd.R_ne HO_10.out BK206.out (by decide)) e_) hs_)); replace BK244 := Aside0.mk (blk_kept (rBx9 BK244.out) hkp (fun hs_ => (fun e_ => (Kd.R_ne HO_10.out BK244.out (by decide)) e_) hs_)); replace HO_10 := Aside0.mk (Kd.R_reok rfl hy0 (fun k_ e_ => HO_10.out.1 k_ e_)); replace HB := Aside0.mk (hb); (try clear hb); (try clear hkp); (try clear hy0)) | ((with_reducible refine gate_callee (f := 31) rfl ?_); refine goesL_ (some 88) rfl rfl Try.func31 (by kernel_rfl) rfl #[.slice Ao110 t280.length co110, .int .i64 1] rfl (by (try simp only [List.map_toArray, List.map_cons, List.map_nil]); first | done | (rw [show t280.length = t248.length from (Kd.R_reads' HO_10.out).1.symm] <;> rfl) | rfl | (simp only [List.length_drop, List.length_take]; rfl)) ?_; (with_reducible refine (laws_heldIntS.calls kj57 _ _ t280 1 t281 _ ?side1 ?side2 A80.out).mono ?_); (case side1 => exact cRx9 HO_10.out); (case side2 => rw [show t280.length = t248.length from (Kd.R_reads' HO_10.out).1.symm]; exact (Kd.R_reads' HO_10.out).2.1); rintro e w' ⟨rfl, ⟨nd, rfl⟩⟩; refine ⟨_, rfl, ?_⟩))
             go_ret
             exact ⟨by first | rfl | (simp [errW_none, errW_some] <;> rfl) | (simp [*, errW_none, errW_some] <;> rfl), be2x9 HB.out GE206.out GE244.out⟩
       ·replace c55 := Bool.eq_false_iff.mpr c55
        subst c55
        have H1 : (some false) = some r := by rw [if_neg (show ¬ (false = true) by decide)] at H; exact H
        clear H
        have H := H1
        clear H1
        obtain rfl := Option.some.inj H
        try go_wp2
        replace HO_6 := Aside0.mk (Kd.R_drew HO_6.out)
        replace HO_9 := Aside0.mk (Kd.S_drew HO_9.out)
        replace HO_10 := Aside0.mk (Kd.R_drew HO_10.out)
        replace HO_245000 := Aside0.mk (Kd.S_drew HO_245000.out)
        replace HO_245001 := Aside0.mk (Kd.R_drew HO_245001.out)
        replace HO_245002 := Aside0.mk (Kd.R_drew HO_245002.out)
        replace BK206 := Aside0.mk (blk_drew BK206.out)
        replace BK244 := Aside0.mk (blk_drew BK244.out)
        replace HB := Aside0.mk (below_drew1 HB.out)
        refine start_ (n := 5) (S := fun w' => w'.cell? ⟨gb244, 0, none⟩ = some (.slice Ao34 t230.length co34) ∧ w'.cell? ⟨gb244, 1, none⟩ = some (.slice Ao37 t233.length co37) ∧ w'.cell? ⟨gb244, 2, none⟩ = some (.slice Ao38 t236.length co38) ∧ w'.cell? ⟨gb244, 3, none⟩ = some (.int .i64 t239) ∧ w'.cell? ⟨gb244, 4, none⟩ = some (.int .i64 t240) ∧ w'.cell? ⟨gb244, 5, none⟩ = some (.int .i64 t241) ∧ w'.cell? ⟨gb244, 6, none⟩ = some (.int .i64 t242) ∧ w'.cell? ⟨gb244, 7, none⟩ = some (.int .i64 t243) ∧ w'.cell? ⟨gb206, 0, none⟩ = some (.slice A0_0 l0_0.length c0_0) ∧ w'.cell? ⟨gb206, 1, none⟩ = some (.slice A0_1 l0_1.length c0_1) ∧ w'.cell? ⟨gb206, 2, none⟩ = some (.slice A0_2 l0_2.length c0_2) ∧ w'.cell? ⟨gb206, 3, none⟩ = some (.int .i64 a0_3) ∧ w'.cell? ⟨gb206, 4, none⟩ = some (.int .i64 a0_4) ∧ w'.cell? ⟨gb206, 5, none⟩ = some (.int .i64 a0_5) ∧ w'.cell? ⟨gb206, 6, none⟩ = some (.int .i64 a0_6) ∧ w'.cell? ⟨gb206, 7, none⟩ = some (.int .i64 a0_7)) (ds := []) #[false, false, false, false, false] (by kernel_rfl) rfl rfl (ca8x9 BK244.out (cc8x9 BK206.out)) (fun hHeld => ?_)
        generalize wc.drew = w112 at HO_6 HO_9 HO_10 HO_245000 HO_245001 HO_245002 BK206 BK244 HB hHeld ⊢
        refine take_ (i := 0) (N := some 54) (v := ?_) (a' := ?_) #[true, false, false, false, false] rfl rfl (by kernel_rfl) (fun _ _ _ h => h) (Or.inl ⟨by rfl, ?_⟩) hHeld ?_ ?_
        rotate_left
        ·rintro w' ⟨s0, s1, s2, s3, s4, s5, s6, s7, s8, s9, s10, s11, s12, s13, s14, s15⟩
         go_simp
         with_reducible rfl
        rotate_left
        ·simp only [Act.put, List.setIfInBounds_toArray, List.set_cons_zero, List.set_cons_succ, i64_w, i32_w]
         rfl
        refine take_ (i := 1) (N := some 55) (v := ?_) (a' := ?_) #[true, true, false, false, false] rfl rfl (by kernel_rfl) (fun _ _ _ h => h) (Or.inl ⟨by rfl, ?_⟩) hHeld ?_ ?_
        rotate_left
        ·rintro w' ⟨s0, s1, s2, s3, s4, s5, s6, s7, s8, s9, s10, s11, s12, s13, s14, s15⟩
         go_simp
         with_reducible rfl
        rotate_left
        ·simp only [Act.put, List.setIfInBounds_toArray, List.set_cons_zero, List.set_cons_succ, i64_w, i32_w]
         rfl
        refine one_ (i := 2) (N := some 56) #[true, true, true, false, false] rfl rfl (by kernel_rfl) (by decide) (fun K hK => ?_)
        refine goes_ Try.func20 (by kernel_rfl) rfl #[.agg #[.slice A0_0 l0_0.length c0_0, .slice A0_1 l0_1.length c0_1, .slice A0_2 l0_2.length c0_2, .int .i64 a0_3, .int .i64 a0_4, .int .i64 a0_5, .int .i64 a0_6, .int .i64 a0_7]] (by rfl) rfl rfl mpx9 ?_
        with_reducible refine (laws_toJob.calls kj18 _ _ l0_0 _ _ l0_1 _ _ l0_2 a0_3 a0_4 a0_5 a0_6 a0_7 t253 t256 t259 t262 t263 t264 t265 t266 _ ?side1 ?side2 ?side3 ?side4 ?side5 ?side6 A50.out).mono ?_
        (case side1 => exact rCx9 (Kd.C_below HR0_0.out HB.out))
        (case side2 => exact HC0_0.out)
        (case side3 => exact rCx9 (Kd.C_below HR0_1.out HB.out))
        (case side4 => exact HC0_1.out)
        (case side5 => exact rCx9 (Kd.C_below HR0_2.out HB.out))
        (case side6 => exact HC0_2.out)
        rintro e w113 ⟨v254, v257, v260, rfl, ho0, ho1, ho2, hb⟩
        refine ⟨_, rfl, ?_⟩
        have HO255 := Aside0.mk (Kd.S_lower (Kd.S_new' (Kd.S_new' (Kd.S_new' (Kd.S_new' (Kd.S_new' (Kd.S_new' ho0 (Kd.R_lt (rRx9 HO_6.out))) (Kd.S_lt (rSx9 HO_9.out))) (Kd.R_lt (rRx9 HO_10.out))) (Kd.S_lt (rSx9 HO_245000.out))) (Kd.R_lt (rRx9 HO_245001.out))) (Kd.R_lt (rRx9 HO_245002.out))) (below_size (be2x9 HB.out GE206.out GE244.out)))
        replace HO_9 := Aside0.mk (Kd.S_mono (Kd.S_told (Kd.S_told (Kd.S_told (Kd.S_old (rSx9 HO_9.out) hb) (Kd.S_base ho0)) (Kd.R_base ho1)) (Kd.R_base ho2)) (fun _ h_ => h_.1))
        replace HO_245000 := Aside0.mk (Kd.S_mono (Kd.S_told (Kd.S_told (Kd.S_told (Kd.S_old (rSx9 HO_245000.out) hb) (Kd.S_base ho0)) (Kd.R_base ho1)) (Kd.R_base ho2)) (fun _ h_ => h_.1))
        have HO258 := Aside0.mk (Kd.R_lower (nwx9 (nwx9 (nwx9 (nwx9 ho1 (rRx9 HO_6.out)) (rRx9 HO_10.out)) (rRx9 HO_245001.out)) (rRx9 HO_245002.out)) (below_size (be2x9 HB.out GE206.out GE244.out)))
        have HO261 := Aside0.mk (Kd.R_lower (nwx9 (nwx9 (nwx9 (nwx9 ho2 (rRx9 HO_6.out)) (rRx9 HO_10.out)) (rRx9 HO_245001.out)) (rRx9 HO_245002.out)) (below_size (be2x9 HB.out GE206.out GE244.out)))
        replace HO_6 := Aside0.mk (Kd.R_mono (Kd.R_told (Kd.R_told (Kd.R_old (rRx9 HO_6.out) hb) (Kd.R_base ho1)) (Kd.R_base ho2)) (fun _ h_ => h_.1))
        replace HO_10 := Aside0.mk (Kd.R_mono (Kd.R_told (Kd.R_told (Kd.R_old (rRx9 HO_10.out) hb) (Kd.R_base ho1)) (Kd.R_base ho2)) (fun _ h_ => h_.1))
        replace HO_245001 := Aside0.mk (Kd.R_mono (Kd.R_told (Kd.R_told (Kd.R_old (rRx9 HO_245001.out) hb) (Kd.R_base ho1)) (Kd.R_base ho2)) (fun _ h_ => h_.1))
        replace HO_245002 := Aside0.mk (Kd.R_mono (Kd.R_told (Kd.R_told (Kd.R_old (rRx9 HO_245002.out) hb) (Kd.R_base ho1)) (Kd.R_base ho2)) (fun _ h_ => h_.1))
        replace BK206 := Aside0.mk (blk_below (rBx9 BK206.out) hb)
        replace BK244 := Aside0.mk (blk_below (rBx9 BK244.out) hb)
        replace HB := Aside0.mk (below_step (be2x9 HB.out GE206.out GE244.out) hb)
        (try clear hb)
        (try clear hb2)
        (try clear hk)
        (try clear hi)
        (try clear ho0)
        (try clear ho1)
        (try clear ho2)
        obtain ⟨Ao114, co114, eo114⟩ := Kd.S_slice HO255.out
        (first | subst eo114 | (injection eo114 with f1_ f2_ f3_; have f4_ := f1_.symm; have f5_ := f3_.symm; clear f1_ f2_ f3_; subst f4_; subst f5_))
        obtain ⟨Ao115, co115, eo115⟩ := Kd.R_slice HO258.out
        (first | subst eo115 | (injection eo115 with f1_ f2_ f3_; have f4_ := f1_.symm; have f5_ := f3_.symm; clear f1_ f2_ f3_; subst f4_; subst f5_))
        obtain ⟨Ao116, co116, eo116⟩ := Kd.R_slice HO261.out
        (first | subst eo116 | (injection eo116 with f1_ f2_ f3_; have f4_ := f1_.symm; have f5_ := f3_.symm; clear f1_ f2_ f3_; subst f4_; subst f5_))
        refine hK.out _ _ (ca8x9 BK244.out (cc8x9 BK206.out)) (fun hHeld => ?_)
        clear hK K
        refine norm_ (a' := ?_) ?_ ?_
        rotate_left
        ·show Act.put _ (some 56) _ = _
         simp only [Act.put, List.setIfInBounds_toArray, List.set_cons_zero, List.set_cons_succ, i64_w, i32_w]
         rfl
        refine one_ (i := 3) (N := some 57) #[true, true, true, true, false] rfl rfl (by kernel_rfl) (by decide) (fun K hK => ?_)
        refine goes_ Try.func25 (by kernel_rfl) rfl #[.agg #[.slice Ao34 t230.length co34, .slice Ao37 t233.length co37, .slice Ao38 t236.length co38, .int .i64 t239, .int .i64 t240, .int .i64 t241, .int .i64 t242, .int .i64 t243], .agg #[.slice Ao114 t253.length co114, .slice Ao115 t256.length co115, .slice Ao116 t259.length co116, .int .i64 t262, .int .i64 t263, .int .i64 t264, .int .i64 t265, .int .i64 t266]] (by rfl) rfl rfl mpx9 ?_
        with_reducible refine (laws_eqJob.calls kj18 _ _ t230 _ _ t233 _ _ t236 t239 t240 t241 t242 t243 _ _ t253 _ _ t256 _ _ t259 t262 t263 t264 t265 t266 true _ ?side1 ?side2 ?side3 ?side4 ?side5 ?side6 ?side7 ?side8 ?side9 ?side10 ?side11 ?side12 A51.out).mono ?_
        (case side1 => repeat (first | exact (Kd.S_reads' HO_245000.out).2.2 | (with_reducible refine Kd.C_alloc ?_ _) | (with_reducible refine Kd.C_drewN ?_ _) | (with_reducible refine Kd.C_drew ?_)))
        (case side2 => exact (Kd.S_reads' HO_245000.out).2.1)
        (case side3 => exact cRx9 HO_245001.out)
        (case side4 => exact (Kd.R_reads' HO_245001.out).2.1)
        (case side5 => exact cRx9 HO_245002.out)
        (case side6 => exact (Kd.R_reads' HO_245002.out).2.1)
        (case side7 => repeat (first | exact (Kd.S_reads' HO255.out).2.2 | (with_reducible refine Kd.C_alloc ?_ _) | (with_reducible refine Kd.C_drewN ?_ _) | (with_reducible refine Kd.C_drew ?_)))
        (case side8 => exact (Kd.S_reads' HO255.out).2.1)
        (case side9 => exact cRx9 HO258.out)
        (case side10 => exact (Kd.R_reads' HO258.out).2.1)
        (case side11 => exact cRx9 HO261.out)
        (case side12 => exact (Kd.R_reads' HO261.out).2.1)
        rintro e w117 ⟨rfl, hb⟩
        refine ⟨_, rfl, ?_⟩
        replace HO_6 := Aside0.mk (Kd.R_below (rRx9 HO_6.out) hb)
        replace HO_9 := Aside0.mk (Kd.S_below (rSx9 HO_9.out) hb)
        replace HO_10 := Aside0.mk (Kd.R_below (rRx9 HO_10.out) hb)
        replace HO_245000 := Aside0.mk (Kd.S_below (rSx9 HO_245000.out) hb)
        replace HO_245001 := Aside0.mk (Kd.R_below (rRx9 HO_245001.out) hb)
        replace HO_245002 := Aside0.mk (Kd.R_below (rRx9 HO_245002.out) hb)
        replace HO255 := Aside0.mk (Kd.S_below (rSx9 HO255.out) hb)
        replace HO258 := Aside0.mk (Kd.R_below (rRx9 HO258.out) hb)
        replace HO261 := Aside0.mk (Kd.R_below (rRx9 HO261.out) hb)
        replace BK206 := Aside0.mk (blk_below (rBx9 BK206.out) hb)
        replace BK244 := Aside0.mk (blk_below (rBx9 BK244.out) hb)
        replace HB := Aside0.mk (below_step (be2x9 HB.out GE206.out GE244.out) hb)
        (try clear hb)
        (try clear hb2)
        (try clear hk)
        (try clear hi)
        refine hK.out _ _ (ca8x9 BK244.out (cc8x9 BK206.out)) (fun hHeld => ?_)
        clear hK K
        refine norm_ (a' := ?_) ?_ ?_
        rotate_left
        ·show Act.put _ (some 57) _ = _
         simp only [Act.put, List.setIfInBounds_toArray, List.set_cons_zero, List.set_cons_succ, i64_w, i32_w]
         rfl
        refine pure_ (i := 4) (N := some 58) (v := ?_) (a' := ?_) #[true, true, true, true, true] rfl rfl (by kernel_rfl) (fun _ _ _ h => h) (Or.inl ⟨by rfl, ?_⟩) ?_ ?_
        rotate_left
        ·intro w'
         go_simp
         with_reducible rfl
        rotate_left
        ·simp only [Act.put, List.setIfInBounds_toArray, List.set_cons_zero, List.set_cons_succ, i64_w, i32_w]
         rfl
        refine done_ (by kernel_rfl) ?_
        try go_wp2_with (first | ((with_reducible refine gate_callee (f := 34) rfl ?_); refine goesL_ (some 61) rfl rfl Try.func34 (by kernel_rfl) rfl #[.slice A1 l1.length c1] rfl mpx9 ?_; (with_reducible refine (laws_toIntSS.calls kj18 _ _ l1 t268 _ ?side1 ?side2 A53.out).mono ?_); (case side1 => exact rCx9 (Kd.C_below HR1.out HB.out)); (case side2 => exact HC1.out); rintro e w118 ⟨v269, rfl, ho0, hb⟩; refine ⟨_, rfl, ?_⟩; have HO270 := Aside0.mk (Kd.S_lower (Kd.S_new' (Kd.S_new' (Kd.S_new' (Kd.S_new' (Kd.S_new' (Kd.S_new' (Kd.S_new' (Kd.S_new' (Kd.S_new' ho0 (Kd.R_lt (rRx9 HO_6.out))) (Kd.S_lt (rSx9 HO_9.out))) (Kd.R_lt (rRx9 HO_10.out))) (Kd.S_lt (rSx9 HO_245000.out))) (Kd.R_lt (rRx9 HO_245001.out))) (Kd.R_lt (rRx9 HO_245002.out))) (Kd.S_lt (rSx9 HO255.out))) (Kd.R_lt (rRx9 HO258.out))) (Kd.R_lt (rRx9 HO261.out))) (below_size (be2x9 HB.out GE206.out GE244.out))); replace HO_6 := Aside0.mk (Kd.R_below (rRx9 HO_6.out) hb); replace HO_9 := Aside0.mk (Kd.S_elder' (rSx9 HO_9.out) (Kd.S_base ho0) hb); replace HO_10 := Aside0.mk (Kd.R_below (rRx9 HO_10.out) hb); replace HO_245000 := Aside0.mk (Kd.S_elder' (rSx9 HO_245000.out) (Kd.S_base ho0) hb); replace HO_245001 := Aside0.mk (Kd.R_below (rRx9 HO_245001.out) hb); replace HO_245002 := Aside0.mk (Kd.R_below (rRx9 HO_245002.out) hb); replace HO255 := Aside0.mk (Kd.S_elder' (rSx9 HO255.out) (Kd.S_base ho0) hb); replace HO258 := Aside0.mk (Kd.R_below (rRx9 HO258.out) hb); replace HO261 := Aside0.mk (Kd.R_below (rRx9 HO261.out) hb); replace BK206 := Aside0.mk (blk_below (rBx9 BK206.out) hb); replace BK244 := Aside0.mk (blk_below (rBx9 BK244.out) hb); replace HB := Aside0.mk (below_step (be2x9 HB.out GE206.out GE244.out) hb); (try clear hb); (try clear hb2); (try clear hk); (try clear hi); (try clear ho0); obtain ⟨Ao119, co119, eo119⟩ := Kd.S_slice HO270.out; subst eo119) | ((with_reducible refine gate_callee (f := 36) rfl ?_); refine goesL_ (some 62) rfl rfl Try.func36 (by kernel_rfl) rfl #[.slice Ao41 t245.length co41, .slice Ao119 t268.length co119] rfl mpx9 ?_; (with_reducible refine (laws_eqIntSS.calls kj18 _ _ t245 _ _ t268 false _ ?side1 ?side2 ?side3 ?side4 A54.out).mono ?_); (case side1 => repeat (first | exact (Kd.S_reads' HO_9.out).2.2 | (with_reducible refine Kd.C_alloc ?_ _) | (with_reducible refine Kd.C_drewN ?_ _) | (with_reducible refine Kd.C_drew ?_))); (case side2 => exact (Kd.S_reads' HO_9.out).2.1); (case side3 => repeat (first | exact (Kd.S_reads' HO270.out).2.2 | (with_reducible refine Kd.C_alloc ?_ _) | (with_reducible refine Kd.C_drewN ?_ _) | (with_reducible refine Kd.C_drew ?_))); (case side4 => exact (Kd.S_reads' HO270.out).2.1); rintro e w' ⟨rfl, ⟨nd, rfl⟩⟩; refine ⟨_, rfl, ?_⟩))
        go_ret
        exact ⟨by first | rfl | (simp [errW_none, errW_some] <;> rfl) | (simp [*, errW_none, errW_some] <;> rfl), be2x9 HB.out GE206.out GE244.out⟩
      ·replace c52 := Bool.eq_false_iff.mpr c52
       subst c52
       have H1 : (some false) = some r := by rw [if_neg (show ¬ (false = true) by decide)] at H; exact H
       clear H
       have H := H1
       clear H1
       obtain rfl := Option.some.inj H
       try go_wp2
       replace HO_6 := Aside0.mk (Kd.R_drew HO_6.out)
       replace HO_9 := Aside0.mk (Kd.S_drew HO_9.out)
       replace HO_10 := Aside0.mk (Kd.R_drew HO_10.out)
       replace HO_245000 := Aside0.mk (Kd.S_drew HO_245000.out)
       replace HO_245001 := Aside0.mk (Kd.R_drew HO_245001.out)
       replace HO_245002 := Aside0.mk (Kd.R_drew HO_245002.out)
       replace BK206 := Aside0.mk (blk_drew BK206.out)
       replace BK244 := Aside0.mk (blk_drew BK244.out)
       replace HB := Aside0.mk (below_drew1 HB.out)
       refine start_ (n := 5) (S := fun w' => w'.cell? ⟨gb244, 0, none⟩ = some (.slice Ao34 t230.length co34) ∧ w'.cell? ⟨gb244, 1, none⟩ = some (.slice Ao37 t233.length co37) ∧ w'.cell? ⟨gb244, 2, none⟩ = some (.slice Ao38 t236.length co38) ∧ w'.cell? ⟨gb244, 3, none⟩ = some (.int .i64 t239) ∧ w'.cell? ⟨gb244, 4, none⟩ = some (.int .i64 t240) ∧ w'.cell? ⟨gb244, 5, none⟩ = some (.int .i64 t241) ∧ w'.cell? ⟨gb244, 6, none⟩ = some (.int .i64 t242) ∧ w'.cell? ⟨gb244, 7, none⟩ = some (.int .i64 t243) ∧ w'.cell? ⟨gb206, 0, none⟩ = some (.slice A0_0 l0_0.length c0_0) ∧ w'.cell? ⟨gb206, 1, none⟩ = some (.slice A0_1 l0_1.length c0_1) ∧ w'.cell? ⟨gb206, 2, none⟩ = some (.slice A0_2 l0_2.length c0_2) ∧ w'.cell? ⟨gb206, 3, none⟩ = some (.int .i64 a0_3) ∧ w'.cell? ⟨gb206, 4, none⟩ = some (.int .i64 a0_4) ∧ w'.cell? ⟨gb206, 5, none⟩ = some (.int .i64 a0_5) ∧ w'.cell? ⟨gb206, 6, none⟩ = some (.int .i64 a0_6) ∧ w'.cell? ⟨gb206, 7, none⟩ = some (.int .i64 a0_7)) (ds := []) #[false, false, false, false, false] (by kernel_rfl) rfl rfl (ca8x9 BK244.out (cc8x9 BK206.out)) (fun hHeld => ?_)
       generalize wc.drew = w120 at HO_6 HO_9 HO_10 HO_245000 HO_245001 HO_245002 BK206 BK244 HB hHeld ⊢
       refine take_ (i := 0) (N := some 54) (v := ?_) (a' := ?_) #[true, false, false, false, false] rfl rfl (by kernel_rfl) (fun _ _ _ h => h) (Or.inl ⟨by rfl, ?_⟩) hHeld ?_ ?_
       rotate_left
       ·rintro w' ⟨s0, s1, s2, s3, s4, s5, s6, s7, s8, s9, s10, s11, s12, s13, s14, s15⟩
        go_simp
        with_reducible rfl
       rotate_left
       ·simp only [Act.put, List.setIfInBounds_toArray, List.set_cons_zero, List.set_cons_succ, i64_w, i32_w]
        rfl
       refine take_ (i := 1) (N := some 55) (v := ?_) (a' := ?_) #[true, true, false, false, false] rfl rfl (by kernel_rfl) (fun _ _ _ h => h) (Or.inl ⟨by rfl, ?_⟩) hHeld ?_ ?_
       rotate_left
       ·rintro w' ⟨s0, s1, s2, s3, s4, s5, s6, s7, s8, s9, s10, s11, s12, s13, s14, s15⟩
        go_simp
        with_reducible rfl
       rotate_left
       ·simp only [Act.put, List.setIfInBounds_toArray, List.set_cons_zero, List.set_cons_succ, i64_w, i32_w]
        rfl
       refine one_ (i := 2) (N := some 56) #[true, true, true, false, false] rfl rfl (by kernel_rfl) (by decide) (fun K hK => ?_)
       refine goes_ Try.func20 (by kernel_rfl) rfl #[.agg #[.slice A0_0 l0_0.length c0_0, .slice A0_1 l0_1.length c0_1, .slice A0_2 l0_2.length c0_2, .int .i64 a0_3, .int .i64 a0_4, .int .i64 a0_5, .int .i64 a0_6, .int .i64 a0_7]] (by rfl) rfl rfl mpx9 ?_
       with_reducible refine (laws_toJob.calls kj18 _ _ l0_0 _ _ l0_1 _ _ l0_2 a0_3 a0_4 a0_5 a0_6 a0_7 t253 t256 t259 t262 t263 t264 t265 t266 _ ?side1 ?side2 ?side3 ?side4 ?side5 ?side6 A50.out).mono ?_
       (case side1 => exact rCx9 (Kd.C_below HR0_0.out HB.out))
       (case side2 => exact HC0_0.out)
       (case side3 => exact rCx9 (Kd.C_below HR0_1.out HB.out))
       (case side4 => exact HC0_1.out)
       (case side5 => exact rCx9 (Kd.C_below HR0_2.out HB.out))
       (case side6 => exact HC0_2.out)
       rintro e w121 ⟨v254, v257, v260, rfl, ho0, ho1, ho2, hb⟩
       refine ⟨_, rfl, ?_⟩
       have HO255 := Aside0.mk (Kd.S_lower (Kd.S_new' (Kd.S_new' (Kd.S_new' (Kd.S_new' (Kd.S_new' (Kd.S_new' ho0 (Kd.R_lt (rRx9 HO_6.out))) (Kd.S_lt (rSx9 HO_9.out))) (Kd.R_lt (rRx9 HO_10.out))) (Kd.S_lt (rSx9 HO_245000.out))) (Kd.R_lt (rRx9 HO_245001.out))) (Kd.R_lt (rRx9 HO_245002.out))) (below_size (be2x9 HB.out GE206.out GE244.out)))
       replace HO_9 := Aside0.mk (Kd.S_mono (Kd.S_told (Kd.S_told (Kd.S_told (Kd.S_old (rSx9 HO_9.out) hb) (Kd.S_base ho0)) (Kd.R_base ho1)) (Kd.R_base ho2)) (fun _ h_ => h_.1))
       replace HO_245000 := Aside0.mk (Kd.S_mono (Kd.S_told (Kd.S_told (Kd.S_told (Kd.S_old (rSx9 HO_245000.out) hb) (Kd.S_base ho0)) (Kd.R_base ho1)) (Kd.R_base ho2)) (fun _ h_ => h_.1))
       have HO258 := Aside0.mk (Kd.R_lower (nwx9 (nwx9 (nwx9 (nwx9 ho1 (rRx9 HO_6.out)) (rRx9 HO_10.out)) (rRx9 HO_245001.out)) (rRx9 HO_245002.out)) (below_size (be2x9 HB.out GE206.out GE244.out)))
       have HO261 := Aside0.mk (Kd.R_lower (nwx9 (nwx9 (nwx9 (nwx9 ho2 (rRx9 HO_6.out)) (rRx9 HO_10.out)) (rRx9 HO_245001.out)) (rRx9 HO_245002.out)) (below_size (be2x9 HB.out GE206.out GE244.out)))
       replace HO_6 := Aside0.mk (Kd.R_mono (Kd.R_told (Kd.R_told (Kd.R_old (rRx9 HO_6.out) hb) (Kd.R_base ho1)) (Kd.R_base ho2)) (fun _ h_ => h_.1))
       replace HO_10 := Aside0.mk (Kd.R_mono (Kd.R_told (Kd.R_told (Kd.R_old (rRx9 HO_10.out) hb) (Kd.R_base ho1)) (Kd.R_base ho2)) (fun _ h_ => h_.1))
       replace HO_245001 := Aside0.mk (Kd.R_mono (Kd.R_told (Kd.R_told (Kd.R_old (rRx9 HO_245001.out) hb) (Kd.R_base ho1)) (Kd.R_base ho2)) (fun _ h_ => h_.1))
       replace HO_245002 := Aside0.mk (Kd.R_mono (Kd.R_told (Kd.R_told (Kd.R_old (rRx9 HO_245002.out) hb) (Kd.R_base ho1)) (Kd.R_base ho2)) (fun _ h_ => h_.1))
       replace BK206 := Aside0.mk (blk_below (rBx9 BK206.out) hb)
       replace BK244 := Aside0.mk (blk_below (rBx9 BK244.out) hb)
       replace HB := Aside0.mk (below_step (be2x9 HB.out GE206.out GE244.out) hb)
       (try clear hb)
       (try clear hb2)
       (try clear hk)
       (try clear hi)
       (try clear ho0)
       (try clear ho1)
       (try clear ho2)
       obtain ⟨Ao122, co122, eo122⟩ := Kd.S_slice HO255.out
       (first | subst eo122 | (injection eo122 with f1_ f2_ f3_; have f4_ := f1_.symm; have f5_ := f3_.symm; clear f1_ f2_ f3_; subst f4_; subst f5_))
       obtain ⟨Ao123, co123, eo123⟩ := Kd.R_slice HO258.out
       (first | subst eo123 | (injection eo123 with f1_ f2_ f3_; have f4_ := f1_.symm; have f5_ := f3_.symm; clear f1_ f2_ f3_; subst f4_; subst f5_))
       obtain ⟨Ao124, co124, eo124⟩ := Kd.R_slice HO261.out
       (first | subst eo124 | (injection eo124 with f1_ f2_ f3_; have f4_ := f1_.symm; have f5_ := f3_.symm; clear f1_ f2_ f3_; subst f4_; subst f5_))
       refine hK.out _ _ (ca8x9 BK244.out (cc8x9 BK206.out)) (fun hHeld => ?_)
       clear hK K
       refine norm_ (a' := ?_) ?_ ?_
       rotate_left
       ·show Act.put _ (some 56) _ = _
        simp only [Act.put, List.setIfInBounds_toArray, List.set_cons_zero, List.set_cons_succ, i64_w, i32_w]
        rfl
       refine one_ (i := 3) (N := some 57) #[true, true, true, true, false] rfl rfl (by kernel_rfl) (by decide) (fun K hK => ?_)
       refine goes_ Try.func25 (by kernel_rfl) rfl #[.agg #[.slice Ao34 t230.length co34, .slice Ao37 t233.length co37, .slice Ao38 t236.length co38, .int .i64 t239, .int .i64 t240, .int .i64 t241, .int .i64 t242, .int .i64 t243], .agg #[.slice Ao122 t253.length co122, .slice Ao123 t256.length co123, .slice Ao124 t259.length co124, .int .i64 t262, .int .i64 t263, .int .i64 t264, .int .i64 t265, .int .i64 t266]] (by rfl) rfl rfl mpx9 ?_
       with_reducible refine (laws_eqJob.calls kj18 _ _ t230 _ _ t233 _ _ t236 t239 t240 t241 t242 t243 _ _ t253 _ _ t256 _ _ t259 t262 t263 t264 t265 t266 false _ ?side1 ?side2 ?side3 ?side4 ?side5 ?side6 ?side7 ?side8 ?side9 ?side10 ?side11 ?side12 A51.out).mono ?_
       (case side1 => repeat (first | exact (Kd.S_reads' HO_245000.out).2.2 | (with_reducible refine Kd.C_alloc ?_ _) | (with_reducible refine Kd.C_drewN ?_ _) | (with_reducible refine Kd.C_drew ?_)))
       (case side2 => exact (Kd.S_reads' HO_245000.out).2.1)
       (case side3 => exact cRx9 HO_245001.out)
       (case side4 => exact (Kd.R_reads' HO_245001.out).2.1)
       (case side5 => exact cRx9 HO_245002.out)
       (case side6 => exact (Kd.R_reads' HO_245002.out).2.1)
       (case side7 => repeat (first | exact (Kd.S_reads' HO255.out).2.2 | (with_reducible refine Kd.C_alloc ?_ _) | (with_reducible refine Kd.C_drewN ?_ _) | (with_reducible refine Kd.C_drew ?_)))
       (case side8 => exact (Kd.S_reads' HO255.out).2.1)
       (case side9 => exact cRx9 HO258.out)
       (case side10 => exact (Kd.R_reads' HO258.out).2.1)
       (case side11 => exact cRx9 HO261.out)
       (case side12 => exact (Kd.R_reads' HO261.out).2.1)
       rintro e w125 ⟨rfl, hb⟩
       refine ⟨_, rfl, ?_⟩
       replace HO_6 := Aside0.mk (Kd.R_below (rRx9 HO_6.out) hb)
       replace HO_9 := Aside0.mk (Kd.S_below (rSx9 HO_9.out) hb)
       replace HO_10 := Aside0.mk (Kd.R_below (rRx9 HO_10.out) hb)
       replace HO_245000 := Aside0.mk (Kd.S_below (rSx9 HO_245000.out) hb)
       replace HO_245001 := Aside0.mk (Kd.R_below (rRx9 HO_245001.out) hb)
       replace HO_245002 := Aside0.mk (Kd.R_below (rRx9 HO_245002.out) hb)
       replace HO255 := Aside0.mk (Kd.S_below (rSx9 HO255.out) hb)
       replace HO258 := Aside0.mk (Kd.R_below (rRx9 HO258.out) hb)
       replace HO261 := Aside0.mk (Kd.R_below (rRx9 HO261.out) hb)
       replace BK206 := Aside0.mk (blk_below (rBx9 BK206.out) hb)
       replace BK244 := Aside0.mk (blk_below (rBx9 BK244.out) hb)
       replace HB := Aside0.mk (below_step (be2x9 HB.out GE206.out GE244.out) hb)
       (try clear hb)
       (try clear hb2)
       (try clear hk)
       (try clear hi)
       refine hK.out _ _ (ca8x9 BK244.out (cc8x9 BK206.out)) (fun hHeld => ?_)
       clear hK K
       refine norm_ (a' := ?_) ?_ ?_
       rotate_left
       ·show Act.put _ (some 57) _ = _
        simp only [Act.put, List.setIfInBounds_toArray, List.set_cons_zero, List.set_cons_succ, i64_w, i32_w]
        rfl
       refine pure_ (i := 4) (N := some 58) (v := ?_) (a' := ?_) #[true, true, true, true, true] rfl rfl (by kernel_rfl) (fun _ _ _ h => h) (Or.inl ⟨by rfl, ?_⟩) ?_ ?_
       rotate_left
       ·intro w'
        go_simp
        with_reducible rfl
       rotate_left
       ·simp only [Act.put, List.setIfInBounds_toArray, List.set_cons_zero, List.set_cons_succ, i64_w, i32_w]
        rfl
       refine done_ (by kernel_rfl) ?_
       try go_wp2
       go_ret
       exact ⟨by first | rfl | (simp [errW_none, errW_some] <;> rfl) | (simp [*, errW_none, errW_some] <;> rfl), be2x9 HB.out GE206.out GE244.out⟩

end Go.Proofs.Ytagnldmaglbpaaa.PFnExactSpareMill
