/- What a walk does behind a cut, as the default of a word's argument: it runs where the word stands (laid by wip/scripts.py). -/
import Derived.Test.YtagnldmaglbpaaaPFnExactMixModelsx0
import Derived.Test.YtagnldmaglbpaaaPFnExactMixModelsx2
import Derived.Test.YtagnldmaglbpaaaPFnExactMixModelsx4
import Derived.Test.YtagnldmaglbpaaaPFnExactMixModelsx7
import Derived.Test.YtagnldmaglbpaaaPFnExactMixModelsx8
import Derived.Test.YtagnldmaglbpaaaPFnExactMixModelswx9
namespace Go.Proofs.Ytagnldmaglbpaaa.PFnExactMixModels
open Go.RowKit Go.Proofs.YtagnldmaglbpaaaW.PrintWords Go.Proofs.YtagnldmaglbpaaaW.PrintLast Go.Proofs.YtagnldmaglbpaaaW.PrintMore
attribute [local go_sem] max2_int min2_int max_two min_two max_three min_three max_four min_four   -- for this text's walks alone
set_option linter.unusedVariables false
set_option linter.unusedSimpArgs false
set_option maxRecDepth 100000 in
theorem rest1x9 {P : Prop} (h : P := by
 clear HC139
 try clear c153; try clear c153b0; try clear c155; try clear hcz145_0 hcz145_1 hcz145_2 hcz145_3 hcz145_4 hcz145_5; try clear hcz151_0 hcz151_1 hcz151_2 hcz151_3 hcz151_4 hcz151_5; try clear hcz161_0 hcz161_1 hcz161_2 hcz161_3 hcz161_4 hcz161_5; try clear hcz166_0 hcz166_1 hcz166_2 hcz166_3 hcz166_4 hcz166_5; try clear hcz173_0 hcz173_1 hcz173_2 hcz173_3 hcz173_4 hcz173_5; try clear hcz178_0 hcz178_1 hcz178_2 hcz178_3 hcz178_4 hcz178_5; try clear hfz145_0 hfz145_1 hfz145_2 hfz145_3 hfz145_4 hfz145_5; try clear hfz151_0 hfz151_1 hfz151_2 hfz151_3 hfz151_4 hfz151_5; try clear hfz161_0 hfz161_1 hfz161_2 hfz161_3 hfz161_4 hfz161_5; try clear hfz166_0 hfz166_1 hfz166_2 hfz166_3 hfz166_4 hfz166_5; try clear hfz173_0 hfz173_1 hfz173_2 hfz173_3 hfz173_4 hfz173_5; try clear hfz178_0 hfz178_1 hfz178_2 hfz178_3 hfz178_4 hfz178_5
 obtain ⟨kq, x86_138, rfl, HA, HJ138, HO_303003, HO_303004, HO_303005, HO_316003, HO_316004, HO_316005, HO_329003, HO_329004, HO_329005, HO_343003, HO_343004, HO_343005, BK261, BK262, BK302, BK315, BK328, BK342, HB⟩ := hcut
 have hl316003_138 := (Kd.R_reads' HO_316003.out).1
 rw [hl316003_138] at HO_316003
 (try simp only [hl316003_138])
 (try simp only [hl316003_138] at BK261)
 (try simp only [hl316003_138] at BK262)
 (try simp only [hl316003_138] at BK302)
 (try simp only [hl316003_138] at BK315)
 (try simp only [hl316003_138] at BK328)
 (try simp only [hl316003_138] at BK342)
 (try simp only [hl316003_138] at HO_303003)
 (try simp only [hl316003_138] at HO_303004)
 (try simp only [hl316003_138] at HO_303005)
 (try simp only [hl316003_138] at HO_316004)
 (try simp only [hl316003_138] at HO_316005)
 (try simp only [hl316003_138] at HO_329003)
 (try simp only [hl316003_138] at HO_329004)
 (try simp only [hl316003_138] at HO_329005)
 (try simp only [hl316003_138] at HO_343003)
 (try simp only [hl316003_138] at HO_343004)
 (try simp only [hl316003_138] at HO_343005)
 have hl316004_138 := (Kd.R_reads' HO_316004.out).1
 rw [hl316004_138] at HO_316004
 (try simp only [hl316004_138])
 (try simp only [hl316004_138] at BK261)
 (try simp only [hl316004_138] at BK262)
 (try simp only [hl316004_138] at BK302)
 (try simp only [hl316004_138] at BK315)
 (try simp only [hl316004_138] at BK328)
 (try simp only [hl316004_138] at BK342)
 (try simp only [hl316004_138] at HO_303003)
 (try simp only [hl316004_138] at HO_303004)
 (try simp only [hl316004_138] at HO_303005)
 (try simp only [hl316004_138] at HO_316003)
 (try simp only [hl316004_138] at HO_316005)
 (try simp only [hl316004_138] at HO_329003)
 (try simp only [hl316004_138] at HO_329004)
 (try simp only [hl316004_138] at HO_329005)
 (try simp only [hl316004_138] at HO_343003)
 (try simp only [hl316004_138] at HO_343004)
 (try simp only [hl316004_138] at HO_343005)
 have hl316005_138 := (Kd.R_reads' HO_316005.out).1
 rw [hl316005_138] at HO_316005
 (try simp only [hl316005_138])
 (try simp only [hl316005_138] at BK261)
 (try simp only [hl316005_138] at BK262)
 (try simp only [hl316005_138] at BK302)
 (try simp only [hl316005_138] at BK315)
 (try simp only [hl316005_138] at BK328)
 (try simp only [hl316005_138] at BK342)
 (try simp only [hl316005_138] at HO_303003)
 (try simp only [hl316005_138] at HO_303004)
 (try simp only [hl316005_138] at HO_303005)
 (try simp only [hl316005_138] at HO_316003)
 (try simp only [hl316005_138] at HO_316004)
 (try simp only [hl316005_138] at HO_329003)
 (try simp only [hl316005_138] at HO_329004)
 (try simp only [hl316005_138] at HO_329005)
 (try simp only [hl316005_138] at HO_343003)
 (try simp only [hl316005_138] at HO_343004)
 (try simp only [hl316005_138] at HO_343005)
 have hl329003_138 := (Kd.R_reads' HO_329003.out).1
 rw [hl329003_138] at HO_329003
 (try simp only [hl329003_138])
 (try simp only [hl329003_138] at BK261)
 (try simp only [hl329003_138] at BK262)
 (try simp only [hl329003_138] at BK302)
 (try simp only [hl329003_138] at BK315)
 (try simp only [hl329003_138] at BK328)
 (try simp only [hl329003_138] at BK342)
 (try simp only [hl329003_138] at HO_303003)
 (try simp only [hl329003_138] at HO_303004)
 (try simp only [hl329003_138] at HO_303005)
 (try simp only [hl329003_138] at HO_316003)
 (try simp only [hl329003_138] at HO_316004)
 (try simp only [hl329003_138] at HO_316005)
 (try simp only [hl329003_138] at HO_329004)
 (try simp only [hl329003_138] at HO_329005)
 (try simp only [hl329003_138] at HO_343003)
 (try simp only [hl329003_138] at HO_343004)
 (try simp only [hl329003_138] at HO_343005)
 have hl329004_138 := (Kd.R_reads' HO_329004.out).1
 rw [hl329004_138] at HO_329004
 (try simp only [hl329004_138])
 (try simp only [hl329004_138] at BK261)
 (try simp only [hl329004_138] at BK262)
 (try simp only [hl329004_138] at BK302)
 (try simp only [hl329004_138] at BK315)
 (try simp only [hl329004_138] at BK328)
 (try simp only [hl329004_138] at BK342)
 (try simp only [hl329004_138] at HO_303003)
 (try simp only [hl329004_138] at HO_303004)
 (try simp only [hl329004_138] at HO_303005)
 (try simp only [hl329004_138] at HO_316003)
 (try simp only [hl329004_138] at HO_316004)
 (try simp only [hl329004_138] at HO_316005)
 (try simp only [hl329004_138] at HO_329003)
 (try simp only [hl329004_138] at HO_329005)
 (try simp only [hl329004_138] at HO_343003)
 (try simp only [hl329004_138] at HO_343004)
 (try simp only [hl329004_138] at HO_343005)
 have hl329005_138 := (Kd.R_reads' HO_329005.out).1
 rw [hl329005_138] at HO_329005
 (try simp only [hl329005_138])
 (try simp only [hl329005_138] at BK261)
 (try simp only [hl329005_138] at BK262)
 (try simp only [hl329005_138] at BK302)
 (try simp only [hl329005_138] at BK315)
 (try simp only [hl329005_138] at BK328)
 (try simp only [hl329005_138] at BK342)
 (try simp only [hl329005_138] at HO_303003)
 (try simp only [hl329005_138] at HO_303004)
 (try simp only [hl329005_138] at HO_303005)
 (try simp only [hl329005_138] at HO_316003)
 (try simp only [hl329005_138] at HO_316004)
 (try simp only [hl329005_138] at HO_316005)
 (try simp only [hl329005_138] at HO_329003)
 (try simp only [hl329005_138] at HO_329004)
 (try simp only [hl329005_138] at HO_343003)
 (try simp only [hl329005_138] at HO_343004)
 (try simp only [hl329005_138] at HO_343005)
 cases kq with
 | zero => exact absurd HA.out (by simp [laws_FnExactMixModels.j3])
 | succ kj138 =>
  have H := HA.out
  clear HA
  simp only [laws_FnExactMixModels.j3] at H
  by_cases c180 : x86_138 = true
  ·subst c180
   have H1 : (some false) = some r := by rw [if_pos rfl] at H; exact H
   clear H
   have H := H1
   clear H1
   obtain rfl := Option.some.inj H
   go_wp2
   go_ret
   exact ⟨by first | rfl | (simp [errW_none, errW_some] <;> rfl) | (simp [*, errW_none, errW_some] <;> rfl), be6x9 HB.out GE261.out GE262.out GE302.out GE315.out GE328.out GE342.out⟩
  ·replace c180 := Bool.eq_false_iff.mpr c180
   subst c180
   have H1 : ((laws_markModel.f kj138 t329 t330 t331 t332 t335 t338 1).bind fun bt379 => ((laws_heldModel.f kj138 t329 t330 t331 bt379.2.1 bt379.2.2.1 bt379.2.2.2 1).bind fun t383 => (if t383 < 0 then (some false) else (laws_FnExactMixModels.j4 kj138 a2 t301 bt379.1 t383 a0_0 a0_1 a0_2 l0_3 l0_4 l0_5 a1_0 a1_1 a1_2 l1_3 l1_4 l1_5 t289 t290 t291 t292 t295 t298 t329 t330 t331 bt379.2.1 bt379.2.2.1 bt379.2.2.2)))) = some r := by rw [if_neg (show ¬ (false = true) by decide)] at H; exact H
   clear H
   have H := H1
   clear H1
   replace H := Option.bind_eq_some_iff.mp H
   obtain ⟨⟨t379, t380, t381, t382⟩, A1810, H⟩ := H
   (try dsimp only at H)
   have A181 := Aside0.mk A1810
   clear A1810
   replace H := Option.bind_eq_some_iff.mp H
   obtain ⟨t383, A1820, H⟩ := H
   have A182 := Aside0.mk A1820
   clear A1820
   have HC183 := Aside0.mk H
   clear H
   have hnb184 := NB342_261.out
   have hnc184 := NB261_342.out
   have hnb185 := NB342_262.out
   have hnc185 := NB262_342.out
   have hnb186 := NB342_302.out
   have hnc186 := NB302_342.out
   have hnb187 := NB342_315.out
   have hnc187 := NB315_342.out
   have hnb188 := NB342_328.out
   have hnc188 := NB328_342.out
   obtain ⟨hcz189_0, hcz189_1, hcz189_2, hcz189_3, hcz189_4, hcz189_5, hfz189_0, hfz189_1, hfz189_2, hfz189_3, hfz189_4, hfz189_5⟩ := cf6x9 BK342.out
   go_upto_if 94 with (first | ((with_reducible refine gate_callee (f := 27) rfl ?_); refine goesL_ (some 89) rfl rfl Try.func27 (by kernel_rfl) rfl #[.agg #[.int .i64 t329, .int .i64 t330, .int .i64 t331, .slice Ao87 t332.length co87, .slice Ao88 t335.length co88, .slice Ao89 t338.length co89], .int .i64 1] rfl mpx9 ?_; (with_reducible refine (laws_markModel.calls kj138 t329 t330 t331 (fun k_ => some k_ = (.slice Ao87 t332.length co87 : Value).ownBlock) (.slice Ao87 t332.length co87) t332 (fun k_ => some k_ = (.slice Ao88 t335.length co88 : Value).ownBlock) (.slice Ao88 t335.length co88) t335 (fun k_ => some k_ = (.slice Ao89 t338.length co89 : Value).ownBlock) (.slice Ao89 t338.length co89) t338 1 t379 t380 t381 t382 w _ ?side1 ?side2 ?side3 ?side4 ?side5 ?side6 ?side7 ?side8 ?side9 ?side10 A181.out).mono ?_); (case side1 => exact be6x9 HB.out GE261.out GE262.out GE302.out GE315.out GE328.out GE342.out); (case side2 => exact Kd.R_tight rfl HO_343003.out); (case side3 => exact fun k_ e_ => (HO_343003.out.1 k_ e_.symm).2.2.2.2.2.2.2.2.2.1); (case side4 => exact fun k_ e_ => (HO_343003.out.1 k_ e_.symm).2.2.2.2.2.2.2.2.2.2); (case side5 => exact Kd.R_tight rfl HO_343004.out); (case side6 => exact fun k_ e_ => (HO_343004.out.1 k_ e_.symm).2.2.2.2.2.2.2.2.2.1); (case side7 => exact fun k_ e_ => (HO_343004.out.1 k_ e_.symm).2.2.2.2.2.2.2.2.2.2); (case side8 => exact Kd.R_tight rfl HO_343005.out); (case side9 => exact fun k_ e_ => (HO_343005.out.1 k_ e_.symm).2.2.2.2.2.2.2.2.2.1); (case side10 => exact fun k_ e_ => (HO_343005.out.1 k_ e_.symm).2.2.2.2.2.2.2.2.2.2); rintro e w190 ⟨rfl, hy0, hy1, hy2, hb, hkp⟩; refine ⟨_, rfl, ?_⟩; replace HO_303003 := Aside0.mk (Kd.R_mono (ok' := fun k_ => some k_ ≠ (.slice Ao51 t295.length co51 : Value).ownBlock ∧ some k_ ≠ (.slice Ao53 t298.length co53 : Value).ownBlock ∧ some k_ ≠ (.slice Ao63 t371.length co63 : Value).ownBlock ∧ some k_ ≠ (.slice Ao64 t372.length co64 : Value).ownBlock ∧ some k_ ≠ (.slice Ao65 t373.length co65 : Value).ownBlock ∧ some k_ ≠ (.slice Ao75 t375.length co75 : Value).ownBlock ∧ some k_ ≠ (.slice Ao76 t376.length co76 : Value).ownBlock ∧ some k_ ≠ (.slice Ao77 t377.length co77 : Value).ownBlock ∧ some k_ ≠ (.slice Ao87 t332.length co87 : Value).ownBlock ∧ some k_ ≠ (.slice Ao88 t335.length co88 : Value).ownBlock ∧ some k_ ≠ (.slice Ao89 t338.length co89 : Value).ownBlock) (Kd.R_keptB (HO_303003.out) hkp (fun k_ hk_ hs_ => Or.elim hs_ (fun e_ => (hk_.2.2.2.2.2.2.2.2.1) e_) (fun e_ => Or.elim e_ (fun e_ => (hk_.2.2.2.2.2.2.2.2.2.1) e_) (fun e_ => (hk_.2.2.2.2.2.2.2.2.2.2) e_)))) (fun k_ hk_ => ⟨hk_.1.1, hk_.1.2.1, hk_.1.2.2.1, hk_.1.2.2.2.1, hk_.1.2.2.2.2.1, hk_.1.2.2.2.2.2.1, hk_.1.2.2.2.2.2.2.1, hk_.1.2.2.2.2.2.2.2.1, hk_.1.2.2.2.2.2.2.2.2.1, hk_.1.2.2.2.2.2.2.2.2.2.1, hk_.1.2.2.2.2.2.2.2.2.2.2⟩)); replace HO_303004 := Aside0.mk (Kd.R_mono (ok' := fun k_ => some k_ ≠ (.slice Ao49 t292.length co49 : Value).ownBlock ∧ some k_ ≠ (.slice Ao53 t298.length co53 : Value).ownBlock ∧ some k_ ≠ (.slice Ao63 t371.length co63 : Value).ownBlock ∧ some k_ ≠ (.slice Ao64 t372.length co64 : Value).ownBlock ∧ some k_ ≠ (.slice Ao65 t373.length co65 : Value).ownBlock ∧ some k_ ≠ (.slice Ao75 t375.length co75 : Value).ownBlock ∧ some k_ ≠ (.slice Ao76 t376.length co76 : Value).ownBlock ∧ some k_ ≠ (.slice Ao77 t377.length co77 : Value).ownBlock ∧ some k_ ≠ (.slice Ao87 t332.length co87 : Value).ownBlock ∧ some k_ ≠ (.slice Ao88 t335.length co88 : Value).ownBlock ∧ some k_ ≠ (.slice Ao89 t338.length co89 : Value).ownBlock) (Kd.R_keptB (HO_303004.out) hkp (fun k_ hk_ hs_ => Or.elim hs_ (fun e_ => (hk_.2.2.2.2.2.2.2.2.1) e_) (fun e_ => Or.elim e_ (fun e_ => (hk_.2.2.2.2.2.2.2.2.2.1) e_) (fun e_ => (hk_.2.2.2.2.2.2.2.2.2.2) e_)))) (fun k_ hk_ => ⟨hk_.1.1, hk_.1.2.1, hk_.1.2.2.1, hk_.1.2.2.2.1, hk_.1.2.2.2.2.1, hk_.1.2.2.2.2.2.1, hk_.1.2.2.2.2.2.2.1, hk_.1.2.2.2.2.2.2.2.1, hk_.1.2.2.2.2.2.2.2.2.1, hk_.1.2.2.2.2.2.2.2.2.2.1, hk_.1.2.2.2.2.2.2.2.2.2.2⟩)); replace HO_303005 := Aside0.mk (Kd.R_mono (ok' := fun k_ => some k_ ≠ (.slice Ao49 t292.length co49 : Value).ownBlock ∧ some k_ ≠ (.slice Ao51 t295.length co51 : Value).ownBlock ∧ some k_ ≠ (.slice Ao63 t371.length co63 : Value).ownBlock ∧ some k_ ≠ (.slice Ao64 t372.length co64 : Value).ownBlock ∧ some k_ ≠ (.slice Ao65 t373.length co65 : Value).ownBlock ∧ some k_ ≠ (.slice Ao75 t375.length co75 : Value).ownBlock ∧ some k_ ≠ (.slice Ao76 t376.length co76 : Value).ownBlock ∧ some k_ ≠ (.slice Ao77 t377.length co77 : Value).ownBlock ∧ some k_ ≠ (.slice Ao87 t332.length co87 : Value).ownBlock ∧ some k_ ≠ (.slice Ao88 t335.length co88 : Value).ownBlock ∧ some k_ ≠ (.slice Ao89 t338.length co89 : Value).ownBlock) (Kd.R_keptB (HO_303005.out) hkp (fun k_ hk_ hs_ => Or.elim hs_ (fun e_ => (hk_.2.2.2.2.2.2.2.2.1) e_) (fun e_ => Or.elim e_ (fun e_ => (hk_.2.2.2.2.2.2.2.2.2.1) e_) (fun e_ => (hk_.2.2.2.2.2.2.2.2.2.2) e_)))) (fun k_ hk_ => ⟨hk_.1.1, hk_.1.2.1, hk_.1.2.2.1, hk_.1.2.2.2.1, hk_.1.2.2.2.2.1, hk_.1.2.2.2.2.2.1, hk_.1.2.2.2.2.2.2.1, hk_.1.2.2.2.2.2.2.2.1, hk_.1.2.2.2.2.2.2.2.2.1, hk_.1.2.2.2.2.2.2.2.2.2.1, hk_.1.2.2.2.2.2.2.2.2.2.2⟩)); replace HO_316003 := Aside0.mk (Kd.R_mono (ok' := fun k_ => some k_ ≠ (.slice Ao49 t292.length co49 : Value).ownBlock ∧ some k_ ≠ (.slice Ao51 t295.length co51 : Value).ownBlock ∧ some k_ ≠ (.slice Ao53 t298.length co53 : Value).ownBlock ∧ some k_ ≠ (.slice Ao64 t372.length co64 : Value).ownBlock ∧ some k_ ≠ (.slice Ao65 t373.length co65 : Value).ownBlock ∧ some k_ ≠ (.slice Ao75 t375.length co75 : Value).ownBlock ∧ some k_ ≠ (.slice Ao76 t376.length co76 : Value).ownBlock ∧ some k_ ≠ (.slice Ao77 t377.length co77 : Value).ownBlock ∧ some k_ ≠ (.slice Ao87 t332.length co87 : Value).ownBlock ∧ some k_ ≠ (.slice Ao88 t335.length co88 : Value).ownBlock ∧ some k_ ≠ (.slice Ao89 t338.length co89 : Value).ownBlock) (Kd.R_keptB (HO_316003.out) hkp (fun k_ hk_ hs_ => Or.elim hs_ (fun e_ => (hk_.2.2.2.2.2.2.2.2.1) e_) (fun e_ => Or.elim e_ (fun e_ => (hk_.2.2.2.2.2.2.2.2.2.1) e_) (fun e_ => (hk_.2.2.2.2.2.2.2.2.2.2) e_)))) (fun k_ hk_ => ⟨hk_.1.1, hk_.1.2.1, hk_.1.2.2.1, hk_.1.2.2.2.1, hk_.1.2.2.2.2.1, hk_.1.2.2.2.2.2.1, hk_.1.2.2.2.2.2.2.1, hk_.1.2.2.2.2.2.2.2.1, hk_.1.2.2.2.2.2.2.2.2.1, hk_.1.2.2.2.2.2.2.2.2.2.1, hk_.1.2.2.2.2.2.2.2.2.2.2⟩)); replace HO_316004 := Aside0.mk (Kd.R_mono (ok' := fun k_ => some k_ ≠ (.slice Ao49 t292.length co49 : Value).ownBlock ∧ some k_ ≠ (.slice Ao51 t295.length co51 : Value).ownBlock ∧ some k_ ≠ (.slice Ao53 t298.length co53 : Value).ownBlock ∧ some k_ ≠ (.slice Ao63 t371.length co63 : Value).ownBlock ∧ some k_ ≠ (.slice Ao65 t373.length co65 : Value).ownBlock ∧ some k_ ≠ (.slice Ao75 t375.length co75 : Value).ownBlock ∧ some k_ ≠ (.slice Ao76 t376.length co76 : Value).ownBlock ∧ some k_ ≠ (.slice Ao77 t377.length co77 : Value).ownBlock ∧ some k_ ≠ (.slice Ao87 t332.length co87 : Value).ownBlock ∧ some k_ ≠ (.slice Ao88 t335.length co88 : Value).ownBlock ∧ some k_ ≠ (.slice Ao89 t338.length co89 : Value).ownBlock) (Kd.R_keptB (HO_316004.out) hkp (fun k_ hk_ hs_ => Or.elim hs_ (fun e_ => (hk_.2.2.2.2.2.2.2.2.1) e_) (fun e_ => Or.elim e_ (fun e_ => (hk_.2.2.2.2.2.2.2.2.2.1) e_) (fun e_ => (hk_.2.2.2.2.2.2.2.2.2.2) e_)))) (fun k_ hk_ => ⟨hk_.1.1, hk_.1.2.1, hk_.1.2.2.1, hk_.1.2.2.2.1, hk_.1.2.2.2.2.1, hk_.1.2.2.2.2.2.1, hk_.1.2.2.2.2.2.2.1, hk_.1.2.2.2.2.2.2.2.1, hk_.1.2.2.2.2.2.2.2.2.1, hk_.1.2.2.2.2.2.2.2.2.2.1, hk_.1.2.2.2.2.2.2.2.2.2.2⟩)); replace HO_316005 := Aside0.mk (Kd.R_mono (ok' := fun k_ => some k_ ≠ (.slice Ao49 t292.length co49 : Value).ownBlock ∧ some k_ ≠ (.slice Ao51 t295.length co51 : Value).ownBlock ∧ some k_ ≠ (.slice Ao53 t298.length co53 : Value).ownBlock ∧ some k_ ≠ (.slice Ao63 t371.length co63 : Value).ownBlock ∧ some k_ ≠ (.slice Ao64 t372.length co64 : Value).ownBlock ∧ some k_ ≠ (.slice Ao75 t375.length co75 : Value).ownBlock ∧ some k_ ≠ (.slice Ao76 t376.length co76 : Value).ownBlock ∧ some k_ ≠ (.slice Ao77 t377.length co77 : Value).ownBlock ∧ some k_ ≠ (.slice Ao87 t332.length co87 : Value).ownBlock ∧ some k_ ≠ (.slice Ao88 t335.length co88 : Value).ownBlock ∧ some k_ ≠ (.slice Ao89 t338.length co89 : Value).ownBlock) (Kd.R_keptB (HO_316005.out) hkp (fun k_ hk_ hs_ => Or.elim hs_ (fun e_ => (hk_.2.2.2.2.2.2.2.2.1) e_) (fun e_ => Or.elim e_ (fun e_ => (hk_.2.2.2.2.2.2.2.2.2.1) e_) (fun e_ => (hk_.2.2.2.2.2.2.2.2.2.2) e_)))) (fun k_ hk_ => ⟨hk_.1.1, hk_.1.2.1, hk_.1.2.2.1, hk_.1.2.2.2.1, hk_.1.2.2.2.2.1, hk_.1.2.2.2.2.2.1, hk_.1.2.2.2.2.2.2.1, hk_.1.2.2.2.2.2.2.2.1, hk_.1.2.2.2.2.2.2.2.2.1, hk_.1.2.2.2.2.2.2.2.2.2.1, hk_.1.2.2.2.2.2.2.2.2.2.2⟩)); replace HO_329003 := Aside0.mk (Kd.R_mono (ok' := fun k_ => some k_ ≠ (.slice Ao49 t292.length co49 : Value).ownBlock ∧ some k_ ≠ (.slice Ao51 t295.length co51 : Value).ownBlock ∧ some k_ ≠ (.slice Ao53 t298.length co53 : Value).ownBlock ∧ some k_ ≠ (.slice Ao63 t371.length co63 : Value).ownBlock ∧ some k_ ≠ (.slice Ao64 t372.length co64 : Value).ownBlock ∧ some k_ ≠ (.slice Ao65 t373.length co65 : Value).ownBlock ∧ some k_ ≠ (.slice Ao76 t376.length co76 : Value).ownBlock ∧ some k_ ≠ (.slice Ao77 t377.length co77 : Value).ownBlock ∧ some k_ ≠ (.slice Ao87 t332.length co87 : Value).ownBlock ∧ some k_ ≠ (.slice Ao88 t335.length co88 : Value).ownBlock ∧ some k_ ≠ (.slice Ao89 t338.length co89 : Value).ownBlock) (Kd.R_keptB (HO_329003.out) hkp (fun k_ hk_ hs_ => Or.elim hs_ (fun e_ => (hk_.2.2.2.2.2.2.2.2.1) e_) (fun e_ => Or.elim e_ (fun e_ => (hk_.2.2.2.2.2.2.2.2.2.1) e_) (fun e_ => (hk_.2.2.2.2.2.2.2.2.2.2) e_)))) (fun k_ hk_ => ⟨hk_.1.1, hk_.1.2.1, hk_.1.2.2.1, hk_.1.2.2.2.1, hk_.1.2.2.2.2.1, hk_.1.2.2.2.2.2.1, hk_.1.2.2.2.2.2.2.1, hk_.1.2.2.2.2.2.2.2.1, hk_.1.2.2.2.2.2.2.2.2.1, hk_.1.2.2.2.2.2.2.2.2.2.1, hk_.1.2.2.2.2.2.2.2.2.2.2⟩)); replace HO_329004 := Aside0.mk (Kd.R_mono (ok' := fun k_ => some k_ ≠ (.slice Ao49 t292.length co49 : Value).ownBlock ∧ some k_ ≠ (.slice Ao51 t295.length co51 : Value).ownBlock ∧ some k_ ≠ (.slice Ao53 t298.length co53 : Value).ownBlock ∧ some k_ ≠ (.slice Ao63 t371.length co63 : Value).ownBlock ∧ some k_ ≠ (.slice Ao64 t372.length co64 : Value).ownBlock ∧ some k_ ≠ (.slice Ao65 t373.length co65 : Value).ownBlock ∧ some k_ ≠ (.slice Ao75 t375.length co75 : Value).ownBlock ∧ some k_ ≠ (.slice Ao77 t377.length co77 : Value).ownBlock ∧ some k_ ≠ (.slice Ao87 t332.length co87 : Value).ownBlock ∧ some k_ ≠ (.slice Ao88 t335.length co88 : Value).ownBlock ∧ some k_ ≠ (.slice Ao89 t338.length co89 : Value).ownBlock) (Kd.R_keptB (HO_329004.out) hkp (fun k_ hk_ hs_ => Or.elim hs_ (fun e_ => (hk_.2.2.2.2.2.2.2.2.1) e_) (fun e_ => Or.elim e_ (fun e_ => (hk_.2.2.2.2.2.2.2.2.2.1) e_) (fun e_ => (hk_.2.2.2.2.2.2.2.2.2.2) e_)))) (fun k_ hk_ => ⟨hk_.1.1, hk_.1.2.1, hk_.1.2.2.1, hk_.1.2.2.2.1, hk_.1.2.2.2.2.1, hk_.1.2.2.2.2.2.1, hk_.1.2.2.2.2.2.2.1, hk_.1.2.2.2.2.2.2.2.1, hk_.1.2.2.2.2.2.2.2.2.1, hk_.1.2.2.2.2.2.2.2.2.2.1, hk_.1.2.2.2.2.2.2.2.2.2.2⟩)); replace HO_329005 := Aside0.mk (Kd.R_mono (ok' := fun k_ => some k_ ≠ (.slice Ao49 t292.length co49 : Value).ownBlock ∧ some k_ ≠ (.slice Ao51 t295.length co51 : Value).ownBlock ∧ some k_ ≠ (.slice Ao53 t298.length co53 : Value).ownBlock ∧ some k_ ≠ (.slice Ao63 t371.length co63 : Value).ownBlock ∧ some k_ ≠ (.slice Ao64 t372.length co64 : Value).ownBlock ∧ some k_ ≠ (.slice Ao65 t373.length co65 : Value).ownBlock ∧ some k_ ≠ (.slice Ao75 t375.length co75 : Value).ownBlock ∧ some k_ ≠ (.slice Ao76 t376.length co76 : Value).ownBlock ∧ some k_ ≠ (.slice Ao87 t332.length co87 : Value).ownBlock ∧ some k_ ≠ (.slice Ao88 t335.length co88 : Value).ownBlock ∧ some k_ ≠ (.slice Ao89 t338.length co89 : Value).ownBlock) (Kd.R_keptB (HO_329005.out) hkp (fun k_ hk_ hs_ => Or.elim hs_ (fun e_ => (hk_.2.2.2.2.2.2.2.2.1) e_) (fun e_ => Or.elim e_ (fun e_ => (hk_.2.2.2.2.2.2.2.2.2.1) e_) (fun e_ => (hk_.2.2.2.2.2.2.2.2.2.2) e_)))) (fun k_ hk_ => ⟨hk_.1.1, hk_.1.2.1, hk_.1.2.2.1, hk_.1.2.2.2.1, hk_.1.2.2.2.2.1, hk_.1.2.2.2.2.2.1, hk_.1.2.2.2.2.2.2.1, hk_.1.2.2.2.2.2.2.2.1, hk_.1.2.2.2.2.2.2.2.2.1, hk_.1.2.2.2.2.2.2.2.2.2.1, hk_.1.2.2.2.2.2.2.2.2.2.2⟩)); replace BK261 := Aside0.mk (blk_kept (rBx9 BK261.out) hkp (fun hs_ => Or.elim hs_ (fun e_ => (fun e_ => (Kd.R_ne HO_343003.out BK261.out (by decide)) e_) e_) (fun e_ => Or.elim e_ (fun e_ => (fun e_ => (Kd.R_ne HO_343004.out BK261.out (by decide)) e_) e_) (fun e_ => (fun e_ => (Kd.R_ne HO_343005.out BK261.out (by decide)) e_) e_)))); replace BK262 := Aside0.mk (blk_kept (rBx9 BK262.out) hkp (fun hs_ => Or.elim hs_ (fun e_ => (fun e_ => (Kd.R_ne HO_343003.out BK262.out (by decide)) e_) e_) (fun e_ => Or.elim e_ (fun e_ => (fun e_ => (Kd.R_ne HO_343004.out BK262.out (by decide)) e_) e_) (fun e_ => (fun e_ => (Kd.R_ne HO_343005.out BK262.out (by decide)) e_) e_)))); replace BK302 := Aside0.mk (blk_kept (rBx9 BK302.out) hkp (fun hs_ => Or.elim hs_ (fun e_ => (fun e_ => (Kd.R_ne HO_343003.out BK302.out (by decide)) e_) e_) (fun e_ => Or.elim e_ (fun e_ => (fun e_ => (Kd.R_ne HO_343004.out BK302.out (by decide)) e_) e_) (fun e_ => (fun e_ => (Kd.R_ne HO_343005.out BK302.out (by decide)) e_) e_)))); replace BK315 := Aside0.mk (blk_kept (rBx9 BK315.out) hkp (fun hs_ => Or.elim hs_ (fun e_ => (fun e_ => (Kd.R_ne HO_343003.out BK315.out (by decide)) e_) e_) (fun e_ => Or.elim e_ (fun e_ => (fun e_ => (Kd.R_ne HO_343004.out BK315.out (by decide)) e_) e_) (fun e_ => (fun e_ => (Kd.R_ne HO_343005.out BK315.out (by decide)) e_) e_)))); replace BK328 := Aside0.mk (blk_kept (rBx9 BK328.out) hkp (fun hs_ => Or.elim hs_ (fun e_ => (fun e_ => (Kd.R_ne HO_343003.out BK328.out (by decide)) e_) e_) (fun e_ => Or.elim e_ (fun e_ => (fun e_ => (Kd.R_ne HO_343004.out BK328.out (by decide)) e_) e_) (fun e_ => (fun e_ => (Kd.R_ne HO_343005.out BK328.out (by decide)) e_) e_)))); replace BK342 := Aside0.mk (blk_kept (rBx9 BK342.out) hkp (fun hs_ => Or.elim hs_ (fun e_ => (fun e_ => (Kd.R_ne HO_343003.out BK342.out (by decide)) e_) e_) (fun e_ => Or.elim e_ (fun e_ => (fun e_ => (Kd.R_ne HO_343004.out BK342.out (by decide)) e_) e_) (fun e_ => (fun e_ => (Kd.R_ne HO_343005.out BK342.out (by decide)) e_) e_)))); replace HO_343003 := Aside0.mk (Kd.R_reok rfl hy0 (fun k_ e_ => HO_343003.out.1 k_ e_)); replace HO_343004 := Aside0.mk (Kd.R_reok rfl hy1 (fun k_ e_ => HO_343004.out.1 k_ e_)); replace HO_343005 := Aside0.mk (Kd.R_reok rfl hy2 (fun k_ e_ => HO_343005.out.1 k_ e_)); replace HB := Aside0.mk (hb); (try clear hb); (try clear hkp); (try clear hy0); (try clear hy1); (try clear hy2); obtain ⟨hcz191_0, hcz191_1, hcz191_2, hcz191_3, hcz191_4, hcz191_5, hfz191_0, hfz191_1, hfz191_2, hfz191_3, hfz191_4, hfz191_5⟩ := cf6x9 BK342.out) | ((with_reducible refine gate_callee (f := 42) rfl ?_); refine goesL_ (some 92) rfl rfl Try.func42 (by kernel_rfl) rfl #[.agg #[.int .i64 t329, .int .i64 t330, .int .i64 t331, .slice Ao87 t380.length co87, .slice Ao88 t381.length co88, .slice Ao89 t382.length co89], .int .i64 1] rfl (by (try simp only [List.map_toArray, List.map_cons, List.map_nil]); first | done | (rw [show t380.length = t332.length from (Kd.R_reads' HO_343003.out).1.symm, show t381.length = t335.length from (Kd.R_reads' HO_343004.out).1.symm, show t382.length = t338.length from (Kd.R_reads' HO_343005.out).1.symm] <;> rfl) | rfl | (simp only [List.length_drop, List.length_take]; rfl)) ?_; (with_reducible refine (laws_heldModel.calls kj138 t329 t330 t331 _ _ t380 _ _ t381 _ _ t382 1 t383 _ ?side1 ?side2 ?side3 ?side4 ?side5 ?side6 A182.out).mono ?_); (case side1 => exact cRx9 HO_343003.out); (case side2 => rw [show t380.length = t332.length from (Kd.R_reads' HO_343003.out).1.symm]; exact (Kd.R_reads' HO_343003.out).2.1); (case side3 => exact cRx9 HO_343004.out); (case side4 => rw [show t381.length = t335.length from (Kd.R_reads' HO_343004.out).1.symm]; exact (Kd.R_reads' HO_343004.out).2.1); (case side5 => exact cRx9 HO_343005.out); (case side6 => rw [show t382.length = t338.length from (Kd.R_reads' HO_343005.out).1.symm]; exact (Kd.R_reads' HO_343005.out).2.1); rintro e w192 ⟨rfl, hb⟩; refine ⟨_, rfl, ?_⟩; replace HO_303003 := Aside0.mk (Kd.R_below (rRx9 HO_303003.out) hb); replace HO_303004 := Aside0.mk (Kd.R_below (rRx9 HO_303004.out) hb); replace HO_303005 := Aside0.mk (Kd.R_below (rRx9 HO_303005.out) hb); replace HO_316003 := Aside0.mk (Kd.R_below (rRx9 HO_316003.out) hb); replace HO_316004 := Aside0.mk (Kd.R_below (rRx9 HO_316004.out) hb); replace HO_316005 := Aside0.mk (Kd.R_below (rRx9 HO_316005.out) hb); replace HO_329003 := Aside0.mk (Kd.R_below (rRx9 HO_329003.out) hb); replace HO_329004 := Aside0.mk (Kd.R_below (rRx9 HO_329004.out) hb); replace HO_329005 := Aside0.mk (Kd.R_below (rRx9 HO_329005.out) hb); replace HO_343003 := Aside0.mk (Kd.R_below (rRx9 HO_343003.out) hb); replace HO_343004 := Aside0.mk (Kd.R_below (rRx9 HO_343004.out) hb); replace HO_343005 := Aside0.mk (Kd.R_below (rRx9 HO_343005.out) hb); replace BK261 := Aside0.mk (blk_below (rBx9 BK261.out) hb); replace BK262 := Aside0.mk (blk_below (rBx9 BK262.out) hb); replace BK302 := Aside0.mk (blk_below (rBx9 BK302.out) hb); replace BK315 := Aside0.mk (blk_below (rBx9 BK315.out) hb); replace BK328 := Aside0.mk (blk_below (rBx9 BK328.out) hb); replace BK342 := Aside0.mk (blk_below (rBx9 BK342.out) hb); replace HB := Aside0.mk (below_step (be6x9 HB.out GE261.out GE262.out GE302.out GE315.out GE328.out GE342.out) hb); (try clear hb); (try clear hb2); (try clear hk); (try clear hi)))
   (try simp only [Act.put, List.setIfInBounds_toArray, List.set_cons_zero, List.set_cons_succ])
   go_cut [] (fun wc => ∃ (kq : Nat), Aside0 (laws_FnExactMixModels.j4 kq a2 t301 t379 t383 a0_0 a0_1 a0_2 l0_3 l0_4 l0_5 a1_0 a1_1 a1_2 l1_3 l1_4 l1_5 t289 t290 t291 t292 t295 t298 t329 t330 t331 t380 t381 t382 = some r) ∧ Aside0 (kq ≤ kj138) ∧ Aside0 (Kd.R (Kd.int .i64) 3 wc w.heap.size (fun k_ => some k_ ≠ ((.slice Ao51 t295.length co51) : Value).ownBlock ∧ some k_ ≠ ((.slice Ao53 t298.length co53) : Value).ownBlock ∧ some k_ ≠ ((.slice Ao63 t371.length co63) : Value).ownBlock ∧ some k_ ≠ ((.slice Ao64 t372.length co64) : Value).ownBlock ∧ some k_ ≠ ((.slice Ao65 t373.length co65) : Value).ownBlock ∧ some k_ ≠ ((.slice Ao75 t375.length co75) : Value).ownBlock ∧ some k_ ≠ ((.slice Ao76 t376.length co76) : Value).ownBlock ∧ some k_ ≠ ((.slice Ao77 t377.length co77) : Value).ownBlock ∧ some k_ ≠ ((.slice Ao87 t332.length co87) : Value).ownBlock ∧ some k_ ≠ ((.slice Ao88 t335.length co88) : Value).ownBlock ∧ some k_ ≠ ((.slice Ao89 t338.length co89) : Value).ownBlock) (.slice Ao49 t292.length co49) t292) ∧ Aside0 (Kd.R (Kd.int .i64) 3 wc w.heap.size (fun k_ => some k_ ≠ ((.slice Ao49 t292.length co49) : Value).ownBlock ∧ some k_ ≠ ((.slice Ao53 t298.length co53) : Value).ownBlock ∧ some k_ ≠ ((.slice Ao63 t371.length co63) : Value).ownBlock ∧ some k_ ≠ ((.slice Ao64 t372.length co64) : Value).ownBlock ∧ some k_ ≠ ((.slice Ao65 t373.length co65) : Value).ownBlock ∧ some k_ ≠ ((.slice Ao75 t375.length co75) : Value).ownBlock ∧ some k_ ≠ ((.slice Ao76 t376.length co76) : Value).ownBlock ∧ some k_ ≠ ((.slice Ao77 t377.length co77) : Value).ownBlock ∧ some k_ ≠ ((.slice Ao87 t332.length co87) : Value).ownBlock ∧ some k_ ≠ ((.slice Ao88 t335.length co88) : Value).ownBlock ∧ some k_ ≠ ((.slice Ao89 t338.length co89) : Value).ownBlock) (.slice Ao51 t295.length co51) t295) ∧ Aside0 (Kd.R (Kd.int .i64) 3 wc w.heap.size (fun k_ => some k_ ≠ ((.slice Ao49 t292.length co49) : Value).ownBlock ∧ some k_ ≠ ((.slice Ao51 t295.length co51) : Value).ownBlock ∧ some k_ ≠ ((.slice Ao63 t371.length co63) : Value).ownBlock ∧ some k_ ≠ ((.slice Ao64 t372.length co64) : Value).ownBlock ∧ some k_ ≠ ((.slice Ao65 t373.length co65) : Value).ownBlock ∧ some k_ ≠ ((.slice Ao75 t375.length co75) : Value).ownBlock ∧ some k_ ≠ ((.slice Ao76 t376.length co76) : Value).ownBlock ∧ some k_ ≠ ((.slice Ao77 t377.length co77) : Value).ownBlock ∧ some k_ ≠ ((.slice Ao87 t332.length co87) : Value).ownBlock ∧ some k_ ≠ ((.slice Ao88 t335.length co88) : Value).ownBlock ∧ some k_ ≠ ((.slice Ao89 t338.length co89) : Value).ownBlock) (.slice Ao53 t298.length co53) t298) ∧ Aside0 (Kd.R (Kd.int .i64) 3 wc w.heap.size (fun k_ => some k_ ≠ ((.slice Ao49 t292.length co49) : Value).ownBlock ∧ some k_ ≠ ((.slice Ao51 t295.length co51) : Value).ownBlock ∧ some k_ ≠ ((.slice Ao53 t298.length co53) : Value).ownBlock ∧ some k_ ≠ ((.slice Ao64 t372.length co64) : Value).ownBlock ∧ some k_ ≠ ((.slice Ao65 t373.length co65) : Value).ownBlock ∧ some k_ ≠ ((.slice Ao75 t375.length co75) : Value).ownBlock ∧ some k_ ≠ ((.slice Ao76 t376.length co76) : Value).ownBlock ∧ some k_ ≠ ((.slice Ao77 t377.length co77) : Value).ownBlock ∧ some k_ ≠ ((.slice Ao87 t332.length co87) : Value).ownBlock ∧ some k_ ≠ ((.slice Ao88 t335.length co88) : Value).ownBlock ∧ some k_ ≠ ((.slice Ao89 t338.length co89) : Value).ownBlock) (.slice Ao63 t371.length co63) t371) ∧ Aside0 (Kd.R (Kd.int .i64) 3 wc w.heap.size (fun k_ => some k_ ≠ ((.slice Ao49 t292.length co49) : Value).ownBlock ∧ some k_ ≠ ((.slice Ao51 t295.length co51) : Value).ownBlock ∧ some k_ ≠ ((.slice Ao53 t298.length co53) : Value).ownBlock ∧ some k_ ≠ ((.slice Ao63 t371.length co63) : Value).ownBlock ∧ some k_ ≠ ((.slice Ao65 t373.length co65) : Value).ownBlock ∧ some k_ ≠ ((.slice Ao75 t375.length co75) : Value).ownBlock ∧ some k_ ≠ ((.slice Ao76 t376.length co76) : Value).ownBlock ∧ some k_ ≠ ((.slice Ao77 t377.length co77) : Value).ownBlock ∧ some k_ ≠ ((.slice Ao87 t332.length co87) : Value).ownBlock ∧ some k_ ≠ ((.slice Ao88 t335.length co88) : Value).ownBlock ∧ some k_ ≠ ((.slice Ao89 t338.length co89) : Value).ownBlock) (.slice Ao64 t372.length co64) t372) ∧ Aside0 (Kd.R (Kd.int .i64) 3 wc w.heap.size (fun k_ => some k_ ≠ ((.slice Ao49 t292.length co49) : Value).ownBlock ∧ some k_ ≠ ((.slice Ao51 t295.length co51) : Value).ownBlock ∧ some k_ ≠ ((.slice Ao53 t298.length co53) : Value).ownBlock ∧ some k_ ≠ ((.slice Ao63 t371.length co63) : Value).ownBlock ∧ some k_ ≠ ((.slice Ao64 t372.length co64) : Value).ownBlock ∧ some k_ ≠ ((.slice Ao75 t375.length co75) : Value).ownBlock ∧ some k_ ≠ ((.slice Ao76 t376.length co76) : Value).ownBlock ∧ some k_ ≠ ((.slice Ao77 t377.length co77) : Value).ownBlock ∧ some k_ ≠ ((.slice Ao87 t332.length co87) : Value).ownBlock ∧ some k_ ≠ ((.slice Ao88 t335.length co88) : Value).ownBlock ∧ some k_ ≠ ((.slice Ao89 t338.length co89) : Value).ownBlock) (.slice Ao65 t373.length co65) t373) ∧ Aside0 (Kd.R (Kd.int .i64) 3 wc w.heap.size (fun k_ => some k_ ≠ ((.slice Ao49 t292.length co49) : Value).ownBlock ∧ some k_ ≠ ((.slice Ao51 t295.length co51) : Value).ownBlock ∧ some k_ ≠ ((.slice Ao53 t298.length co53) : Value).ownBlock ∧ some k_ ≠ ((.slice Ao63 t371.length co63) : Value).ownBlock ∧ some k_ ≠ ((.slice Ao64 t372.length co64) : Value).ownBlock ∧ some k_ ≠ ((.slice Ao65 t373.length co65) : Value).ownBlock ∧ some k_ ≠ ((.slice Ao76 t376.length co76) : Value).ownBlock ∧ some k_ ≠ ((.slice Ao77 t377.length co77) : Value).ownBlock ∧ some k_ ≠ ((.slice Ao87 t332.length co87) : Value).ownBlock ∧ some k_ ≠ ((.slice Ao88 t335.length co88) : Value).ownBlock ∧ some k_ ≠ ((.slice Ao89 t338.length co89) : Value).ownBlock) (.slice Ao75 t375.length co75) t375) ∧ Aside0 (Kd.R (Kd.int .i64) 3 wc w.heap.size (fun k_ => some k_ ≠ ((.slice Ao49 t292.length co49) : Value).ownBlock ∧ some k_ ≠ ((.slice Ao51 t295.length co51) : Value).ownBlock ∧ some k_ ≠ ((.slice Ao53 t298.length co53) : Value).ownBlock ∧ some k_ ≠ ((.slice Ao63 t371.length co63) : Value).ownBlock ∧ some k_ ≠ ((.slice Ao64 t372.length co64) : Value).ownBlock ∧ some k_ ≠ ((.slice Ao65 t373.length co65) : Value).ownBlock ∧ some k_ ≠ ((.slice Ao75 t375.length co75) : Value).ownBlock ∧ some k_ ≠ ((.slice Ao77 t377.length co77) : Value).ownBlock ∧ some k_ ≠ ((.slice Ao87 t332.length co87) : Value).ownBlock ∧ some k_ ≠ ((.slice Ao88 t335.length co88) : Value).ownBlock ∧ some k_ ≠ ((.slice Ao89 t338.length co89) : Value).ownBlock) (.slice Ao76 t376.length co76) t376) ∧ Aside0 (Kd.R (Kd.int .i64) 3 wc w.heap.size (fun k_ => some k_ ≠ ((.slice Ao49 t292.length co49) : Value).ownBlock ∧ some k_ ≠ ((.slice Ao51 t295.length co51) : Value).ownBlock ∧ some k_ ≠ ((.slice Ao53 t298.length co53) : Value).ownBlock ∧ some k_ ≠ ((.slice Ao63 t371.length co63) : Value).ownBlock ∧ some k_ ≠ ((.slice Ao64 t372.length co64) : Value).ownBlock ∧ some k_ ≠ ((.slice Ao65 t373.length co65) : Value).ownBlock ∧ some k_ ≠ ((.slice Ao75 t375.length co75) : Value).ownBlock ∧ some k_ ≠ ((.slice Ao76 t376.length co76) : Value).ownBlock ∧ some k_ ≠ ((.slice Ao87 t332.length co87) : Value).ownBlock ∧ some k_ ≠ ((.slice Ao88 t335.length co88) : Value).ownBlock ∧ some k_ ≠ ((.slice Ao89 t338.length co89) : Value).ownBlock) (.slice Ao77 t377.length co77) t377) ∧ Aside0 (Kd.R (Kd.int .i64) 3 wc w.heap.size (fun k_ => some k_ ≠ ((.slice Ao49 t292.length co49) : Value).ownBlock ∧ some k_ ≠ ((.slice Ao51 t295.length co51) : Value).ownBlock ∧ some k_ ≠ ((.slice Ao53 t298.length co53) : Value).ownBlock ∧ some k_ ≠ ((.slice Ao63 t371.length co63) : Value).ownBlock ∧ some k_ ≠ ((.slice Ao64 t372.length co64) : Value).ownBlock ∧ some k_ ≠ ((.slice Ao65 t373.length co65) : Value).ownBlock ∧ some k_ ≠ ((.slice Ao75 t375.length co75) : Value).ownBlock ∧ some k_ ≠ ((.slice Ao76 t376.length co76) : Value).ownBlock ∧ some k_ ≠ ((.slice Ao77 t377.length co77) : Value).ownBlock ∧ some k_ ≠ ((.slice Ao88 t335.length co88) : Value).ownBlock ∧ some k_ ≠ ((.slice Ao89 t338.length co89) : Value).ownBlock) (.slice Ao87 t332.length co87) t380) ∧ Aside0 (Kd.R (Kd.int .i64) 3 wc w.heap.size (fun k_ => some k_ ≠ ((.slice Ao49 t292.length co49) : Value).ownBlock ∧ some k_ ≠ ((.slice Ao51 t295.length co51) : Value).ownBlock ∧ some k_ ≠ ((.slice Ao53 t298.length co53) : Value).ownBlock ∧ some k_ ≠ ((.slice Ao63 t371.length co63) : Value).ownBlock ∧ some k_ ≠ ((.slice Ao64 t372.length co64) : Value).ownBlock ∧ some k_ ≠ ((.slice Ao65 t373.length co65) : Value).ownBlock ∧ some k_ ≠ ((.slice Ao75 t375.length co75) : Value).ownBlock ∧ some k_ ≠ ((.slice Ao76 t376.length co76) : Value).ownBlock ∧ some k_ ≠ ((.slice Ao77 t377.length co77) : Value).ownBlock ∧ some k_ ≠ ((.slice Ao87 t332.length co87) : Value).ownBlock ∧ some k_ ≠ ((.slice Ao89 t338.length co89) : Value).ownBlock) (.slice Ao88 t335.length co88) t381) ∧ Aside0 (Kd.R (Kd.int .i64) 3 wc w.heap.size (fun k_ => some k_ ≠ ((.slice Ao49 t292.length co49) : Value).ownBlock ∧ some k_ ≠ ((.slice Ao51 t295.length co51) : Value).ownBlock ∧ some k_ ≠ ((.slice Ao53 t298.length co53) : Value).ownBlock ∧ some k_ ≠ ((.slice Ao63 t371.length co63) : Value).ownBlock ∧ some k_ ≠ ((.slice Ao64 t372.length co64) : Value).ownBlock ∧ some k_ ≠ ((.slice Ao65 t373.length co65) : Value).ownBlock ∧ some k_ ≠ ((.slice Ao75 t375.length co75) : Value).ownBlock ∧ some k_ ≠ ((.slice Ao76 t376.length co76) : Value).ownBlock ∧ some k_ ≠ ((.slice Ao77 t377.length co77) : Value).ownBlock ∧ some k_ ≠ ((.slice Ao87 t332.length co87) : Value).ownBlock ∧ some k_ ≠ ((.slice Ao88 t335.length co88) : Value).ownBlock) (.slice Ao89 t338.length co89) t382) ∧ Aside0 (wc.heap[gb261]? = some (.cells #[.int .i64 a0_0, .int .i64 a0_1, .int .i64 a0_2, (.slice A0_3 l0_3.length c0_3), (.slice A0_4 l0_4.length c0_4), (.slice A0_5 l0_5.length c0_5)] 26 (0, 0))) ∧ Aside0 (wc.heap[gb262]? = some (.cells #[.int .i64 a1_0, .int .i64 a1_1, .int .i64 a1_2, (.slice A1_3 l1_3.length c1_3), (.slice A1_4 l1_4.length c1_4), (.slice A1_5 l1_5.length c1_5)] 26 (0, 0))) ∧ Aside0 (wc.heap[gb302]? = some (.cells #[.int .i64 t289, .int .i64 t290, .int .i64 t291, (.slice Ao49 t292.length co49), (.slice Ao51 t295.length co51), (.slice Ao53 t298.length co53)] 41 (0, 0))) ∧ Aside0 (wc.heap[gb315]? = some (.cells #[.int .i64 t303, .int .i64 t304, .int .i64 t305, (.slice Ao63 t371.length co63), (.slice Ao64 t372.length co64), (.slice Ao65 t373.length co65)] 41 (0, 0))) ∧ Aside0 (wc.heap[gb328]? = some (.cells #[.int .i64 t316, .int .i64 t317, .int .i64 t318, (.slice Ao75 t375.length co75), (.slice Ao76 t376.length co76), (.slice Ao77 t377.length co77)] 41 (0, 0))) ∧ Aside0 (wc.heap[gb342]? = some (.cells #[.int .i64 t329, .int .i64 t330, .int .i64 t331, (.slice Ao87 t332.length co87), (.slice Ao88 t335.length co88), (.slice Ao89 t338.length co89)] 41 (0, 0))) ∧ Aside0 (Below w.heap.size w wc))
   case first =>
    have H := HC183.out
    clear HC183
    by_cases c193 : t383 < 0
    ·rw [if_pos c193] at H
     have c193b0 : decide (t383 < 0) = true := decide_eq_true c193
     clear c193
     (first | rw [c193b0] | (simp only [i64_w, i32_w]; rw [c193b0]) | skip)
     obtain rfl := Option.some.inj H
     go_wp2
     go_ret
     exact ⟨by first | rfl | (simp [errW_none, errW_some] <;> rfl) | (simp [*, errW_none, errW_some] <;> rfl), be6x9 HB.out GE261.out GE262.out GE302.out GE315.out GE328.out GE342.out⟩
    ·rw [if_neg c193] at H
     have c193b0 : decide (t383 < 0) = false := decide_eq_false c193
     clear c193
     (first | rw [c193b0] | (simp only [i64_w, i32_w]; rw [c193b0]) | skip)
     have H' := Aside0.mk H
     clear H
     go_wp2
     go_meet
     case rel => exact ⟨_, H', ⟨by have := HJ25.out; have := HJ118.out; have := HJ128.out; have := HJ138.out; first | omega | exact Nat.le_refl _⟩, ⟨by (try simp only [hl316003_138, hl316004_138, hl316005_138, hl329003_138, hl329004_138, hl329005_138]); (with_reducible repeat (first | apply Kd.R_alloc | apply Kd.R_drewN | apply Kd.R_drew)); exact HO_303003.out⟩, ⟨by (try simp only [hl316003_138, hl316004_138, hl316005_138, hl329003_138, hl329004_138, hl329005_138]); (with_reducible repeat (first | apply Kd.R_alloc | apply Kd.R_drewN | apply Kd.R_drew)); exact HO_303004.out⟩, ⟨by (try simp only [hl316003_138, hl316004_138, hl316005_138, hl329003_138, hl329004_138, hl329005_138]); (with_reducible repeat (first | apply Kd.R_alloc | apply Kd.R_drewN | apply Kd.R_drew)); exact HO_303005.out⟩, ⟨by (try simp only [hl316003_138, hl316004_138, hl316005_138, hl329003_138, hl329004_138, hl329005_138]); (with_reducible repeat (first | apply Kd.R_alloc | apply Kd.R_drewN | apply Kd.R_drew)); exact HO_316003.out⟩, ⟨by (try simp only [hl316003_138, hl316004_138, hl316005_138, hl329003_138, hl329004_138, hl329005_138]); (with_reducible repeat (first | apply Kd.R_alloc | apply Kd.R_drewN | apply Kd.R_drew)); exact HO_316004.out⟩, ⟨by (try simp only [hl316003_138, hl316004_138, hl316005_138, hl329003_138, hl329004_138, hl329005_138]); (with_reducible repeat (first | apply Kd.R_alloc | apply Kd.R_drewN | apply Kd.R_drew)); exact HO_316005.out⟩, ⟨by (try simp only [hl316003_138, hl316004_138, hl316005_138, hl329003_138, hl329004_138, hl329005_138]); (with_reducible repeat (first | apply Kd.R_alloc | apply Kd.R_drewN | apply Kd.R_drew)); exact HO_329003.out⟩, ⟨by (try simp only [hl316003_138, hl316004_138, hl316005_138, hl329003_138, hl329004_138, hl329005_138]); (with_reducible repeat (first | apply Kd.R_alloc | apply Kd.R_drewN | apply Kd.R_drew)); exact HO_329004.out⟩, ⟨by (try simp only [hl316003_138, hl316004_138, hl316005_138, hl329003_138, hl329004_138, hl329005_138]); (with_reducible repeat (first | apply Kd.R_alloc | apply Kd.R_drewN | apply Kd.R_drew)); exact HO_329005.out⟩, ⟨by (try simp only [hl316003_138, hl316004_138, hl316005_138, hl329003_138, hl329004_138, hl329005_138]); (with_reducible repeat (first | apply Kd.R_alloc | apply Kd.R_drewN | apply Kd.R_drew)); exact HO_343003.out⟩, ⟨by (try simp only [hl316003_138, hl316004_138, hl316005_138, hl329003_138, hl329004_138, hl329005_138]); (with_reducible repeat (first | apply Kd.R_alloc | apply Kd.R_drewN | apply Kd.R_drew)); exact HO_343004.out⟩, ⟨by (try simp only [hl316003_138, hl316004_138, hl316005_138, hl329003_138, hl329004_138, hl329005_138]); (with_reducible repeat (first | apply Kd.R_alloc | apply Kd.R_drewN | apply Kd.R_drew)); exact HO_343005.out⟩, ⟨by (try simp only [hl316003_138, hl316004_138, hl316005_138, hl329003_138, hl329004_138, hl329005_138]); (with_reducible repeat (first | refine blk_drewN ?_ _ | refine blk_drew ?_ | refine blk_alloc ?_ _)); exact BK261.out⟩, ⟨by (try simp only [hl316003_138, hl316004_138, hl316005_138, hl329003_138, hl329004_138, hl329005_138]); (with_reducible repeat (first | refine blk_drewN ?_ _ | refine blk_drew ?_ | refine blk_alloc ?_ _)); exact BK262.out⟩, ⟨by (try simp only [hl316003_138, hl316004_138, hl316005_138, hl329003_138, hl329004_138, hl329005_138]); (with_reducible repeat (first | refine blk_drewN ?_ _ | refine blk_drew ?_ | refine blk_alloc ?_ _)); exact BK302.out⟩, ⟨by (try simp only [hl316003_138, hl316004_138, hl316005_138, hl329003_138, hl329004_138, hl329005_138]); (with_reducible repeat (first | refine blk_drewN ?_ _ | refine blk_drew ?_ | refine blk_alloc ?_ _)); exact BK315.out⟩, ⟨by (try simp only [hl316003_138, hl316004_138, hl316005_138, hl329003_138, hl329004_138, hl329005_138]); (with_reducible repeat (first | refine blk_drewN ?_ _ | refine blk_drew ?_ | refine blk_alloc ?_ _)); exact BK328.out⟩, ⟨by (try simp only [hl316003_138, hl316004_138, hl316005_138, hl329003_138, hl329004_138, hl329005_138]); (with_reducible repeat (first | refine blk_drewN ?_ _ | refine blk_drew ?_ | refine blk_alloc ?_ _)); exact BK342.out⟩, ⟨be6x9 HB.out GE261.out GE262.out GE302.out GE315.out GE328.out GE342.out⟩⟩
   case rest =>
    clear HC183
    try clear c180; try clear c193; try clear c193b0; try clear hcz189_0 hcz189_1 hcz189_2 hcz189_3 hcz189_4 hcz189_5; try clear hcz191_0 hcz191_1 hcz191_2 hcz191_3 hcz191_4 hcz191_5; try clear hfz189_0 hfz189_1 hfz189_2 hfz189_3 hfz189_4 hfz189_5; try clear hfz191_0 hfz191_1 hfz191_2 hfz191_3 hfz191_4 hfz191_5
    obtain ⟨kq, HA, HJ182, HO_303003, HO_303004, HO_303005, HO_316003, HO_316004, HO_316005, HO_329003, HO_329004, HO_329005, HO_343003, HO_343004, HO_343005, BK261, BK262, BK302, BK315, BK328, BK342, HB⟩ := hcut
    have hl343003_182 := (Kd.R_reads' HO_343003.out).1
    rw [hl343003_182] at HO_343003
    (try simp only [hl343003_182])
    (try simp only [hl343003_182] at BK261)
    (try simp only [hl343003_182] at BK262)
    (try simp only [hl343003_182] at BK302)
    (try simp only [hl343003_182] at BK315)
    (try simp only [hl343003_182] at BK328)
    (try simp only [hl343003_182] at BK342)
    (try simp only [hl343003_182] at HO_303003)
    (try simp only [hl343003_182] at HO_303004)
    (try simp only [hl343003_182] at HO_303005)
    (try simp only [hl343003_182] at HO_316003)
    (try simp only [hl343003_182] at HO_316004)
    (try simp only [hl343003_182] at HO_316005)
    (try simp only [hl343003_182] at HO_329003)
    (try simp only [hl343003_182] at HO_329004)
    (try simp only [hl343003_182] at HO_329005)
    (try simp only [hl343003_182] at HO_343004)
    (try simp only [hl343003_182] at HO_343005)
    have hl343004_182 := (Kd.R_reads' HO_343004.out).1
    rw [hl343004_182] at HO_343004
    (try simp only [hl343004_182])
    (try simp only [hl343004_182] at BK261)
    (try simp only [hl343004_182] at BK262)
    (try simp only [hl343004_182] at BK302)
    (try simp only [hl343004_182] at BK315)
    (try simp only [hl343004_182] at BK328)
    (try simp only [hl343004_182] at BK342)
    (try simp only [hl343004_182] at HO_303003)
    (try simp only [hl343004_182] at HO_303004)
    (try simp only [hl343004_182] at HO_303005)
    (try simp only [hl343004_182] at HO_316003)
    (try simp only [hl343004_182] at HO_316004)
    (try simp only [hl343004_182] at HO_316005)
    (try simp only [hl343004_182] at HO_329003)
    (try simp only [hl343004_182] at HO_329004)
    (try simp only [hl343004_182] at HO_329005)
    (try simp only [hl343004_182] at HO_343003)
    (try simp only [hl343004_182] at HO_343005)
    have hl343005_182 := (Kd.R_reads' HO_343005.out).1
    rw [hl343005_182] at HO_343005
    (try simp only [hl343005_182])
    (try simp only [hl343005_182] at BK261)
    (try simp only [hl343005_182] at BK262)
    (try simp only [hl343005_182] at BK302)
    (try simp only [hl343005_182] at BK315)
    (try simp only [hl343005_182] at BK328)
    (try simp only [hl343005_182] at BK342)
    (try simp only [hl343005_182] at HO_303003)
    (try simp only [hl343005_182] at HO_303004)
    (try simp only [hl343005_182] at HO_303005)
    (try simp only [hl343005_182] at HO_316003)
    (try simp only [hl343005_182] at HO_316004)
    (try simp only [hl343005_182] at HO_316005)
    (try simp only [hl343005_182] at HO_329003)
    (try simp only [hl343005_182] at HO_329004)
    (try simp only [hl343005_182] at HO_329005)
    (try simp only [hl343005_182] at HO_343003)
    (try simp only [hl343005_182] at HO_343004)
    cases kq with
    | zero => exact absurd HA.out (by simp [laws_FnExactMixModels.j4])
    | succ kj182 =>
     have H := HA.out
     clear HA
     simp only [laws_FnExactMixModels.j4] at H
     by_cases c194 : t383 = t379
     ·rw [if_pos c194] at H
      have c194b0 : (t383 == t379) = true := beq_iff_eq.mpr c194
      have c194b1 : (t383 != t379) = false := bne_eq_false_iff_eq.mpr c194
      clear c194
      replace H := Option.bind_eq_some_iff.mp H
      obtain ⟨⟨t384, t385, t386, t387, t390, t393⟩, A1950, H⟩ := H
      (try dsimp only at H)
      have A195 := Aside0.mk A1950
      clear A1950
      replace H := Option.bind_eq_some_iff.mp H
      obtain ⟨⟨t396, t397, t398, t399, t402, t405⟩, A1960, H⟩ := H
      (try dsimp only at H)
      have A196 := Aside0.mk A1960
      clear A1960
      replace H := Option.bind_eq_some_iff.mp H
      obtain ⟨⟨t408, t409, t410, t411, t414, t417, t420⟩, A1970, H⟩ := H
      (try dsimp only at H)
      have A197 := Aside0.mk A1970
      clear A1970
      have HC198 := Aside0.mk H
      clear H
      try go_wp2
      replace HO_303003 := Aside0.mk (Kd.R_drew HO_303003.out)
      replace HO_303004 := Aside0.mk (Kd.R_drew HO_303004.out)
      replace HO_303005 := Aside0.mk (Kd.R_drew HO_303005.out)
      replace HO_316003 := Aside0.mk (Kd.R_drew HO_316003.out)
      replace HO_316004 := Aside0.mk (Kd.R_drew HO_316004.out)
      replace HO_316005 := Aside0.mk (Kd.R_drew HO_316005.out)
      replace HO_329003 := Aside0.mk (Kd.R_drew HO_329003.out)
      replace HO_329004 := Aside0.mk (Kd.R_drew HO_329004.out)
      replace HO_329005 := Aside0.mk (Kd.R_drew HO_329005.out)
      replace HO_343003 := Aside0.mk (Kd.R_drew HO_343003.out)
      replace HO_343004 := Aside0.mk (Kd.R_drew HO_343004.out)
      replace HO_343005 := Aside0.mk (Kd.R_drew HO_343005.out)
      replace BK261 := Aside0.mk (blk_drew BK261.out)
      replace BK262 := Aside0.mk (blk_drew BK262.out)
      replace BK302 := Aside0.mk (blk_drew BK302.out)
      replace BK315 := Aside0.mk (blk_drew BK315.out)
      replace BK328 := Aside0.mk (blk_drew BK328.out)
      replace BK342 := Aside0.mk (blk_drew BK342.out)
      replace HB := Aside0.mk (below_drew1 HB.out)
      refine start_ (n := 12) (S := fun w' => w'.cell? ⟨gb261, 0, none⟩ = some (.int .i64 a0_0) ∧ w'.cell? ⟨gb261, 1, none⟩ = some (.int .i64 a0_1) ∧ w'.cell? ⟨gb261, 2, none⟩ = some (.int .i64 a0_2) ∧ w'.cell? ⟨gb261, 3, none⟩ = some (.slice A0_3 l0_3.length c0_3) ∧ w'.cell? ⟨gb261, 4, none⟩ = some (.slice A0_4 l0_4.length c0_4) ∧ w'.cell? ⟨gb261, 5, none⟩ = some (.slice A0_5 l0_5.length c0_5) ∧ w'.cell? ⟨gb262, 0, none⟩ = some (.int .i64 a1_0) ∧ w'.cell? ⟨gb262, 1, none⟩ = some (.int .i64 a1_1) ∧ w'.cell? ⟨gb262, 2, none⟩ = some (.int .i64 a1_2) ∧ w'.cell? ⟨gb262, 3, none⟩ = some (.slice A1_3 l1_3.length c1_3) ∧ w'.cell? ⟨gb262, 4, none⟩ = some (.slice A1_4 l1_4.length c1_4) ∧ w'.cell? ⟨gb262, 5, none⟩ = some (.slice A1_5 l1_5.length c1_5)) (ds := []) #[false, false, false, false, false, false, false, false, false, false, false, false] (by kernel_rfl) rfl rfl (ca6x9 BK261.out (cc6x9 BK262.out)) (fun hHeld => ?_); refine with_tabW laws_FnExactMixModels.tab31 laws_FnExactMixModels.bits31 (fun HT_ HW_ => ?_)
      generalize wc.drew = w199 at HO_303003 HO_303004 HO_303005 HO_316003 HO_316004 HO_316005 HO_329003 HO_329004 HO_329005 HO_343003 HO_343004 HO_343005 BK261 BK262 BK302 BK315 BK328 BK342 HB hHeld ⊢
      refine pure_ (i := 4) (N := some 103) (v := ?_) (a' := ?_) #[false, false, false, false, true, false, false, false, false, false, false, false] rfl rfl (any_of HT_.out (by kernel_rfl)) (fun _ _ _ h => h) (Or.inl ⟨by rfl, ?_⟩) ?_ ?_
      rotate_left
      ·intro w'
       go_simp
       with_reducible rfl
      rotate_left
      ·simp only [Act.put, List.setIfInBounds_toArray, List.set_cons_zero, List.set_cons_succ, i64_w, i32_w]
       rfl
      refine take_ (i := 0) (N := some 99) (v := ?_) (a' := ?_) #[true, false, false, false, true, false, false, false, false, false, false, false] rfl rfl (take_ofW HT_.out HW_.out (by kernel_rfl)) (fun _ _ _ h => h) (Or.inl ⟨by rfl, ?_⟩) hHeld ?_ ?_
      rotate_left
      ·rintro w' ⟨s0, s1, s2, s3, s4, s5, s6, s7, s8, s9, s10, s11⟩
       go_simp
       with_reducible rfl
      rotate_left
      ·simp only [Act.put, List.setIfInBounds_toArray, List.set_cons_zero, List.set_cons_succ, i64_w, i32_w]
       rfl
      refine take_ (i := 2) (N := some 101) (v := ?_) (a' := ?_) #[true, false, true, false, true, false, false, false, false, false, false, false] rfl rfl (take_ofW HT_.out HW_.out (by kernel_rfl)) (fun _ _ _ h => h) (Or.inl ⟨by rfl, ?_⟩) hHeld ?_ ?_
      rotate_left
      ·rintro w' ⟨s0, s1, s2, s3, s4, s5, s6, s7, s8, s9, s10, s11⟩
       go_simp
       with_reducible rfl
      rotate_left
      ·simp only [Act.put, List.setIfInBounds_toArray, List.set_cons_zero, List.set_cons_succ, i64_w, i32_w]
       rfl
      refine join_ (σ := Value × Value × Value × Value × Value × Value × Value × Value × Value × Nat) 2 #[true, true, true, true, true, true, true, true, true, true, false, false] (fun s_ => [(100, .agg #[.int .i64 t384, .int .i64 t385, .int .i64 t386, s_.1, s_.2.1, s_.2.2.1]), (102, .agg #[.int .i64 t396, .int .i64 t397, .int .i64 t398, s_.2.2.2.1, s_.2.2.2.2.1, s_.2.2.2.2.2.1]), (104, .tuple #[.agg #[.int .i64 t408, .int .i64 t409, .int .i64 t410, s_.2.2.2.2.2.2.1, s_.2.2.2.2.2.2.2.1, s_.2.2.2.2.2.2.2.2.1], .bool t420]), (17, .pointer (some ⟨s_.2.2.2.2.2.2.2.2.2, 0, none⟩)), (98, .tuple #[.agg #[.int .i64 t408, .int .i64 t409, .int .i64 t410, s_.2.2.2.2.2.2.1, s_.2.2.2.2.2.2.2.1, s_.2.2.2.2.2.2.2.2.1], .bool t420]), (105, .agg #[.int .i64 t408, .int .i64 t409, .int .i64 t410, s_.2.2.2.2.2.2.1, s_.2.2.2.2.2.2.2.1, s_.2.2.2.2.2.2.2.2.1]), (106, .bool t420)]) (fun s_ w' => (w'.cell? ⟨gb261, 0, none⟩ = some (.int .i64 a0_0) ∧ w'.cell? ⟨gb261, 1, none⟩ = some (.int .i64 a0_1) ∧ w'.cell? ⟨gb261, 2, none⟩ = some (.int .i64 a0_2) ∧ w'.cell? ⟨gb261, 3, none⟩ = some (.slice A0_3 l0_3.length c0_3) ∧ w'.cell? ⟨gb261, 4, none⟩ = some (.slice A0_4 l0_4.length c0_4) ∧ w'.cell? ⟨gb261, 5, none⟩ = some (.slice A0_5 l0_5.length c0_5) ∧ w'.cell? ⟨gb262, 0, none⟩ = some (.int .i64 a1_0) ∧ w'.cell? ⟨gb262, 1, none⟩ = some (.int .i64 a1_1) ∧ w'.cell? ⟨gb262, 2, none⟩ = some (.int .i64 a1_2) ∧ w'.cell? ⟨gb262, 3, none⟩ = some (.slice A1_3 l1_3.length c1_3) ∧ w'.cell? ⟨gb262, 4, none⟩ = some (.slice A1_4 l1_4.length c1_4) ∧ w'.cell? ⟨gb262, 5, none⟩ = some (.slice A1_5 l1_5.length c1_5)) ∧ (Kd.R (Kd.int .i64) 3 w' w.heap.size (fun k_ => some k_ ≠ (s_.2.1 : Value).ownBlock ∧ some k_ ≠ (s_.2.2.1 : Value).ownBlock ∧ some k_ ≠ (s_.2.2.2.1 : Value).ownBlock ∧ some k_ ≠ (s_.2.2.2.2.1 : Value).ownBlock ∧ some k_ ≠ (s_.2.2.2.2.2.1 : Value).ownBlock ∧ some k_ ≠ (s_.2.2.2.2.2.2.1 : Value).ownBlock ∧ some k_ ≠ (s_.2.2.2.2.2.2.2.1 : Value).ownBlock ∧ some k_ ≠ (s_.2.2.2.2.2.2.2.2.1 : Value).ownBlock ∧ some k_ ≠ (.slice Ao49 t292.length co49 : Value).ownBlock ∧ some k_ ≠ (.slice Ao51 t295.length co51 : Value).ownBlock ∧ some k_ ≠ (.slice Ao53 t298.length co53 : Value).ownBlock ∧ some k_ ≠ (.slice Ao63 t371.length co63 : Value).ownBlock ∧ some k_ ≠ (.slice Ao64 t372.length co64 : Value).ownBlock ∧ some k_ ≠ (.slice Ao65 t373.length co65 : Value).ownBlock ∧ some k_ ≠ (.slice Ao75 t375.length co75 : Value).ownBlock ∧ some k_ ≠ (.slice Ao76 t376.length co76 : Value).ownBlock ∧ some k_ ≠ (.slice Ao77 t377.length co77 : Value).ownBlock ∧ some k_ ≠ (.slice Ao87 t380.length co87 : Value).ownBlock ∧ some k_ ≠ (.slice Ao88 t381.length co88 : Value).ownBlock ∧ some k_ ≠ (.slice Ao89 t382.length co89 : Value).ownBlock) s_.1 t387) ∧ (Kd.R (Kd.int .i64) 3 w' w.heap.size (fun k_ => some k_ ≠ (s_.1 : Value).ownBlock ∧ some k_ ≠ (s_.2.2.1 : Value).ownBlock ∧ some k_ ≠ (s_.2.2.2.1 : Value).ownBlock ∧ some k_ ≠ (s_.2.2.2.2.1 : Value).ownBlock ∧ some k_ ≠ (s_.2.2.2.2.2.1 : Value).ownBlock ∧ some k_ ≠ (s_.2.2.2.2.2.2.1 : Value).ownBlock ∧ some k_ ≠ (s_.2.2.2.2.2.2.2.1 : Value).ownBlock ∧ some k_ ≠ (s_.2.2.2.2.2.2.2.2.1 : Value).ownBlock ∧ some k_ ≠ (.slice Ao49 t292.length co49 : Value).ownBlock ∧ some k_ ≠ (.slice Ao51 t295.length co51 : Value).ownBlock ∧ some k_ ≠ (.slice Ao53 t298.length co53 : Value).ownBlock ∧ some k_ ≠ (.slice Ao63 t371.length co63 : Value).ownBlock ∧ some k_ ≠ (.slice Ao64 t372.length co64 : Value).ownBlock ∧ some k_ ≠ (.slice Ao65 t373.length co65 : Value).ownBlock ∧ some k_ ≠ (.slice Ao75 t375.length co75 : Value).ownBlock ∧ some k_ ≠ (.slice Ao76 t376.length co76 : Value).ownBlock ∧ some k_ ≠ (.slice Ao77 t377.length co77 : Value).ownBlock ∧ some k_ ≠ (.slice Ao87 t380.length co87 : Value).ownBlock ∧ some k_ ≠ (.slice Ao88 t381.length co88 : Value).ownBlock ∧ some k_ ≠ (.slice Ao89 t382.length co89 : Value).ownBlock) s_.2.1 t390) ∧ (Kd.R (Kd.int .i64) 3 w' w.heap.size (fun k_ => some k_ ≠ (s_.1 : Value).ownBlock ∧ some k_ ≠ (s_.2.1 : Value).ownBlock ∧ some k_ ≠ (s_.2.2.2.1 : Value).ownBlock ∧ some k_ ≠ (s_.2.2.2.2.1 : Value).ownBlock ∧ some k_ ≠ (s_.2.2.2.2.2.1 : Value).ownBlock ∧ some k_ ≠ (s_.2.2.2.2.2.2.1 : Value).ownBlock ∧ some k_ ≠ (s_.2.2.2.2.2.2.2.1 : Value).ownBlock ∧ some k_ ≠ (s_.2.2.2.2.2.2.2.2.1 : Value).ownBlock ∧ some k_ ≠ (.slice Ao49 t292.length co49 : Value).ownBlock ∧ some k_ ≠ (.slice Ao51 t295.length co51 : Value).ownBlock ∧ some k_ ≠ (.slice Ao53 t298.length co53 : Value).ownBlock ∧ some k_ ≠ (.slice Ao63 t371.length co63 : Value).ownBlock ∧ some k_ ≠ (.slice Ao64 t372.length co64 : Value).ownBlock ∧ some k_ ≠ (.slice Ao65 t373.length co65 : Value).ownBlock ∧ some k_ ≠ (.slice Ao75 t375.length co75 : Value).ownBlock ∧ some k_ ≠ (.slice Ao76 t376.length co76 : Value).ownBlock ∧ some k_ ≠ (.slice Ao77 t377.length co77 : Value).ownBlock ∧ some k_ ≠ (.slice Ao87 t380.length co87 : Value).ownBlock ∧ some k_ ≠ (.slice Ao88 t381.length co88 : Value).ownBlock ∧ some k_ ≠ (.slice Ao89 t382.length co89 : Value).ownBlock) s_.2.2.1 t393) ∧ (Kd.R (Kd.int .i64) 3 w' w.heap.size (fun k_ => some k_ ≠ (s_.1 : Value).ownBlock ∧ some k_ ≠ (s_.2.1 : Value).ownBlock ∧ some k_ ≠ (s_.2.2.1 : Value).ownBlock ∧ some k_ ≠ (s_.2.2.2.2.1 : Value).ownBlock ∧ some k_ ≠ (s_.2.2.2.2.2.1 : Value).ownBlock ∧ some k_ ≠ (s_.2.2.2.2.2.2.1 : Value).ownBlock ∧ some k_ ≠ (s_.2.2.2.2.2.2.2.1 : Value).ownBlock ∧ some k_ ≠ (s_.2.2.2.2.2.2.2.2.1 : Value).ownBlock ∧ some k_ ≠ (.slice Ao49 t292.length co49 : Value).ownBlock ∧ some k_ ≠ (.slice Ao51 t295.length co51 : Value).ownBlock ∧ some k_ ≠ (.slice Ao53 t298.length co53 : Value).ownBlock ∧ some k_ ≠ (.slice Ao63 t371.length co63 : Value).ownBlock ∧ some k_ ≠ (.slice Ao64 t372.length co64 : Value).ownBlock ∧ some k_ ≠ (.slice Ao65 t373.length co65 : Value).ownBlock ∧ some k_ ≠ (.slice Ao75 t375.length co75 : Value).ownBlock ∧ some k_ ≠ (.slice Ao76 t376.length co76 : Value).ownBlock ∧ some k_ ≠ (.slice Ao77 t377.length co77 : Value).ownBlock ∧ some k_ ≠ (.slice Ao87 t380.length co87 : Value).ownBlock ∧ some k_ ≠ (.slice Ao88 t381.length co88 : Value).ownBlock ∧ some k_ ≠ (.slice Ao89 t382.length co89 : Value).ownBlock) s_.2.2.2.1 t399) ∧ (Kd.R (Kd.int .i64) 3 w' w.heap.size (fun k_ => some k_ ≠ (s_.1 : Value).ownBlock ∧ some k_ ≠ (s_.2.1 : Value).ownBlock ∧ some k_ ≠ (s_.2.2.1 : Value).ownBlock ∧ some k_ ≠ (s_.2.2.2.1 : Value).ownBlock ∧ some k_ ≠ (s_.2.2.2.2.2.1 : Value).ownBlock ∧ some k_ ≠ (s_.2.2.2.2.2.2.1 : Value).ownBlock ∧ some k_ ≠ (s_.2.2.2.2.2.2.2.1 : Value).ownBlock ∧ some k_ ≠ (s_.2.2.2.2.2.2.2.2.1 : Value).ownBlock ∧ some k_ ≠ (.slice Ao49 t292.length co49 : Value).ownBlock ∧ some k_ ≠ (.slice Ao51 t295.length co51 : Value).ownBlock ∧ some k_ ≠ (.slice Ao53 t298.length co53 : Value).ownBlock ∧ some k_ ≠ (.slice Ao63 t371.length co63 : Value).ownBlock ∧ some k_ ≠ (.slice Ao64 t372.length co64 : Value).ownBlock ∧ some k_ ≠ (.slice Ao65 t373.length co65 : Value).ownBlock ∧ some k_ ≠ (.slice Ao75 t375.length co75 : Value).ownBlock ∧ some k_ ≠ (.slice Ao76 t376.length co76 : Value).ownBlock ∧ some k_ ≠ (.slice Ao77 t377.length co77 : Value).ownBlock ∧ some k_ ≠ (.slice Ao87 t380.length co87 : Value).ownBlock ∧ some k_ ≠ (.slice Ao88 t381.length co88 : Value).ownBlock ∧ some k_ ≠ (.slice Ao89 t382.length co89 : Value).ownBlock) s_.2.2.2.2.1 t402) ∧ (Kd.R (Kd.int .i64) 3 w' w.heap.size (fun k_ => some k_ ≠ (s_.1 : Value).ownBlock ∧ some k_ ≠ (s_.2.1 : Value).ownBlock ∧ some k_ ≠ (s_.2.2.1 : Value).ownBlock ∧ some k_ ≠ (s_.2.2.2.1 : Value).ownBlock ∧ some k_ ≠ (s_.2.2.2.2.1 : Value).ownBlock ∧ some k_ ≠ (s_.2.2.2.2.2.2.1 : Value).ownBlock ∧ some k_ ≠ (s_.2.2.2.2.2.2.2.1 : Value).ownBlock ∧ some k_ ≠ (s_.2.2.2.2.2.2.2.2.1 : Value).ownBlock ∧ some k_ ≠ (.slice Ao49 t292.length co49 : Value).ownBlock ∧ some k_ ≠ (.slice Ao51 t295.length co51 : Value).ownBlock ∧ some k_ ≠ (.slice Ao53 t298.length co53 : Value).ownBlock ∧ some k_ ≠ (.slice Ao63 t371.length co63 : Value).ownBlock ∧ some k_ ≠ (.slice Ao64 t372.length co64 : Value).ownBlock ∧ some k_ ≠ (.slice Ao65 t373.length co65 : Value).ownBlock ∧ some k_ ≠ (.slice Ao75 t375.length co75 : Value).ownBlock ∧ some k_ ≠ (.slice Ao76 t376.length co76 : Value).ownBlock ∧ some k_ ≠ (.slice Ao77 t377.length co77 : Value).ownBlock ∧ some k_ ≠ (.slice Ao87 t380.length co87 : Value).ownBlock ∧ some k_ ≠ (.slice Ao88 t381.length co88 : Value).ownBlock ∧ some k_ ≠ (.slice Ao89 t382.length co89 : Value).ownBlock) s_.2.2.2.2.2.1 t405) ∧ (Kd.R (Kd.int .i64) 3 w' w.heap.size (fun k_ => some k_ ≠ (s_.1 : Value).ownBlock ∧ some k_ ≠ (s_.2.1 : Value).ownBlock ∧ some k_ ≠ (s_.2.2.1 : Value).ownBlock ∧ some k_ ≠ (s_.2.2.2.1 : Value).ownBlock ∧ some k_ ≠ (s_.2.2.2.2.1 : Value).ownBlock ∧ some k_ ≠ (s_.2.2.2.2.2.1 : Value).ownBlock ∧ some k_ ≠ (s_.2.2.2.2.2.2.2.1 : Value).ownBlock ∧ some k_ ≠ (s_.2.2.2.2.2.2.2.2.1 : Value).ownBlock ∧ some k_ ≠ (.slice Ao49 t292.length co49 : Value).ownBlock ∧ some k_ ≠ (.slice Ao51 t295.length co51 : Value).ownBlock ∧ some k_ ≠ (.slice Ao53 t298.length co53 : Value).ownBlock ∧ some k_ ≠ (.slice Ao63 t371.length co63 : Value).ownBlock ∧ some k_ ≠ (.slice Ao64 t372.length co64 : Value).ownBlock ∧ some k_ ≠ (.slice Ao65 t373.length co65 : Value).ownBlock ∧ some k_ ≠ (.slice Ao75 t375.length co75 : Value).ownBlock ∧ some k_ ≠ (.slice Ao76 t376.length co76 : Value).ownBlock ∧ some k_ ≠ (.slice Ao77 t377.length co77 : Value).ownBlock ∧ some k_ ≠ (.slice Ao87 t380.length co87 : Value).ownBlock ∧ some k_ ≠ (.slice Ao88 t381.length co88 : Value).ownBlock ∧ some k_ ≠ (.slice Ao89 t382.length co89 : Value).ownBlock) s_.2.2.2.2.2.2.1 t411) ∧ (Kd.R (Kd.int .i64) 3 w' w.heap.size (fun k_ => some k_ ≠ (s_.1 : Value).ownBlock ∧ some k_ ≠ (s_.2.1 : Value).ownBlock ∧ some k_ ≠ (s_.2.2.1 : Value).ownBlock ∧ some k_ ≠ (s_.2.2.2.1 : Value).ownBlock ∧ some k_ ≠ (s_.2.2.2.2.1 : Value).ownBlock ∧ some k_ ≠ (s_.2.2.2.2.2.1 : Value).ownBlock ∧ some k_ ≠ (s_.2.2.2.2.2.2.1 : Value).ownBlock ∧ some k_ ≠ (s_.2.2.2.2.2.2.2.2.1 : Value).ownBlock ∧ some k_ ≠ (.slice Ao49 t292.length co49 : Value).ownBlock ∧ some k_ ≠ (.slice Ao51 t295.length co51 : Value).ownBlock ∧ some k_ ≠ (.slice Ao53 t298.length co53 : Value).ownBlock ∧ some k_ ≠ (.slice Ao63 t371.length co63 : Value).ownBlock ∧ some k_ ≠ (.slice Ao64 t372.length co64 : Value).ownBlock ∧ some k_ ≠ (.slice Ao65 t373.length co65 : Value).ownBlock ∧ some k_ ≠ (.slice Ao75 t375.length co75 : Value).ownBlock ∧ some k_ ≠ (.slice Ao76 t376.length co76 : Value).ownBlock ∧ some k_ ≠ (.slice Ao77 t377.length co77 : Value).ownBlock ∧ some k_ ≠ (.slice Ao87 t380.length co87 : Value).ownBlock ∧ some k_ ≠ (.slice Ao88 t381.length co88 : Value).ownBlock ∧ some k_ ≠ (.slice Ao89 t382.length co89 : Value).ownBlock) s_.2.2.2.2.2.2.2.1 t414) ∧ (Kd.R (Kd.int .i64) 3 w' w.heap.size (fun k_ => some k_ ≠ (s_.1 : Value).ownBlock ∧ some k_ ≠ (s_.2.1 : Value).ownBlock ∧ some k_ ≠ (s_.2.2.1 : Value).ownBlock ∧ some k_ ≠ (s_.2.2.2.1 : Value).ownBlock ∧ some k_ ≠ (s_.2.2.2.2.1 : Value).ownBlock ∧ some k_ ≠ (s_.2.2.2.2.2.1 : Value).ownBlock ∧ some k_ ≠ (s_.2.2.2.2.2.2.1 : Value).ownBlock ∧ some k_ ≠ (s_.2.2.2.2.2.2.2.1 : Value).ownBlock ∧ some k_ ≠ (.slice Ao49 t292.length co49 : Value).ownBlock ∧ some k_ ≠ (.slice Ao51 t295.length co51 : Value).ownBlock ∧ some k_ ≠ (.slice Ao53 t298.length co53 : Value).ownBlock ∧ some k_ ≠ (.slice Ao63 t371.length co63 : Value).ownBlock ∧ some k_ ≠ (.slice Ao64 t372.length co64 : Value).ownBlock ∧ some k_ ≠ (.slice Ao65 t373.length co65 : Value).ownBlock ∧ some k_ ≠ (.slice Ao75 t375.length co75 : Value).ownBlock ∧ some k_ ≠ (.slice Ao76 t376.length co76 : Value).ownBlock ∧ some k_ ≠ (.slice Ao77 t377.length co77 : Value).ownBlock ∧ some k_ ≠ (.slice Ao87 t380.length co87 : Value).ownBlock ∧ some k_ ≠ (.slice Ao88 t381.length co88 : Value).ownBlock ∧ some k_ ≠ (.slice Ao89 t382.length co89 : Value).ownBlock) s_.2.2.2.2.2.2.2.2.1 t417) ∧ (Kd.R (Kd.int .i64) 3 w' w.heap.size (fun k_ => some k_ ≠ (s_.1 : Value).ownBlock ∧ some k_ ≠ (s_.2.1 : Value).ownBlock ∧ some k_ ≠ (s_.2.2.1 : Value).ownBlock ∧ some k_ ≠ (s_.2.2.2.1 : Value).ownBlock ∧ some k_ ≠ (s_.2.2.2.2.1 : Value).ownBlock ∧ some k_ ≠ (s_.2.2.2.2.2.1 : Value).ownBlock ∧ some k_ ≠ (s_.2.2.2.2.2.2.1 : Value).ownBlock ∧ some k_ ≠ (s_.2.2.2.2.2.2.2.1 : Value).ownBlock ∧ some k_ ≠ (s_.2.2.2.2.2.2.2.2.1 : Value).ownBlock ∧ some k_ ≠ (.slice Ao51 t295.length co51 : Value).ownBlock ∧ some k_ ≠ (.slice Ao53 t298.length co53 : Value).ownBlock ∧ some k_ ≠ (.slice Ao63 t371.length co63 : Value).ownBlock ∧ some k_ ≠ (.slice Ao64 t372.length co64 : Value).ownBlock ∧ some k_ ≠ (.slice Ao65 t373.length co65 : Value).ownBlock ∧ some k_ ≠ (.slice Ao75 t375.length co75 : Value).ownBlock ∧ some k_ ≠ (.slice Ao76 t376.length co76 : Value).ownBlock ∧ some k_ ≠ (.slice Ao77 t377.length co77 : Value).ownBlock ∧ some k_ ≠ (.slice Ao87 t380.length co87 : Value).ownBlock ∧ some k_ ≠ (.slice Ao88 t381.length co88 : Value).ownBlock ∧ some k_ ≠ (.slice Ao89 t382.length co89 : Value).ownBlock) (.slice Ao49 t292.length co49) t292) ∧ (Kd.R (Kd.int .i64) 3 w' w.heap.size (fun k_ => some k_ ≠ (s_.1 : Value).ownBlock ∧ some k_ ≠ (s_.2.1 : Value).ownBlock ∧ some k_ ≠ (s_.2.2.1 : Value).ownBlock ∧ some k_ ≠ (s_.2.2.2.1 : Value).ownBlock ∧ some k_ ≠ (s_.2.2.2.2.1 : Value).ownBlock ∧ some k_ ≠ (s_.2.2.2.2.2.1 : Value).ownBlock ∧ some k_ ≠ (s_.2.2.2.2.2.2.1 : Value).ownBlock ∧ some k_ ≠ (s_.2.2.2.2.2.2.2.1 : Value).ownBlock ∧ some k_ ≠ (s_.2.2.2.2.2.2.2.2.1 : Value).ownBlock ∧ some k_ ≠ (.slice Ao49 t292.length co49 : Value).ownBlock ∧ some k_ ≠ (.slice Ao53 t298.length co53 : Value).ownBlock ∧ some k_ ≠ (.slice Ao63 t371.length co63 : Value).ownBlock ∧ some k_ ≠ (.slice Ao64 t372.length co64 : Value).ownBlock ∧ some k_ ≠ (.slice Ao65 t373.length co65 : Value).ownBlock ∧ some k_ ≠ (.slice Ao75 t375.length co75 : Value).ownBlock ∧ some k_ ≠ (.slice Ao76 t376.length co76 : Value).ownBlock ∧ some k_ ≠ (.slice Ao77 t377.length co77 : Value).ownBlock ∧ some k_ ≠ (.slice Ao87 t380.length co87 : Value).ownBlock ∧ some k_ ≠ (.slice Ao88 t381.length co88 : Value).ownBlock ∧ some k_ ≠ (.slice Ao89 t382.length co89 : Value).ownBlock) (.slice Ao51 t295.length co51) t295) ∧ (Kd.R (Kd.int .i64) 3 w' w.heap.size (fun k_ => some k_ ≠ (s_.1 : Value).ownBlock ∧ some k_ ≠ (s_.2.1 : Value).ownBlock ∧ some k_ ≠ (s_.2.2.1 : Value).ownBlock ∧ some k_ ≠ (s_.2.2.2.1 : Value).ownBlock ∧ some k_ ≠ (s_.2.2.2.2.1 : Value).ownBlock ∧ some k_ ≠ (s_.2.2.2.2.2.1 : Value).ownBlock ∧ some k_ ≠ (s_.2.2.2.2.2.2.1 : Value).ownBlock ∧ some k_ ≠ (s_.2.2.2.2.2.2.2.1 : Value).ownBlock ∧ some k_ ≠ (s_.2.2.2.2.2.2.2.2.1 : Value).ownBlock ∧ some k_ ≠ (.slice Ao49 t292.length co49 : Value).ownBlock ∧ some k_ ≠ (.slice Ao51 t295.length co51 : Value).ownBlock ∧ some k_ ≠ (.slice Ao63 t371.length co63 : Value).ownBlock ∧ some k_ ≠ (.slice Ao64 t372.length co64 : Value).ownBlock ∧ some k_ ≠ (.slice Ao65 t373.length co65 : Value).ownBlock ∧ some k_ ≠ (.slice Ao75 t375.length co75 : Value).ownBlock ∧ some k_ ≠ (.slice Ao76 t376.length co76 : Value).ownBlock ∧ some k_ ≠ (.slice Ao77 t377.length co77 : Value).ownBlock ∧ some k_ ≠ (.slice Ao87 t380.length co87 : Value).ownBlock ∧ some k_ ≠ (.slice Ao88 t381.length co88 : Value).ownBlock ∧ some k_ ≠ (.slice Ao89 t382.length co89 : Value).ownBlock) (.slice Ao53 t298.length co53) t298) ∧ (Kd.R (Kd.int .i64) 3 w' w.heap.size (fun k_ => some k_ ≠ (s_.1 : Value).ownBlock ∧ some k_ ≠ (s_.2.1 : Value).ownBlock ∧ some k_ ≠ (s_.2.2.1 : Value).ownBlock ∧ some k_ ≠ (s_.2.2.2.1 : Value).ownBlock ∧ some k_ ≠ (s_.2.2.2.2.1 : Value).ownBlock ∧ some k_ ≠ (s_.2.2.2.2.2.1 : Value).ownBlock ∧ some k_ ≠ (s_.2.2.2.2.2.2.1 : Value).ownBlock ∧ some k_ ≠ (s_.2.2.2.2.2.2.2.1 : Value).ownBlock ∧ some k_ ≠ (s_.2.2.2.2.2.2.2.2.1 : Value).ownBlock ∧ some k_ ≠ (.slice Ao49 t292.length co49 : Value).ownBlock ∧ some k_ ≠ (.slice Ao51 t295.length co51 : Value).ownBlock ∧ some k_ ≠ (.slice Ao53 t298.length co53 : Value).ownBlock ∧ some k_ ≠ (.slice Ao64 t372.length co64 : Value).ownBlock ∧ some k_ ≠ (.slice Ao65 t373.length co65 : Value).ownBlock ∧ some k_ ≠ (.slice Ao75 t375.length co75 : Value).ownBlock ∧ some k_ ≠ (.slice Ao76 t376.length co76 : Value).ownBlock ∧ some k_ ≠ (.slice Ao77 t377.length co77 : Value).ownBlock ∧ some k_ ≠ (.slice Ao87 t380.length co87 : Value).ownBlock ∧ some k_ ≠ (.slice Ao88 t381.length co88 : Value).ownBlock ∧ some k_ ≠ (.slice Ao89 t382.length co89 : Value).ownBlock) (.slice Ao63 t371.length co63) t371) ∧ (Kd.R (Kd.int .i64) 3 w' w.heap.size (fun k_ => some k_ ≠ (s_.1 : Value).ownBlock ∧ some k_ ≠ (s_.2.1 : Value).ownBlock ∧ some k_ ≠ (s_.2.2.1 : Value).ownBlock ∧ some k_ ≠ (s_.2.2.2.1 : Value).ownBlock ∧ some k_ ≠ (s_.2.2.2.2.1 : Value).ownBlock ∧ some k_ ≠ (s_.2.2.2.2.2.1 : Value).ownBlock ∧ some k_ ≠ (s_.2.2.2.2.2.2.1 : Value).ownBlock ∧ some k_ ≠ (s_.2.2.2.2.2.2.2.1 : Value).ownBlock ∧ some k_ ≠ (s_.2.2.2.2.2.2.2.2.1 : Value).ownBlock ∧ some k_ ≠ (.slice Ao49 t292.length co49 : Value).ownBlock ∧ some k_ ≠ (.slice Ao51 t295.length co51 : Value).ownBlock ∧ some k_ ≠ (.slice Ao53 t298.length co53 : Value).ownBlock ∧ some k_ ≠ (.slice Ao63 t371.length co63 : Value).ownBlock ∧ some k_ ≠ (.slice Ao65 t373.length co65 : Value).ownBlock ∧ some k_ ≠ (.slice Ao75 t375.length co75 : Value).ownBlock ∧ some k_ ≠ (.slice Ao76 t376.length co76 : Value).ownBlock ∧ some k_ ≠ (.slice Ao77 t377.length co77 : Value).ownBlock ∧ some k_ ≠ (.slice Ao87 t380.length co87 : Value).ownBlock ∧ some k_ ≠ (.slice Ao88 t381.length co88 : Value).ownBlock ∧ some k_ ≠ (.slice Ao89 t382.length co89 : Value).ownBlock) (.slice Ao64 t372.length co64) t372) ∧ (Kd.R (Kd.int .i64) 3 w' w.heap.size (fun k_ => some k_ ≠ (s_.1 : Value).ownBlock ∧ some k_ ≠ (s_.2.1 : Value).ownBlock ∧ some k_ ≠ (s_.2.2.1 : Value).ownBlock ∧ some k_ ≠ (s_.2.2.2.1 : Value).ownBlock ∧ some k_ ≠ (s_.2.2.2.2.1 : Value).ownBlock ∧ some k_ ≠ (s_.2.2.2.2.2.1 : Value).ownBlock ∧ some k_ ≠ (s_.2.2.2.2.2.2.1 : Value).ownBlock ∧ some k_ ≠ (s_.2.2.2.2.2.2.2.1 : Value).ownBlock ∧ some k_ ≠ (s_.2.2.2.2.2.2.2.2.1 : Value).ownBlock ∧ some k_ ≠ (.slice Ao49 t292.length co49 : Value).ownBlock ∧ some k_ ≠ (.slice Ao51 t295.length co51 : Value).ownBlock ∧ some k_ ≠ (.slice Ao53 t298.length co53 : Value).ownBlock ∧ some k_ ≠ (.slice Ao63 t371.length co63 : Value).ownBlock ∧ some k_ ≠ (.slice Ao64 t372.length co64 : Value).ownBlock ∧ some k_ ≠ (.slice Ao75 t375.length co75 : Value).ownBlock ∧ some k_ ≠ (.slice Ao76 t376.length co76 : Value).ownBlock ∧ some k_ ≠ (.slice Ao77 t377.length co77 : Value).ownBlock ∧ some k_ ≠ (.slice Ao87 t380.length co87 : Value).ownBlock ∧ some k_ ≠ (.slice Ao88 t381.length co88 : Value).ownBlock ∧ some k_ ≠ (.slice Ao89 t382.length co89 : Value).ownBlock) (.slice Ao65 t373.length co65) t373) ∧ (Kd.R (Kd.int .i64) 3 w' w.heap.size (fun k_ => some k_ ≠ (s_.1 : Value).ownBlock ∧ some k_ ≠ (s_.2.1 : Value).ownBlock ∧ some k_ ≠ (s_.2.2.1 : Value).ownBlock ∧ some k_ ≠ (s_.2.2.2.1 : Value).ownBlock ∧ some k_ ≠ (s_.2.2.2.2.1 : Value).ownBlock ∧ some k_ ≠ (s_.2.2.2.2.2.1 : Value).ownBlock ∧ some k_ ≠ (s_.2.2.2.2.2.2.1 : Value).ownBlock ∧ some k_ ≠ (s_.2.2.2.2.2.2.2.1 : Value).ownBlock ∧ some k_ ≠ (s_.2.2.2.2.2.2.2.2.1 : Value).ownBlock ∧ some k_ ≠ (.slice Ao49 t292.length co49 : Value).ownBlock ∧ some k_ ≠ (.slice Ao51 t295.length co51 : Value).ownBlock ∧ some k_ ≠ (.slice Ao53 t298.length co53 : Value).ownBlock ∧ some k_ ≠ (.slice Ao63 t371.length co63 : Value).ownBlock ∧ some k_ ≠ (.slice Ao64 t372.length co64 : Value).ownBlock ∧ some k_ ≠ (.slice Ao65 t373.length co65 : Value).ownBlock ∧ some k_ ≠ (.slice Ao76 t376.length co76 : Value).ownBlock ∧ some k_ ≠ (.slice Ao77 t377.length co77 : Value).ownBlock ∧ some k_ ≠ (.slice Ao87 t380.length co87 : Value).ownBlock ∧ some k_ ≠ (.slice Ao88 t381.length co88 : Value).ownBlock ∧ some k_ ≠ (.slice Ao89 t382.length co89 : Value).ownBlock) (.slice Ao75 t375.length co75) t375) ∧ (Kd.R (Kd.int .i64) 3 w' w.heap.size (fun k_ => some k_ ≠ (s_.1 : Value).ownBlock ∧ some k_ ≠ (s_.2.1 : Value).ownBlock ∧ some k_ ≠ (s_.2.2.1 : Value).ownBlock ∧ some k_ ≠ (s_.2.2.2.1 : Value).ownBlock ∧ some k_ ≠ (s_.2.2.2.2.1 : Value).ownBlock ∧ some k_ ≠ (s_.2.2.2.2.2.1 : Value).ownBlock ∧ some k_ ≠ (s_.2.2.2.2.2.2.1 : Value).ownBlock ∧ some k_ ≠ (s_.2.2.2.2.2.2.2.1 : Value).ownBlock ∧ some k_ ≠ (s_.2.2.2.2.2.2.2.2.1 : Value).ownBlock ∧ some k_ ≠ (.slice Ao49 t292.length co49 : Value).ownBlock ∧ some k_ ≠ (.slice Ao51 t295.length co51 : Value).ownBlock ∧ some k_ ≠ (.slice Ao53 t298.length co53 : Value).ownBlock ∧ some k_ ≠ (.slice Ao63 t371.length co63 : Value).ownBlock ∧ some k_ ≠ (.slice Ao64 t372.length co64 : Value).ownBlock ∧ some k_ ≠ (.slice Ao65 t373.length co65 : Value).ownBlock ∧ some k_ ≠ (.slice Ao75 t375.length co75 : Value).ownBlock ∧ some k_ ≠ (.slice Ao77 t377.length co77 : Value).ownBlock ∧ some k_ ≠ (.slice Ao87 t380.length co87 : Value).ownBlock ∧ some k_ ≠ (.slice Ao88 t381.length co88 : Value).ownBlock ∧ some k_ ≠ (.slice Ao89 t382.length co89 : Value).ownBlock) (.slice Ao76 t376.length co76) t376) ∧ (Kd.R (Kd.int .i64) 3 w' w.heap.size (fun k_ => some k_ ≠ (s_.1 : Value).ownBlock ∧ some k_ ≠ (s_.2.1 : Value).ownBlock ∧ some k_ ≠ (s_.2.2.1 : Value).ownBlock ∧ some k_ ≠ (s_.2.2.2.1 : Value).ownBlock ∧ some k_ ≠ (s_.2.2.2.2.1 : Value).ownBlock ∧ some k_ ≠ (s_.2.2.2.2.2.1 : Value).ownBlock ∧ some k_ ≠ (s_.2.2.2.2.2.2.1 : Value).ownBlock ∧ some k_ ≠ (s_.2.2.2.2.2.2.2.1 : Value).ownBlock ∧ some k_ ≠ (s_.2.2.2.2.2.2.2.2.1 : Value).ownBlock ∧ some k_ ≠ (.slice Ao49 t292.length co49 : Value).ownBlock ∧ some k_ ≠ (.slice Ao51 t295.length co51 : Value).ownBlock ∧ some k_ ≠ (.slice Ao53 t298.length co53 : Value).ownBlock ∧ some k_ ≠ (.slice Ao63 t371.length co63 : Value).ownBlock ∧ some k_ ≠ (.slice Ao64 t372.length co64 : Value).ownBlock ∧ some k_ ≠ (.slice Ao65 t373.length co65 : Value).ownBlock ∧ some k_ ≠ (.slice Ao75 t375.length co75 : Value).ownBlock ∧ some k_ ≠ (.slice Ao76 t376.length co76 : Value).ownBlock ∧ some k_ ≠ (.slice Ao87 t380.length co87 : Value).ownBlock ∧ some k_ ≠ (.slice Ao88 t381.length co88 : Value).ownBlock ∧ some k_ ≠ (.slice Ao89 t382.length co89 : Value).ownBlock) (.slice Ao77 t377.length co77) t377) ∧ (Kd.R (Kd.int .i64) 3 w' w.heap.size (fun k_ => some k_ ≠ (s_.1 : Value).ownBlock ∧ some k_ ≠ (s_.2.1 : Value).ownBlock ∧ some k_ ≠ (s_.2.2.1 : Value).ownBlock ∧ some k_ ≠ (s_.2.2.2.1 : Value).ownBlock ∧ some k_ ≠ (s_.2.2.2.2.1 : Value).ownBlock ∧ some k_ ≠ (s_.2.2.2.2.2.1 : Value).ownBlock ∧ some k_ ≠ (s_.2.2.2.2.2.2.1 : Value).ownBlock ∧ some k_ ≠ (s_.2.2.2.2.2.2.2.1 : Value).ownBlock ∧ some k_ ≠ (s_.2.2.2.2.2.2.2.2.1 : Value).ownBlock ∧ some k_ ≠ (.slice Ao49 t292.length co49 : Value).ownBlock ∧ some k_ ≠ (.slice Ao51 t295.length co51 : Value).ownBlock ∧ some k_ ≠ (.slice Ao53 t298.length co53 : Value).ownBlock ∧ some k_ ≠ (.slice Ao63 t371.length co63 : Value).ownBlock ∧ some k_ ≠ (.slice Ao64 t372.length co64 : Value).ownBlock ∧ some k_ ≠ (.slice Ao65 t373.length co65 : Value).ownBlock ∧ some k_ ≠ (.slice Ao75 t375.length co75 : Value).ownBlock ∧ some k_ ≠ (.slice Ao76 t376.length co76 : Value).ownBlock ∧ some k_ ≠ (.slice Ao77 t377.length co77 : Value).ownBlock ∧ some k_ ≠ (.slice Ao88 t381.length co88 : Value).ownBlock ∧ some k_ ≠ (.slice Ao89 t382.length co89 : Value).ownBlock) (.slice Ao87 t380.length co87) t380) ∧ (Kd.R (Kd.int .i64) 3 w' w.heap.size (fun k_ => some k_ ≠ (s_.1 : Value).ownBlock ∧ some k_ ≠ (s_.2.1 : Value).ownBlock ∧ some k_ ≠ (s_.2.2.1 : Value).ownBlock ∧ some k_ ≠ (s_.2.2.2.1 : Value).ownBlock ∧ some k_ ≠ (s_.2.2.2.2.1 : Value).ownBlock ∧ some k_ ≠ (s_.2.2.2.2.2.1 : Value).ownBlock ∧ some k_ ≠ (s_.2.2.2.2.2.2.1 : Value).ownBlock ∧ some k_ ≠ (s_.2.2.2.2.2.2.2.1 : Value).ownBlock ∧ some k_ ≠ (s_.2.2.2.2.2.2.2.2.1 : Value).ownBlock ∧ some k_ ≠ (.slice Ao49 t292.length co49 : Value).ownBlock ∧ some k_ ≠ (.slice Ao51 t295.length co51 : Value).ownBlock ∧ some k_ ≠ (.slice Ao53 t298.length co53 : Value).ownBlock ∧ some k_ ≠ (.slice Ao63 t371.length co63 : Value).ownBlock ∧ some k_ ≠ (.slice Ao64 t372.length co64 : Value).ownBlock ∧ some k_ ≠ (.slice Ao65 t373.length co65 : Value).ownBlock ∧ some k_ ≠ (.slice Ao75 t375.length co75 : Value).ownBlock ∧ some k_ ≠ (.slice Ao76 t376.length co76 : Value).ownBlock ∧ some k_ ≠ (.slice Ao77 t377.length co77 : Value).ownBlock ∧ some k_ ≠ (.slice Ao87 t380.length co87 : Value).ownBlock ∧ some k_ ≠ (.slice Ao89 t382.length co89 : Value).ownBlock) (.slice Ao88 t381.length co88) t381) ∧ (Kd.R (Kd.int .i64) 3 w' w.heap.size (fun k_ => some k_ ≠ (s_.1 : Value).ownBlock ∧ some k_ ≠ (s_.2.1 : Value).ownBlock ∧ some k_ ≠ (s_.2.2.1 : Value).ownBlock ∧ some k_ ≠ (s_.2.2.2.1 : Value).ownBlock ∧ some k_ ≠ (s_.2.2.2.2.1 : Value).ownBlock ∧ some k_ ≠ (s_.2.2.2.2.2.1 : Value).ownBlock ∧ some k_ ≠ (s_.2.2.2.2.2.2.1 : Value).ownBlock ∧ some k_ ≠ (s_.2.2.2.2.2.2.2.1 : Value).ownBlock ∧ some k_ ≠ (s_.2.2.2.2.2.2.2.2.1 : Value).ownBlock ∧ some k_ ≠ (.slice Ao49 t292.length co49 : Value).ownBlock ∧ some k_ ≠ (.slice Ao51 t295.length co51 : Value).ownBlock ∧ some k_ ≠ (.slice Ao53 t298.length co53 : Value).ownBlock ∧ some k_ ≠ (.slice Ao63 t371.length co63 : Value).ownBlock ∧ some k_ ≠ (.slice Ao64 t372.length co64 : Value).ownBlock ∧ some k_ ≠ (.slice Ao65 t373.length co65 : Value).ownBlock ∧ some k_ ≠ (.slice Ao75 t375.length co75 : Value).ownBlock ∧ some k_ ≠ (.slice Ao76 t376.length co76 : Value).ownBlock ∧ some k_ ≠ (.slice Ao77 t377.length co77 : Value).ownBlock ∧ some k_ ≠ (.slice Ao87 t380.length co87 : Value).ownBlock ∧ some k_ ≠ (.slice Ao88 t381.length co88 : Value).ownBlock) (.slice Ao89 t382.length co89) t382) ∧ (w'.heap[gb261]? = some (.cells #[.int .i64 a0_0, .int .i64 a0_1, .int .i64 a0_2, .slice A0_3 l0_3.length c0_3, .slice A0_4 l0_4.length c0_4, .slice A0_5 l0_5.length c0_5] 26 (0, 0))) ∧ (w'.heap[gb262]? = some (.cells #[.int .i64 a1_0, .int .i64 a1_1, .int .i64 a1_2, .slice A1_3 l1_3.length c1_3, .slice A1_4 l1_4.length c1_4, .slice A1_5 l1_5.length c1_5] 26 (0, 0))) ∧ (w'.heap[gb302]? = some (.cells #[.int .i64 t289, .int .i64 t290, .int .i64 t291, .slice Ao49 t292.length co49, .slice Ao51 t295.length co51, .slice Ao53 t298.length co53] 41 (0, 0))) ∧ (w'.heap[gb315]? = some (.cells #[.int .i64 t303, .int .i64 t304, .int .i64 t305, .slice Ao63 t371.length co63, .slice Ao64 t372.length co64, .slice Ao65 t373.length co65] 41 (0, 0))) ∧ (w'.heap[gb328]? = some (.cells #[.int .i64 t316, .int .i64 t317, .int .i64 t318, .slice Ao75 t375.length co75, .slice Ao76 t376.length co76, .slice Ao77 t377.length co77] 41 (0, 0))) ∧ (w'.heap[gb342]? = some (.cells #[.int .i64 t329, .int .i64 t330, .int .i64 t331, .slice Ao87 t380.length co87, .slice Ao88 t381.length co88, .slice Ao89 t382.length co89] 41 (0, 0))) ∧ (w'.heap[s_.2.2.2.2.2.2.2.2.2]? = some (.cells #[.int .i64 0, .int .i64 0, .int .i64 0, .slice none 0 0, .slice none 0 0, .slice none 0 0] 41 (0, 0))) ∧ (w.heap.size ≤ s_.2.2.2.2.2.2.2.2.2) ∧ (w.heap.size ≤ s_.2.2.2.2.2.2.2.2.2) ∧ (gb261 ≠ s_.2.2.2.2.2.2.2.2.2) ∧ (s_.2.2.2.2.2.2.2.2.2 ≠ gb261) ∧ (gb262 ≠ s_.2.2.2.2.2.2.2.2.2) ∧ (s_.2.2.2.2.2.2.2.2.2 ≠ gb262) ∧ (gb302 ≠ s_.2.2.2.2.2.2.2.2.2) ∧ (s_.2.2.2.2.2.2.2.2.2 ≠ gb302) ∧ (gb315 ≠ s_.2.2.2.2.2.2.2.2.2) ∧ (s_.2.2.2.2.2.2.2.2.2 ≠ gb315) ∧ (gb328 ≠ s_.2.2.2.2.2.2.2.2.2) ∧ (s_.2.2.2.2.2.2.2.2.2 ≠ gb328) ∧ (gb342 ≠ s_.2.2.2.2.2.2.2.2.2) ∧ (s_.2.2.2.2.2.2.2.2.2 ≠ gb342) ∧ (Below w.heap.size w w')) ?_ ?_
      rotate_left
      ·intro hCont
       refine two_ (i := 1) (j := 9) (Ni := some 100) (Nj := some 17) #[true, true, true, false, true, false, false, false, false, false, false, false] #[true, false, true, false, true, false, false, false, false, true, false, false] rfl rfl rfl rfl (two_of HT_.out (by kernel_rfl)) (by decide) (by decide) (fun K hK => ?_) (fun K hK => ?_)
       ·skip
        refine goes_ Try.func19 (by kernel_rfl) rfl #[.agg #[.int .i64 a0_0, .int .i64 a0_1, .int .i64 a0_2, .slice A0_3 l0_3.length c0_3, .slice A0_4 l0_4.length c0_4, .slice A0_5 l0_5.length c0_5]] (by rfl) rfl rfl mpx9 ?_
        with_reducible refine (laws_toModel.calls kj182 a0_0 a0_1 a0_2 _ _ l0_3 _ _ l0_4 _ _ l0_5 t384 t385 t386 t387 t390 t393 _ ?side1 ?side2 ?side3 ?side4 ?side5 ?side6 A195.out).mono ?_
        (case side1 => exact rCx9 (Kd.C_below HR0_3.out HB.out))
        (case side2 => exact HC0_3.out)
        (case side3 => exact rCx9 (Kd.C_below HR0_4.out HB.out))
        (case side4 => exact HC0_4.out)
        (case side5 => exact rCx9 (Kd.C_below HR0_5.out HB.out))
        (case side6 => exact HC0_5.out)
        rintro e w200 ⟨v388, v391, v394, rfl, ho0, ho1, ho2, hb⟩
        refine ⟨_, rfl, ?_⟩
        have HO389 := Aside0.mk (Kd.R_lower (nwx9 (nwx9 (nwx9 (nwx9 (nwx9 (nwx9 (nwx9 (nwx9 (nwx9 (nwx9 (nwx9 (nwx9 ho0 (rRx9 HO_303003.out)) (rRx9 HO_303004.out)) (rRx9 HO_303005.out)) (rRx9 HO_316003.out)) (rRx9 HO_316004.out)) (rRx9 HO_316005.out)) (rRx9 HO_329003.out)) (rRx9 HO_329004.out)) (rRx9 HO_329005.out)) (rRx9 HO_343003.out)) (rRx9 HO_343004.out)) (rRx9 HO_343005.out)) (below_size (be6x9 HB.out GE261.out GE262.out GE302.out GE315.out GE328.out GE342.out)))
        have HO392 := Aside0.mk (Kd.R_lower (nwx9 (nwx9 (nwx9 (nwx9 (nwx9 (nwx9 (nwx9 (nwx9 (nwx9 (nwx9 (nwx9 (nwx9 ho1 (rRx9 HO_303003.out)) (rRx9 HO_303004.out)) (rRx9 HO_303005.out)) (rRx9 HO_316003.out)) (rRx9 HO_316004.out)) (rRx9 HO_316005.out)) (rRx9 HO_329003.out)) (rRx9 HO_329004.out)) (rRx9 HO_329005.out)) (rRx9 HO_343003.out)) (rRx9 HO_343004.out)) (rRx9 HO_343005.out)) (below_size (be6x9 HB.out GE261.out GE262.out GE302.out GE315.out GE328.out GE342.out)))
        have HO395 := Aside0.mk (Kd.R_lower (nwx9 (nwx9 (nwx9 (nwx9 (nwx9 (nwx9 (nwx9 (nwx9 (nwx9 (nwx9 (nwx9 (nwx9 ho2 (rRx9 HO_303003.out)) (rRx9 HO_303004.out)) (rRx9 HO_303005.out)) (rRx9 HO_316003.out)) (rRx9 HO_316004.out)) (rRx9 HO_316005.out)) (rRx9 HO_329003.out)) (rRx9 HO_329004.out)) (rRx9 HO_329005.out)) (rRx9 HO_343003.out)) (rRx9 HO_343004.out)) (rRx9 HO_343005.out)) (below_size (be6x9 HB.out GE261.out GE262.out GE302.out GE315.out GE328.out GE342.out)))
        replace HO_303003 := Aside0.mk (kp3x9 (rRx9 HO_303003.out) hb ho0 ho1 ho2)
        replace HO_303004 := Aside0.mk (kp3x9 (rRx9 HO_303004.out) hb ho0 ho1 ho2)
        replace HO_303005 := Aside0.mk (kp3x9 (rRx9 HO_303005.out) hb ho0 ho1 ho2)
        replace HO_316003 := Aside0.mk (kp3x9 (rRx9 HO_316003.out) hb ho0 ho1 ho2)
        replace HO_316004 := Aside0.mk (kp3x9 (rRx9 HO_316004.out) hb ho0 ho1 ho2)
        replace HO_316005 := Aside0.mk (kp3x9 (rRx9 HO_316005.out) hb ho0 ho1 ho2)
        replace HO_329003 := Aside0.mk (kp3x9 (rRx9 HO_329003.out) hb ho0 ho1 ho2)
        replace HO_329004 := Aside0.mk (kp3x9 (rRx9 HO_329004.out) hb ho0 ho1 ho2)
        replace HO_329005 := Aside0.mk (kp3x9 (rRx9 HO_329005.out) hb ho0 ho1 ho2)
        replace HO_343003 := Aside0.mk (kp3x9 (rRx9 HO_343003.out) hb ho0 ho1 ho2)
        replace HO_343004 := Aside0.mk (kp3x9 (rRx9 HO_343004.out) hb ho0 ho1 ho2)
        replace HO_343005 := Aside0.mk (kp3x9 (rRx9 HO_343005.out) hb ho0 ho1 ho2)
        replace BK261 := Aside0.mk (blk_below (rBx9 BK261.out) hb)
        replace BK262 := Aside0.mk (blk_below (rBx9 BK262.out) hb)
        replace BK302 := Aside0.mk (blk_below (rBx9 BK302.out) hb)
        replace BK315 := Aside0.mk (blk_below (rBx9 BK315.out) hb)
        replace BK328 := Aside0.mk (blk_below (rBx9 BK328.out) hb)
        replace BK342 := Aside0.mk (blk_below (rBx9 BK342.out) hb)
        replace HB := Aside0.mk (below_step (be6x9 HB.out GE261.out GE262.out GE302.out GE315.out GE328.out GE342.out) hb)
        (try clear hb)
        (try clear hb2)
        (try clear hk)
        (try clear hi)
        (try clear ho0)
        (try clear ho1)
        (try clear ho2)
        refine hK.out _ _ (ca6x9 BK261.out (cc6x9 BK262.out)) (fun hHeld => ?_)
        clear hK K
        refine norm_ (a' := ?_) ?_ ?_
        rotate_left
        ·show Act.put _ (some 100) _ = _
         simp only [Act.put, List.setIfInBounds_toArray, List.set_cons_zero, List.set_cons_succ, i64_w, i32_w]
         rfl
        refine two_ (i := 3) (j := 9) (Ni := some 102) (Nj := some 17) #[true, true, true, true, true, false, false, false, false, false, false, false] #[true, true, true, false, true, false, false, false, false, true, false, false] rfl rfl rfl rfl (two_of HT_.out (by kernel_rfl)) (by decide) (by decide) (fun K hK => ?_) (fun K hK => ?_)
        ·skip
         refine goes_ Try.func19 (by kernel_rfl) rfl #[.agg #[.int .i64 a1_0, .int .i64 a1_1, .int .i64 a1_2, .slice A1_3 l1_3.length c1_3, .slice A1_4 l1_4.length c1_4, .slice A1_5 l1_5.length c1_5]] (by rfl) rfl rfl mpx9 ?_
         with_reducible refine (laws_toModel.calls kj182 a1_0 a1_1 a1_2 _ _ l1_3 _ _ l1_4 _ _ l1_5 t396 t397 t398 t399 t402 t405 _ ?side1 ?side2 ?side3 ?side4 ?side5 ?side6 A196.out).mono ?_
         (case side1 => exact rCx9 (Kd.C_below HR1_3.out HB.out))
         (case side2 => exact HC1_3.out)
         (case side3 => exact rCx9 (Kd.C_below HR1_4.out HB.out))
         (case side4 => exact HC1_4.out)
         (case side5 => exact rCx9 (Kd.C_below HR1_5.out HB.out))
         (case side6 => exact HC1_5.out)
         rintro e w201 ⟨v400, v403, v406, rfl, ho0, ho1, ho2, hb⟩
         refine ⟨_, rfl, ?_⟩
         have HO401 := Aside0.mk (Kd.R_lower (nwx9 (nwx9 (nwx9 (nwx9 (nwx9 (nwx9 (nwx9 (nwx9 (nwx9 (nwx9 (nwx9 (nwx9 (nwx9 (nwx9 (nwx9 ho0 (rRx9 HO_303003.out)) (rRx9 HO_303004.out)) (rRx9 HO_303005.out)) (rRx9 HO_316003.out)) (rRx9 HO_316004.out)) (rRx9 HO_316005.out)) (rRx9 HO_329003.out)) (rRx9 HO_329004.out)) (rRx9 HO_329005.out)) (rRx9 HO_343003.out)) (rRx9 HO_343004.out)) (rRx9 HO_343005.out)) (rRx9 HO389.out)) (rRx9 HO392.out)) (rRx9 HO395.out)) (below_size (be6x9 HB.out GE261.out GE262.out GE302.out GE315.out GE328.out GE342.out)))
         have HO404 := Aside0.mk (Kd.R_lower (nwx9 (nwx9 (nwx9 (nwx9 (nwx9 (nwx9 (nwx9 (nwx9 (nwx9 (nwx9 (nwx9 (nwx9 (nwx9 (nwx9 (nwx9 ho1 (rRx9 HO_303003.out)) (rRx9 HO_303004.out)) (rRx9 HO_303005.out)) (rRx9 HO_316003.out)) (rRx9 HO_316004.out)) (rRx9 HO_316005.out)) (rRx9 HO_329003.out)) (rRx9 HO_329004.out)) (rRx9 HO_329005.out)) (rRx9 HO_343003.out)) (rRx9 HO_343004.out)) (rRx9 HO_343005.out)) (rRx9 HO389.out)) (rRx9 HO392.out)) (rRx9 HO395.out)) (below_size (be6x9 HB.out GE261.out GE262.out GE302.out GE315.out GE328.out GE342.out)))
         have HO407 := Aside0.mk (Kd.R_lower (nwx9 (nwx9 (nwx9 (nwx9 (nwx9 (nwx9 (nwx9 (nwx9 (nwx9 (nwx9 (nwx9 (nwx9 (nwx9 (nwx9 (nwx9 ho2 (rRx9 HO_303003.out)) (rRx9 HO_303004.out)) (rRx9 HO_303005.out)) (rRx9 HO_316003.out)) (rRx9 HO_316004.out)) (rRx9 HO_316005.out)) (rRx9 HO_329003.out)) (rRx9 HO_329004.out)) (rRx9 HO_329005.out)) (rRx9 HO_343003.out)) (rRx9 HO_343004.out)) (rRx9 HO_343005.out)) (rRx9 HO389.out)) (rRx9 HO392.out)) (rRx9 HO395.out)) (below_size (be6x9 HB.out GE261.out GE262.out GE302.out GE315.out GE328.out GE342.out)))
         replace HO_303003 := Aside0.mk (kp3x9 (rRx9 HO_303003.out) hb ho0 ho1 ho2)
         replace HO_303004 := Aside0.mk (kp3x9 (rRx9 HO_303004.out) hb ho0 ho1 ho2)
         replace HO_303005 := Aside0.mk (kp3x9 (rRx9 HO_303005.out) hb ho0 ho1 ho2)
         replace HO_316003 := Aside0.mk (kp3x9 (rRx9 HO_316003.out) hb ho0 ho1 ho2)
         replace HO_316004 := Aside0.mk (kp3x9 (rRx9 HO_316004.out) hb ho0 ho1 ho2)
         replace HO_316005 := Aside0.mk (kp3x9 (rRx9 HO_316005.out) hb ho0 ho1 ho2)
         replace HO_329003 := Aside0.mk (kp3x9 (rRx9 HO_329003.out) hb ho0 ho1 ho2)
         replace HO_329004 := Aside0.mk (kp3x9 (rRx9 HO_329004.out) hb ho0 ho1 ho2)
         replace HO_329005 := Aside0.mk (kp3x9 (rRx9 HO_329005.out) hb ho0 ho1 ho2)
         replace HO_343003 := Aside0.mk (kp3x9 (rRx9 HO_343003.out) hb ho0 ho1 ho2)
         replace HO_343004 := Aside0.mk (kp3x9 (rRx9 HO_343004.out) hb ho0 ho1 ho2)
         replace HO_343005 := Aside0.mk (kp3x9 (rRx9 HO_343005.out) hb ho0 ho1 ho2)
         replace HO389 := Aside0.mk (kp3x9 (rRx9 HO389.out) hb ho0 ho1 ho2)
         replace HO392 := Aside0.mk (kp3x9 (rRx9 HO392.out) hb ho0 ho1 ho2)
         replace HO395 := Aside0.mk (kp3x9 (rRx9 HO395.out) hb ho0 ho1 ho2)
         replace BK261 := Aside0.mk (blk_below (rBx9 BK261.out) hb)
         replace BK262 := Aside0.mk (blk_below (rBx9 BK262.out) hb)
         replace BK302 := Aside0.mk (blk_below (rBx9 BK302.out) hb)
         replace BK315 := Aside0.mk (blk_below (rBx9 BK315.out) hb)
         replace BK328 := Aside0.mk (blk_below (rBx9 BK328.out) hb)
         replace BK342 := Aside0.mk (blk_below (rBx9 BK342.out) hb)
         replace HB := Aside0.mk (below_step (be6x9 HB.out GE261.out GE262.out GE302.out GE315.out GE328.out GE342.out) hb)
         (try clear hb)
         (try clear hb2)
         (try clear hk)
         (try clear hi)
         (try clear ho0)
         (try clear ho1)
         (try clear ho2)
         obtain ⟨Ao202, co202, eo202⟩ := Kd.R_slice HO389.out
         (first | subst eo202 | (injection eo202 with f1_ f2_ f3_; have f4_ := f1_.symm; have f5_ := f3_.symm; clear f1_ f2_ f3_; subst f4_; subst f5_))
         obtain ⟨Ao203, co203, eo203⟩ := Kd.R_slice HO392.out
         (first | subst eo203 | (injection eo203 with f1_ f2_ f3_; have f4_ := f1_.symm; have f5_ := f3_.symm; clear f1_ f2_ f3_; subst f4_; subst f5_))
         obtain ⟨Ao204, co204, eo204⟩ := Kd.R_slice HO395.out
         (first | subst eo204 | (injection eo204 with f1_ f2_ f3_; have f4_ := f1_.symm; have f5_ := f3_.symm; clear f1_ f2_ f3_; subst f4_; subst f5_))
         obtain ⟨Ao205, co205, eo205⟩ := Kd.R_slice HO401.out
         (first | subst eo205 | (injection eo205 with f1_ f2_ f3_; have f4_ := f1_.symm; have f5_ := f3_.symm; clear f1_ f2_ f3_; subst f4_; subst f5_))
         obtain ⟨Ao206, co206, eo206⟩ := Kd.R_slice HO404.out
         (first | subst eo206 | (injection eo206 with f1_ f2_ f3_; have f4_ := f1_.symm; have f5_ := f3_.symm; clear f1_ f2_ f3_; subst f4_; subst f5_))
         obtain ⟨Ao207, co207, eo207⟩ := Kd.R_slice HO407.out
         (first | subst eo207 | (injection eo207 with f1_ f2_ f3_; have f4_ := f1_.symm; have f5_ := f3_.symm; clear f1_ f2_ f3_; subst f4_; subst f5_))
         refine hK.out _ _ (ca6x9 BK261.out (cc6x9 BK262.out)) (fun hHeld => ?_)
         clear hK K
         refine norm_ (a' := ?_) ?_ ?_
         rotate_left
         ·show Act.put _ (some 102) _ = _
          simp only [Act.put, List.setIfInBounds_toArray, List.set_cons_zero, List.set_cons_succ, i64_w, i32_w]
          rfl
         refine two_ (i := 5) (j := 9) (Ni := some 104) (Nj := some 17) #[true, true, true, true, true, true, false, false, false, false, false, false] #[true, true, true, true, true, false, false, false, false, true, false, false] rfl rfl rfl rfl (two_of HT_.out (by kernel_rfl)) (by decide) (by decide) (fun K hK => ?_) (fun K hK => ?_)
         ·skip
          refine goes_ Try.func41 (by kernel_rfl) rfl #[.agg #[.int .i64 t384, .int .i64 t385, .int .i64 t386, .slice Ao202 t387.length co202, .slice Ao203 t390.length co203, .slice Ao204 t393.length co204], .agg #[.int .i64 t396, .int .i64 t397, .int .i64 t398, .slice Ao205 t399.length co205, .slice Ao206 t402.length co206, .slice Ao207 t405.length co207], .int .i64 a2] (by rfl) rfl rfl mpx9 ?_
          with_reducible refine (impl_MixModels.calls kj182 t384 t385 t386 _ _ t387 _ _ t390 _ _ t393 t396 t397 t398 _ _ t399 _ _ t402 _ _ t405 a2 t408 t409 t410 t411 t414 t417 t420 _ ?side1 ?side2 ?side3 ?side4 ?side5 ?side6 ?side7 ?side8 ?side9 ?side10 ?side11 ?side12 A197.out).mono ?_
          (case side1 => exact cRx9 HO389.out)
          (case side2 => exact (Kd.R_reads' HO389.out).2.1)
          (case side3 => exact cRx9 HO392.out)
          (case side4 => exact (Kd.R_reads' HO392.out).2.1)
          (case side5 => exact cRx9 HO395.out)
          (case side6 => exact (Kd.R_reads' HO395.out).2.1)
          (case side7 => exact cRx9 HO401.out)
          (case side8 => exact (Kd.R_reads' HO401.out).2.1)
          (case side9 => exact cRx9 HO404.out)
          (case side10 => exact (Kd.R_reads' HO404.out).2.1)
          (case side11 => exact cRx9 HO407.out)
          (case side12 => exact (Kd.R_reads' HO407.out).2.1)
          rintro e w208 ⟨v412, v415, v418, rfl, ho0, ho1, ho2, hb⟩
          refine ⟨_, rfl, ?_⟩
          have HO413 := Aside0.mk (Kd.R_lower (nwx9 (nwx9 (nwx9 (nwx9 (nwx9 (nwx9 (nwx9 (nwx9 (nwx9 (nwx9 (nwx9 (nwx9 (nwx9 (nwx9 (nwx9 (nwx9 (nwx9 (nwx9 ho0 (rRx9 HO_303003.out)) (rRx9 HO_303004.out)) (rRx9 HO_303005.out)) (rRx9 HO_316003.out)) (rRx9 HO_316004.out)) (rRx9 HO_316005.out)) (rRx9 HO_329003.out)) (rRx9 HO_329004.out)) (rRx9 HO_329005.out)) (rRx9 HO_343003.out)) (rRx9 HO_343004.out)) (rRx9 HO_343005.out)) (rRx9 HO389.out)) (rRx9 HO392.out)) (rRx9 HO395.out)) (rRx9 HO401.out)) (rRx9 HO404.out)) (rRx9 HO407.out)) (below_size (be6x9 HB.out GE261.out GE262.out GE302.out GE315.out GE328.out GE342.out)))
          have HO416 := Aside0.mk (Kd.R_lower (nwx9 (nwx9 (nwx9 (nwx9 (nwx9 (nwx9 (nwx9 (nwx9 (nwx9 (nwx9 (nwx9 (nwx9 (nwx9 (nwx9 (nwx9 (nwx9 (nwx9 (nwx9 ho1 (rRx9 HO_303003.out)) (rRx9 HO_303004.out)) (rRx9 HO_303005.out)) (rRx9 HO_316003.out)) (rRx9 HO_316004.out)) (rRx9 HO_316005.out)) (rRx9 HO_329003.out)) (rRx9 HO_329004.out)) (rRx9 HO_329005.out)) (rRx9 HO_343003.out)) (rRx9 HO_343004.out)) (rRx9 HO_343005.out)) (rRx9 HO389.out)) (rRx9 HO392.out)) (rRx9 HO395.out)) (rRx9 HO401.out)) (rRx9 HO404.out)) (rRx9 HO407.out)) (below_size (be6x9 HB.out GE261.out GE262.out GE302.out GE315.out GE328.out GE342.out)))
          have HO419 := Aside0.mk (Kd.R_lower (nwx9 (nwx9 (nwx9 (nwx9 (nwx9 (nwx9 (nwx9 (nwx9 (nwx9 (nwx9 (nwx9 (nwx9 (nwx9 (nwx9 (nwx9 (nwx9 (nwx9 (nwx9 ho2 (rRx9 HO_303003.out)) (rRx9 HO_303004.out)) (rRx9 HO_303005.out)) (rRx9 HO_316003.out)) (rRx9 HO_316004.out)) (rRx9 HO_316005.out)) (rRx9 HO_329003.out)) (rRx9 HO_329004.out)) (rRx9 HO_329005.out)) (rRx9 HO_343003.out)) (rRx9 HO_343004.out)) (rRx9 HO_343005.out)) (rRx9 HO389.out)) (rRx9 HO392.out)) (rRx9 HO395.out)) (rRx9 HO401.out)) (rRx9 HO404.out)) (rRx9 HO407.out)) (below_size (be6x9 HB.out GE261.out GE262.out GE302.out GE315.out GE328.out GE342.out)))
          replace HO_303003 := Aside0.mk (kp3x9 (rRx9 HO_303003.out) hb ho0 ho1 ho2)
          replace HO_303004 := Aside0.mk (kp3x9 (rRx9 HO_303004.out) hb ho0 ho1 ho2)
          replace HO_303005 := Aside0.mk (kp3x9 (rRx9 HO_303005.out) hb ho0 ho1 ho2)
          replace HO_316003 := Aside0.mk (kp3x9 (rRx9 HO_316003.out) hb ho0 ho1 ho2)
          replace HO_316004 := Aside0.mk (kp3x9 (rRx9 HO_316004.out) hb ho0 ho1 ho2)
          replace HO_316005 := Aside0.mk (kp3x9 (rRx9 HO_316005.out) hb ho0 ho1 ho2)
          replace HO_329003 := Aside0.mk (kp3x9 (rRx9 HO_329003.out) hb ho0 ho1 ho2)
          replace HO_329004 := Aside0.mk (kp3x9 (rRx9 HO_329004.out) hb ho0 ho1 ho2)
          replace HO_329005 := Aside0.mk (kp3x9 (rRx9 HO_329005.out) hb ho0 ho1 ho2)
          replace HO_343003 := Aside0.mk (kp3x9 (rRx9 HO_343003.out) hb ho0 ho1 ho2)
          replace HO_343004 := Aside0.mk (kp3x9 (rRx9 HO_343004.out) hb ho0 ho1 ho2)
          replace HO_343005 := Aside0.mk (kp3x9 (rRx9 HO_343005.out) hb ho0 ho1 ho2)
          replace HO389 := Aside0.mk (kp3x9 (rRx9 HO389.out) hb ho0 ho1 ho2)
          replace HO392 := Aside0.mk (kp3x9 (rRx9 HO392.out) hb ho0 ho1 ho2)
          replace HO395 := Aside0.mk (kp3x9 (rRx9 HO395.out) hb ho0 ho1 ho2)
          replace HO401 := Aside0.mk (kp3x9 (rRx9 HO401.out) hb ho0 ho1 ho2)
          replace HO404 := Aside0.mk (kp3x9 (rRx9 HO404.out) hb ho0 ho1 ho2)
          replace HO407 := Aside0.mk (kp3x9 (rRx9 HO407.out) hb ho0 ho1 ho2)
          replace BK261 := Aside0.mk (blk_below (rBx9 BK261.out) hb)
          replace BK262 := Aside0.mk (blk_below (rBx9 BK262.out) hb)
          replace BK302 := Aside0.mk (blk_below (rBx9 BK302.out) hb)
          replace BK315 := Aside0.mk (blk_below (rBx9 BK315.out) hb)
          replace BK328 := Aside0.mk (blk_below (rBx9 BK328.out) hb)
          replace BK342 := Aside0.mk (blk_below (rBx9 BK342.out) hb)
          replace HB := Aside0.mk (below_step (be6x9 HB.out GE261.out GE262.out GE302.out GE315.out GE328.out GE342.out) hb)
          (try clear hb)
          (try clear hb2)
          (try clear hk)
          (try clear hi)
          (try clear ho0)
          (try clear ho1)
          (try clear ho2)
          refine hK.out _ _ (ca6x9 BK261.out (cc6x9 BK262.out)) (fun hHeld => ?_)
          clear hK K
          refine norm_ (a' := ?_) ?_ ?_
          rotate_left
          ·show Act.put _ (some 104) _ = _
           simp only [Act.put, List.setIfInBounds_toArray, List.set_cons_zero, List.set_cons_succ, i64_w, i32_w]
           rfl
          refine pure_ (i := 6) (N := some 98) (v := ?_) (a' := ?_) #[true, true, true, true, true, true, true, false, false, false, false, false] rfl rfl (any_of HT_.out (by kernel_rfl)) (fun _ _ _ h => h) (Or.inl ⟨by rfl, ?_⟩) ?_ ?_
          rotate_left
          ·intro w'
           go_simp
           with_reducible rfl
          rotate_left
          ·simp only [Act.put, List.setIfInBounds_toArray, List.set_cons_zero, List.set_cons_succ, i64_w, i32_w]
           rfl
          refine pure_ (i := 7) (N := some 105) (v := ?_) (a' := ?_) #[true, true, true, true, true, true, true, true, false, false, false, false] rfl rfl (any_of HT_.out (by kernel_rfl)) (fun _ _ _ h => h) (Or.inl ⟨by rfl, ?_⟩) ?_ ?_
          rotate_left
          ·intro w'
           go_simp
           with_reducible rfl
          rotate_left
          ·simp only [Act.put, List.setIfInBounds_toArray, List.set_cons_zero, List.set_cons_succ, i64_w, i32_w]
           rfl
          refine pure_ (i := 8) (N := some 106) (v := ?_) (a' := ?_) #[true, true, true, true, true, true, true, true, true, false, false, false] rfl rfl (any_of HT_.out (by kernel_rfl)) (fun _ _ _ h => h) (Or.inl ⟨by rfl, ?_⟩) ?_ ?_
          rotate_left
          ·intro w'
           go_simp
           with_reducible rfl
          rotate_left
          ·simp only [Act.put, List.setIfInBounds_toArray, List.set_cons_zero, List.set_cons_succ, i64_w, i32_w]
           rfl
          refine one_ (i := 9) (N := some 17) #[true, true, true, true, true, true, true, true, true, true, false, false] rfl rfl (one_of HT_.out (by kernel_rfl)) (by decide) (fun K hK => ?_)
          refine box_step ?hg (N := 17) ?hd (cs := #[.int .i64 0, .int .i64 0, .int .i64 0, .slice none 0 0, .slice none 0 0, .slice none 0 0]) (t := 41) ?hr ?_; (case hd => rfl); (case hg => rfl); (case hr => first | (go_simp; done) | (go_simp; rfl))
          intro gb421 hg w209 hbox hb
          replace HO_303003 := Aside0.mk (Kd.R_below (rRx9 HO_303003.out) hb)
          replace HO_303004 := Aside0.mk (Kd.R_below (rRx9 HO_303004.out) hb)
          replace HO_303005 := Aside0.mk (Kd.R_below (rRx9 HO_303005.out) hb)
          replace HO_316003 := Aside0.mk (Kd.R_below (rRx9 HO_316003.out) hb)
          replace HO_316004 := Aside0.mk (Kd.R_below (rRx9 HO_316004.out) hb)
          replace HO_316005 := Aside0.mk (Kd.R_below (rRx9 HO_316005.out) hb)
          replace HO_329003 := Aside0.mk (Kd.R_below (rRx9 HO_329003.out) hb)
          replace HO_329004 := Aside0.mk (Kd.R_below (rRx9 HO_329004.out) hb)
          replace HO_329005 := Aside0.mk (Kd.R_below (rRx9 HO_329005.out) hb)
          replace HO_343003 := Aside0.mk (Kd.R_below (rRx9 HO_343003.out) hb)
          replace HO_343004 := Aside0.mk (Kd.R_below (rRx9 HO_343004.out) hb)
          replace HO_343005 := Aside0.mk (Kd.R_below (rRx9 HO_343005.out) hb)
          replace HO389 := Aside0.mk (Kd.R_below (rRx9 HO389.out) hb)
          replace HO392 := Aside0.mk (Kd.R_below (rRx9 HO392.out) hb)
          replace HO395 := Aside0.mk (Kd.R_below (rRx9 HO395.out) hb)
          replace HO401 := Aside0.mk (Kd.R_below (rRx9 HO401.out) hb)
          replace HO404 := Aside0.mk (Kd.R_below (rRx9 HO404.out) hb)
          replace HO407 := Aside0.mk (Kd.R_below (rRx9 HO407.out) hb)
          replace HO413 := Aside0.mk (Kd.R_below (rRx9 HO413.out) hb)
          replace HO416 := Aside0.mk (Kd.R_below (rRx9 HO416.out) hb)
          replace HO419 := Aside0.mk (Kd.R_below (rRx9 HO419.out) hb)
          have BK421 := Aside0.mk (hbox)
          have GW421 := Aside0.mk ((by rw [hg]; exact (below_size (be6x9 HB.out GE261.out GE262.out GE302.out GE315.out GE328.out GE342.out)) : w.heap.size ≤ gb421))
          have GE421 := Aside0.mk ((by rw [hg]; exact (below_size (be6x9 HB.out GE261.out GE262.out GE302.out GE315.out GE328.out GE342.out)) : w.heap.size ≤ gb421))
          replace HB := Aside0.mk (below_step (be6x9 HB.out GE261.out GE262.out GE302.out GE315.out GE328.out GE342.out) hb)
          have NB261_421 := Aside0.mk ((by rw [hg]; exact Nat.ne_of_lt (blk_lt (rBx9 BK261.out)) : gb261 ≠ gb421))
          have NB421_261 := Aside0.mk ((by rw [hg]; exact Nat.ne_of_gt (blk_lt (rBx9 BK261.out)) : gb421 ≠ gb261))
          replace BK261 := Aside0.mk (blk_below (rBx9 BK261.out) hb)
          have NB262_421 := Aside0.mk ((by rw [hg]; exact Nat.ne_of_lt (blk_lt (rBx9 BK262.out)) : gb262 ≠ gb421))
          have NB421_262 := Aside0.mk ((by rw [hg]; exact Nat.ne_of_gt (blk_lt (rBx9 BK262.out)) : gb421 ≠ gb262))
          replace BK262 := Aside0.mk (blk_below (rBx9 BK262.out) hb)
          have NB302_421 := Aside0.mk ((by rw [hg]; exact Nat.ne_of_lt (blk_lt (rBx9 BK302.out)) : gb302 ≠ gb421))
          have NB421_302 := Aside0.mk ((by rw [hg]; exact Nat.ne_of_gt (blk_lt (rBx9 BK302.out)) : gb421 ≠ gb302))
          replace BK302 := Aside0.mk (blk_below (rBx9 BK302.out) hb)
          have NB315_421 := Aside0.mk ((by rw [hg]; exact Nat.ne_of_lt (blk_lt (rBx9 BK315.out)) : gb315 ≠ gb421))
          have NB421_315 := Aside0.mk ((by rw [hg]; exact Nat.ne_of_gt (blk_lt (rBx9 BK315.out)) : gb421 ≠ gb315))
          replace BK315 := Aside0.mk (blk_below (rBx9 BK315.out) hb)
          have NB328_421 := Aside0.mk ((by rw [hg]; exact Nat.ne_of_lt (blk_lt (rBx9 BK328.out)) : gb328 ≠ gb421))
          have NB421_328 := Aside0.mk ((by rw [hg]; exact Nat.ne_of_gt (blk_lt (rBx9 BK328.out)) : gb421 ≠ gb328))
          replace BK328 := Aside0.mk (blk_below (rBx9 BK328.out) hb)
          have NB342_421 := Aside0.mk ((by rw [hg]; exact Nat.ne_of_lt (blk_lt (rBx9 BK342.out)) : gb342 ≠ gb421))
          have NB421_342 := Aside0.mk ((by rw [hg]; exact Nat.ne_of_gt (blk_lt (rBx9 BK342.out)) : gb421 ≠ gb342))
          replace BK342 := Aside0.mk (blk_below (rBx9 BK342.out) hb)
          clear hb hbox hg
          refine hK.out _ _ (ca6x9 BK261.out (cc6x9 BK262.out)) (fun hHeld => ?_)
          clear hK K
          refine norm_ (a' := ?_) ?_ ?_
          rotate_left
          ·show Act.put _ (some 17) _ = _
           simp only [Act.put, List.setIfInBounds_toArray, List.set_cons_zero, List.set_cons_succ, i64_w, i32_w]
           rfl
          exact norm_ (by simp only [putAll, Act.put, List.setIfInBounds_toArray, List.set_cons_zero, List.set_cons_succ]) (hCont (.slice Ao202 t387.length co202, .slice Ao203 t390.length co203, .slice Ao204 t393.length co204, .slice Ao205 t399.length co205, .slice Ao206 t402.length co206, .slice Ao207 t405.length co207, v412, v415, v418, gb421) _ ⟨hHeld, (by exact rRx9 (mox9 HO389.out)), (by exact rRx9 (mox9 HO392.out)), (by exact rRx9 (mox9 HO395.out)), (by exact rRx9 (mox9 HO401.out)), (by exact rRx9 (mox9 HO404.out)), (by exact rRx9 (mox9 HO407.out)), (by exact rRx9 (mox9 HO413.out)), (by exact rRx9 (mox9 HO416.out)), (by exact rRx9 (mox9 HO419.out)), (by exact rRx9 (mox9 HO_303003.out)), (by exact rRx9 (mox9 HO_303004.out)), (by exact rRx9 (mox9 HO_303005.out)), (by exact rRx9 (mox9 HO_316003.out)), (by exact rRx9 (mox9 HO_316004.out)), (by exact rRx9 (mox9 HO_316005.out)), (by exact rRx9 (mox9 HO_329003.out)), (by exact rRx9 (mox9 HO_329004.out)), (by exact rRx9 (mox9 HO_329005.out)), (by exact rRx9 (mox9 HO_343003.out)), (by exact rRx9 (mox9 HO_343004.out)), (by exact rRx9 (mox9 HO_343005.out)), (rBx9 BK261.out), (rBx9 BK262.out), (rBx9 BK302.out), (rBx9 BK315.out), (rBx9 BK328.out), (rBx9 BK342.out), (rBx9 BK421.out), GW421.out, GE421.out, NB261_421.out, NB421_261.out, NB262_421.out, NB421_262.out, NB302_421.out, NB421_302.out, NB315_421.out, NB421_315.out, NB328_421.out, NB421_328.out, NB342_421.out, NB421_342.out, (be7x9 HB.out GE261.out GE262.out GE302.out GE315.out GE328.out GE342.out GE421.out)⟩)
         ·skip
          refine box_step ?hg (N := 17) ?hd (cs := #[.int .i64 0, .int .i64 0, .int .i64 0, .slice none 0 0, .slice none 0 0, .slice none 0 0]) (t := 41) ?hr ?_; (case hd => rfl); (case hg => rfl); (case hr => first | (go_simp; done) | (go_simp; rfl))
          intro gb421 hg w202 hbox hb
          replace HO_303003 := Aside0.mk (Kd.R_below (rRx9 HO_303003.out) hb)
          replace HO_303004 := Aside0.mk (Kd.R_below (rRx9 HO_303004.out) hb)
          replace HO_303005 := Aside0.mk (Kd.R_below (rRx9 HO_303005.out) hb)
          replace HO_316003 := Aside0.mk (Kd.R_below (rRx9 HO_316003.out) hb)
          replace HO_316004 := Aside0.mk (Kd.R_below (rRx9 HO_316004.out) hb)
          replace HO_316005 := Aside0.mk (Kd.R_below (rRx9 HO_316005.out) hb)
          replace HO_329003 := Aside0.mk (Kd.R_below (rRx9 HO_329003.out) hb)
          replace HO_329004 := Aside0.mk (Kd.R_below (rRx9 HO_329004.out) hb)
          replace HO_329005 := Aside0.mk (Kd.R_below (rRx9 HO_329005.out) hb)
          replace HO_343003 := Aside0.mk (Kd.R_below (rRx9 HO_343003.out) hb)
          replace HO_343004 := Aside0.mk (Kd.R_below (rRx9 HO_343004.out) hb)
          replace HO_343005 := Aside0.mk (Kd.R_below (rRx9 HO_343005.out) hb)
          replace HO389 := Aside0.mk (Kd.R_below (rRx9 HO389.out) hb)
          replace HO392 := Aside0.mk (Kd.R_below (rRx9 HO392.out) hb)
          replace HO395 := Aside0.mk (Kd.R_below (rRx9 HO395.out) hb)
          replace HO401 := Aside0.mk (Kd.R_below (rRx9 HO401.out) hb)
          replace HO404 := Aside0.mk (Kd.R_below (rRx9 HO404.out) hb)
          replace HO407 := Aside0.mk (Kd.R_below (rRx9 HO407.out) hb)
          have BK421 := Aside0.mk (hbox)
          have GW421 := Aside0.mk ((by rw [hg]; exact (below_size (be6x9 HB.out GE261.out GE262.out GE302.out GE315.out GE328.out GE342.out)) : w.heap.size ≤ gb421))
          have GE421 := Aside0.mk ((by rw [hg]; exact (below_size (be6x9 HB.out GE261.out GE262.out GE302.out GE315.out GE328.out GE342.out)) : w.heap.size ≤ gb421))
          replace HB := Aside0.mk (below_step (be6x9 HB.out GE261.out GE262.out GE302.out GE315.out GE328.out GE342.out) hb)
          have NB261_421 := Aside0.mk ((by rw [hg]; exact Nat.ne_of_lt (blk_lt (rBx9 BK261.out)) : gb261 ≠ gb421))
          have NB421_261 := Aside0.mk ((by rw [hg]; exact Nat.ne_of_gt (blk_lt (rBx9 BK261.out)) : gb421 ≠ gb261))
          replace BK261 := Aside0.mk (blk_below (rBx9 BK261.out) hb)
          have NB262_421 := Aside0.mk ((by rw [hg]; exact Nat.ne_of_lt (blk_lt (rBx9 BK262.out)) : gb262 ≠ gb421))
          have NB421_262 := Aside0.mk ((by rw [hg]; exact Nat.ne_of_gt (blk_lt (rBx9 BK262.out)) : gb421 ≠ gb262))
          replace BK262 := Aside0.mk (blk_below (rBx9 BK262.out) hb)
          have NB302_421 := Aside0.mk ((by rw [hg]; exact Nat.ne_of_lt (blk_lt (rBx9 BK302.out)) : gb302 ≠ gb421))
          have NB421_302 := Aside0.mk ((by rw [hg]; exact Nat.ne_of_gt (blk_lt (rBx9 BK302.out)) : gb421 ≠ gb302))
          replace BK302 := Aside0.mk (blk_below (rBx9 BK302.out) hb)
          have NB315_421 := Aside0.mk ((by rw [hg]; exact Nat.ne_of_lt (blk_lt (rBx9 BK315.out)) : gb315 ≠ gb421))
          have NB421_315 := Aside0.mk ((by rw [hg]; exact Nat.ne_of_gt (blk_lt (rBx9 BK315.out)) : gb421 ≠ gb315))
          replace BK315 := Aside0.mk (blk_below (rBx9 BK315.out) hb)
          have NB328_421 := Aside0.mk ((by rw [hg]; exact Nat.ne_of_lt (blk_lt (rBx9 BK328.out)) : gb328 ≠ gb421))
          have NB421_328 := Aside0.mk ((by rw [hg]; exact Nat.ne_of_gt (blk_lt (rBx9 BK328.out)) : gb421 ≠ gb328))
          replace BK328 := Aside0.mk (blk_below (rBx9 BK328.out) hb)
          have NB342_421 := Aside0.mk ((by rw [hg]; exact Nat.ne_of_lt (blk_lt (rBx9 BK342.out)) : gb342 ≠ gb421))
          have NB421_342 := Aside0.mk ((by rw [hg]; exact Nat.ne_of_gt (blk_lt (rBx9 BK342.out)) : gb421 ≠ gb342))
          replace BK342 := Aside0.mk (blk_below (rBx9 BK342.out) hb)
          clear hb hbox hg
          obtain ⟨Ao203, co203, eo203⟩ := Kd.R_slice HO389.out
          (first | subst eo203 | (injection eo203 with f1_ f2_ f3_; have f4_ := f1_.symm; have f5_ := f3_.symm; clear f1_ f2_ f3_; subst f4_; subst f5_))
          obtain ⟨Ao204, co204, eo204⟩ := Kd.R_slice HO392.out
          (first | subst eo204 | (injection eo204 with f1_ f2_ f3_; have f4_ := f1_.symm; have f5_ := f3_.symm; clear f1_ f2_ f3_; subst f4_; subst f5_))
          obtain ⟨Ao205, co205, eo205⟩ := Kd.R_slice HO395.out
          (first | subst eo205 | (injection eo205 with f1_ f2_ f3_; have f4_ := f1_.symm; have f5_ := f3_.symm; clear f1_ f2_ f3_; subst f4_; subst f5_))
          obtain ⟨Ao206, co206, eo206⟩ := Kd.R_slice HO401.out
          (first | subst eo206 | (injection eo206 with f1_ f2_ f3_; have f4_ := f1_.symm; have f5_ := f3_.symm; clear f1_ f2_ f3_; subst f4_; subst f5_))
          obtain ⟨Ao207, co207, eo207⟩ := Kd.R_slice HO404.out
          (first | subst eo207 | (injection eo207 with f1_ f2_ f3_; have f4_ := f1_.symm; have f5_ := f3_.symm; clear f1_ f2_ f3_; subst f4_; subst f5_))
          obtain ⟨Ao208, co208, eo208⟩ := Kd.R_slice HO407.out
          (first | subst eo208 | (injection eo208 with f1_ f2_ f3_; have f4_ := f1_.symm; have f5_ := f3_.symm; clear f1_ f2_ f3_; subst f4_; subst f5_))
          refine hK.out _ _ (ca6x9 BK261.out (cc6x9 BK262.out)) (fun hHeld => ?_)
          clear hK K
          refine norm_ (a' := ?_) ?_ ?_
          rotate_left
          ·show Act.put _ (some 17) _ = _
           simp only [Act.put, List.setIfInBounds_toArray, List.set_cons_zero, List.set_cons_succ, i64_w, i32_w]
           rfl
          refine one_ (i := 5) (N := some 104) #[true, true, true, true, true, true, false, false, false, true, false, false] rfl rfl (one_of HT_.out (by kernel_rfl)) (by decide) (fun K hK => ?_)
          refine goes_ Try.func41 (by kernel_rfl) rfl #[.agg #[.int .i64 t384, .int .i64 t385, .int .i64 t386, .slice Ao203 t387.length co203, .slice Ao204 t390.length co204, .slice Ao205 t393.length co205], .agg #[.int .i64 t396, .int .i64 t397, .int .i64 t398, .slice Ao206 t399.length co206, .slice Ao207 t402.length co207, .slice Ao208 t405.length co208], .int .i64 a2] (by rfl) rfl rfl mpx9 ?_
          with_reducible refine (impl_MixModels.calls kj182 t384 t385 t386 _ _ t387 _ _ t390 _ _ t393 t396 t397 t398 _ _ t399 _ _ t402 _ _ t405 a2 t408 t409 t410 t411 t414 t417 t420 _ ?side1 ?side2 ?side3 ?side4 ?side5 ?side6 ?side7 ?side8 ?side9 ?side10 ?side11 ?side12 A197.out).mono ?_
          (case side1 => exact cRx9 HO389.out)
          (case side2 => exact (Kd.R_reads' HO389.out).2.1)
          (case side3 => exact cRx9 HO392.out)
          (case side4 => exact (Kd.R_reads' HO392.out).2.1)
          (case side5 => exact cRx9 HO395.out)
          (case side6 => exact (Kd.R_reads' HO395.out).2.1)
          (case side7 => exact cRx9 HO401.out)
          (case side8 => exact (Kd.R_reads' HO401.out).2.1)
          (case side9 => exact cRx9 HO404.out)
          (case side10 => exact (Kd.R_reads' HO404.out).2.1)
          (case side11 => exact cRx9 HO407.out)
          (case side12 => exact (Kd.R_reads' HO407.out).2.1)
          rintro e w209 ⟨v412, v415, v418, rfl, ho0, ho1, ho2, hb⟩
          refine ⟨_, rfl, ?_⟩
          have HO413 := Aside0.mk (Kd.R_lower (nwx9 (nwx9 (nwx9 (nwx9 (nwx9 (nwx9 (nwx9 (nwx9 (nwx9 (nwx9 (nwx9 (nwx9 (nwx9 (nwx9 (nwx9 (nwx9 (nwx9 (nwx9 ho0 (rRx9 HO_303003.out)) (rRx9 HO_303004.out)) (rRx9 HO_303005.out)) (rRx9 HO_316003.out)) (rRx9 HO_316004.out)) (rRx9 HO_316005.out)) (rRx9 HO_329003.out)) (rRx9 HO_329004.out)) (rRx9 HO_329005.out)) (rRx9 HO_343003.out)) (rRx9 HO_343004.out)) (rRx9 HO_343005.out)) (rRx9 HO389.out)) (rRx9 HO392.out)) (rRx9 HO395.out)) (rRx9 HO401.out)) (rRx9 HO404.out)) (rRx9 HO407.out)) (below_size (be7x9 HB.out GE261.out GE262.out GE302.out GE315.out GE328.out GE342.out GE421.out)))
          have HO416 := Aside0.mk (Kd.R_lower (nwx9 (nwx9 (nwx9 (nwx9 (nwx9 (nwx9 (nwx9 (nwx9 (nwx9 (nwx9 (nwx9 (nwx9 (nwx9 (nwx9 (nwx9 (nwx9 (nwx9 (nwx9 ho1 (rRx9 HO_303003.out)) (rRx9 HO_303004.out)) (rRx9 HO_303005.out)) (rRx9 HO_316003.out)) (rRx9 HO_316004.out)) (rRx9 HO_316005.out)) (rRx9 HO_329003.out)) (rRx9 HO_329004.out)) (rRx9 HO_329005.out)) (rRx9 HO_343003.out)) (rRx9 HO_343004.out)) (rRx9 HO_343005.out)) (rRx9 HO389.out)) (rRx9 HO392.out)) (rRx9 HO395.out)) (rRx9 HO401.out)) (rRx9 HO404.out)) (rRx9 HO407.out)) (below_size (be7x9 HB.out GE261.out GE262.out GE302.out GE315.out GE328.out GE342.out GE421.out)))
          have HO419 := Aside0.mk (Kd.R_lower (nwx9 (nwx9 (nwx9 (nwx9 (nwx9 (nwx9 (nwx9 (nwx9 (nwx9 (nwx9 (nwx9 (nwx9 (nwx9 (nwx9 (nwx9 (nwx9 (nwx9 (nwx9 ho2 (rRx9 HO_303003.out)) (rRx9 HO_303004.out)) (rRx9 HO_303005.out)) (rRx9 HO_316003.out)) (rRx9 HO_316004.out)) (rRx9 HO_316005.out)) (rRx9 HO_329003.out)) (rRx9 HO_329004.out)) (rRx9 HO_329005.out)) (rRx9 HO_343003.out)) (rRx9 HO_343004.out)) (rRx9 HO_343005.out)) (rRx9 HO389.out)) (rRx9 HO392.out)) (rRx9 HO395.out)) (rRx9 HO401.out)) (rRx9 HO404.out)) (rRx9 HO407.out)) (below_size (be7x9 HB.out GE261.out GE262.out GE302.out GE315.out GE328.out GE342.out GE421.out)))
          replace HO_303003 := Aside0.mk (kp3x9 (rRx9 HO_303003.out) hb ho0 ho1 ho2)
          replace HO_303004 := Aside0.mk (kp3x9 (rRx9 HO_303004.out) hb ho0 ho1 ho2)
          replace HO_303005 := Aside0.mk (kp3x9 (rRx9 HO_303005.out) hb ho0 ho1 ho2)
          replace HO_316003 := Aside0.mk (kp3x9 (rRx9 HO_316003.out) hb ho0 ho1 ho2)
          replace HO_316004 := Aside0.mk (kp3x9 (rRx9 HO_316004.out) hb ho0 ho1 ho2)
          replace HO_316005 := Aside0.mk (kp3x9 (rRx9 HO_316005.out) hb ho0 ho1 ho2)
          replace HO_329003 := Aside0.mk (kp3x9 (rRx9 HO_329003.out) hb ho0 ho1 ho2)
          replace HO_329004 := Aside0.mk (kp3x9 (rRx9 HO_329004.out) hb ho0 ho1 ho2)
          replace HO_329005 := Aside0.mk (kp3x9 (rRx9 HO_329005.out) hb ho0 ho1 ho2)
          replace HO_343003 := Aside0.mk (kp3x9 (rRx9 HO_343003.out) hb ho0 ho1 ho2)
          replace HO_343004 := Aside0.mk (kp3x9 (rRx9 HO_343004.out) hb ho0 ho1 ho2)
          replace HO_343005 := Aside0.mk (kp3x9 (rRx9 HO_343005.out) hb ho0 ho1 ho2)
          replace HO389 := Aside0.mk (kp3x9 (rRx9 HO389.out) hb ho0 ho1 ho2)
          replace HO392 := Aside0.mk (kp3x9 (rRx9 HO392.out) hb ho0 ho1 ho2)
          replace HO395 := Aside0.mk (kp3x9 (rRx9 HO395.out) hb ho0 ho1 ho2)
          replace HO401 := Aside0.mk (kp3x9 (rRx9 HO401.out) hb ho0 ho1 ho2)
          replace HO404 := Aside0.mk (kp3x9 (rRx9 HO404.out) hb ho0 ho1 ho2)
          replace HO407 := Aside0.mk (kp3x9 (rRx9 HO407.out) hb ho0 ho1 ho2)
          replace BK261 := Aside0.mk (blk_below (rBx9 BK261.out) hb)
          replace BK262 := Aside0.mk (blk_below (rBx9 BK262.out) hb)
          replace BK302 := Aside0.mk (blk_below (rBx9 BK302.out) hb)
          replace BK315 := Aside0.mk (blk_below (rBx9 BK315.out) hb)
          replace BK328 := Aside0.mk (blk_below (rBx9 BK328.out) hb)
          replace BK342 := Aside0.mk (blk_below (rBx9 BK342.out) hb)
          replace BK421 := Aside0.mk (blk_below (rBx9 BK421.out) hb)
          replace HB := Aside0.mk (below_step (be7x9 HB.out GE261.out GE262.out GE302.out GE315.out GE328.out GE342.out GE421.out) hb)
          (try clear hb)
          (try clear hb2)
          (try clear hk)
          (try clear hi)
          (try clear ho0)
          (try clear ho1)
          (try clear ho2)
          refine hK.out _ _ (ca6x9 BK261.out (cc6x9 BK262.out)) (fun hHeld => ?_)
          clear hK K
          refine norm_ (a' := ?_) ?_ ?_
          rotate_left
          ·show Act.put _ (some 104) _ = _
           simp only [Act.put, List.setIfInBounds_toArray, List.set_cons_zero, List.set_cons_succ, i64_w, i32_w]
           rfl
          refine pure_ (i := 6) (N := some 98) (v := ?_) (a' := ?_) #[true, true, true, true, true, true, true, false, false, true, false, false] rfl rfl (any_of HT_.out (by kernel_rfl)) (fun _ _ _ h => h) (Or.inl ⟨by rfl, ?_⟩) ?_ ?_
          rotate_left
          ·intro w'
           go_simp
           with_reducible rfl
          rotate_left
          ·simp only [Act.put, List.setIfInBounds_toArray, List.set_cons_zero, List.set_cons_succ, i64_w, i32_w]
           rfl
          refine pure_ (i := 7) (N := some 105) (v := ?_) (a' := ?_) #[true, true, true, true, true, true, true, true, false, true, false, false] rfl rfl (any_of HT_.out (by kernel_rfl)) (fun _ _ _ h => h) (Or.inl ⟨by rfl, ?_⟩) ?_ ?_
          rotate_left
          ·intro w'
           go_simp
           with_reducible rfl
          rotate_left
          ·simp only [Act.put, List.setIfInBounds_toArray, List.set_cons_zero, List.set_cons_succ, i64_w, i32_w]
           rfl
          refine pure_ (i := 8) (N := some 106) (v := ?_) (a' := ?_) #[true, true, true, true, true, true, true, true, true, true, false, false] rfl rfl (any_of HT_.out (by kernel_rfl)) (fun _ _ _ h => h) (Or.inl ⟨by rfl, ?_⟩) ?_ ?_
          rotate_left
          ·intro w'
           go_simp
           with_reducible rfl
          rotate_left
          ·simp only [Act.put, List.setIfInBounds_toArray, List.set_cons_zero, List.set_cons_succ, i64_w, i32_w]
           rfl
          exact norm_ (by simp only [putAll, Act.put, List.setIfInBounds_toArray, List.set_cons_zero, List.set_cons_succ]) (hCont (.slice Ao203 t387.length co203, .slice Ao204 t390.length co204, .slice Ao205 t393.length co205, .slice Ao206 t399.length co206, .slice Ao207 t402.length co207, .slice Ao208 t405.length co208, v412, v415, v418, gb421) _ ⟨hHeld, (by exact rRx9 (mox9 HO389.out)), (by exact rRx9 (mox9 HO392.out)), (by exact rRx9 (mox9 HO395.out)), (by exact rRx9 (mox9 HO401.out)), (by exact rRx9 (mox9 HO404.out)), (by exact rRx9 (mox9 HO407.out)), (by exact rRx9 (mox9 HO413.out)), (by exact rRx9 (mox9 HO416.out)), (by exact rRx9 (mox9 HO419.out)), (by exact rRx9 (mox9 HO_303003.out)), (by exact rRx9 (mox9 HO_303004.out)), (by exact rRx9 (mox9 HO_303005.out)), (by exact rRx9 (mox9 HO_316003.out)), (by exact rRx9 (mox9 HO_316004.out)), (by exact rRx9 (mox9 HO_316005.out)), (by exact rRx9 (mox9 HO_329003.out)), (by exact rRx9 (mox9 HO_329004.out)), (by exact rRx9 (mox9 HO_329005.out)), (by exact rRx9 (mox9 HO_343003.out)), (by exact rRx9 (mox9 HO_343004.out)), (by exact rRx9 (mox9 HO_343005.out)), (rBx9 BK261.out), (rBx9 BK262.out), (rBx9 BK302.out), (rBx9 BK315.out), (rBx9 BK328.out), (rBx9 BK342.out), (rBx9 BK421.out), GW421.out, GE421.out, NB261_421.out, NB421_261.out, NB262_421.out, NB421_262.out, NB302_421.out, NB421_302.out, NB315_421.out, NB421_315.out, NB328_421.out, NB421_328.out, NB342_421.out, NB421_342.out, (be7x9 HB.out GE261.out GE262.out GE302.out GE315.out GE328.out GE342.out GE421.out)⟩)
        ·skip
         refine box_step ?hg (N := 17) ?hd (cs := #[.int .i64 0, .int .i64 0, .int .i64 0, .slice none 0 0, .slice none 0 0, .slice none 0 0]) (t := 41) ?hr ?_; (case hd => rfl); (case hg => rfl); (case hr => first | (go_simp; done) | (go_simp; rfl))
         intro gb421 hg w201 hbox hb
         replace HO_303003 := Aside0.mk (Kd.R_below (rRx9 HO_303003.out) hb)
         replace HO_303004 := Aside0.mk (Kd.R_below (rRx9 HO_303004.out) hb)
         replace HO_303005 := Aside0.mk (Kd.R_below (rRx9 HO_303005.out) hb)
         replace HO_316003 := Aside0.mk (Kd.R_below (rRx9 HO_316003.out) hb)
         replace HO_316004 := Aside0.mk (Kd.R_below (rRx9 HO_316004.out) hb)
         replace HO_316005 := Aside0.mk (Kd.R_below (rRx9 HO_316005.out) hb)
         replace HO_329003 := Aside0.mk (Kd.R_below (rRx9 HO_329003.out) hb)
         replace HO_329004 := Aside0.mk (Kd.R_below (rRx9 HO_329004.out) hb)
         replace HO_329005 := Aside0.mk (Kd.R_below (rRx9 HO_329005.out) hb)
         replace HO_343003 := Aside0.mk (Kd.R_below (rRx9 HO_343003.out) hb)
         replace HO_343004 := Aside0.mk (Kd.R_below (rRx9 HO_343004.out) hb)
         replace HO_343005 := Aside0.mk (Kd.R_below (rRx9 HO_343005.out) hb)
         replace HO389 := Aside0.mk (Kd.R_below (rRx9 HO389.out) hb)
         replace HO392 := Aside0.mk (Kd.R_below (rRx9 HO392.out) hb)
         replace HO395 := Aside0.mk (Kd.R_below (rRx9 HO395.out) hb)
         have BK421 := Aside0.mk (hbox)
         have GW421 := Aside0.mk ((by rw [hg]; exact (below_size (be6x9 HB.out GE261.out GE262.out GE302.out GE315.out GE328.out GE342.out)) : w.heap.size ≤ gb421))
         have GE421 := Aside0.mk ((by rw [hg]; exact (below_size (be6x9 HB.out GE261.out GE262.out GE302.out GE315.out GE328.out GE342.out)) : w.heap.size ≤ gb421))
         replace HB := Aside0.mk (below_step (be6x9 HB.out GE261.out GE262.out GE302.out GE315.out GE328.out GE342.out) hb)
         have NB261_421 := Aside0.mk ((by rw [hg]; exact Nat.ne_of_lt (blk_lt (rBx9 BK261.out)) : gb261 ≠ gb421))
         have NB421_261 := Aside0.mk ((by rw [hg]; exact Nat.ne_of_gt (blk_lt (rBx9 BK261.out)) : gb421 ≠ gb261))
         replace BK261 := Aside0.mk (blk_below (rBx9 BK261.out) hb)
         have NB262_421 := Aside0.mk ((by rw [hg]; exact Nat.ne_of_lt (blk_lt (rBx9 BK262.out)) : gb262 ≠ gb421))
         have NB421_262 := Aside0.mk ((by rw [hg]; exact Nat.ne_of_gt (blk_lt (rBx9 BK262.out)) : gb421 ≠ gb262))
         replace BK262 := Aside0.mk (blk_below (rBx9 BK262.out) hb)
         have NB302_421 := Aside0.mk ((by rw [hg]; exact Nat.ne_of_lt (blk_lt (rBx9 BK302.out)) : gb302 ≠ gb421))
         have NB421_302 := Aside0.mk ((by rw [hg]; exact Nat.ne_of_gt (blk_lt (rBx9 BK302.out)) : gb421 ≠ gb302))
         replace BK302 := Aside0.mk (blk_below (rBx9 BK302.out) hb)
         have NB315_421 := Aside0.mk ((by rw [hg]; exact Nat.ne_of_lt (blk_lt (rBx9 BK315.out)) : gb315 ≠ gb421))
         have NB421_315 := Aside0.mk ((by rw [hg]; exact Nat.ne_of_gt (blk_lt (rBx9 BK315.out)) : gb421 ≠ gb315))
         replace BK315 := Aside0.mk (blk_below (rBx9 BK315.out) hb)
         have NB328_421 := Aside0.mk ((by rw [hg]; exact Nat.ne_of_lt (blk_lt (rBx9 BK328.out)) : gb328 ≠ gb421))
         have NB421_328 := Aside0.mk ((by rw [hg]; exact Nat.ne_of_gt (blk_lt (rBx9 BK328.out)) : gb421 ≠ gb328))
         replace BK328 := Aside0.mk (blk_below (rBx9 BK328.out) hb)
         have NB342_421 := Aside0.mk ((by rw [hg]; exact Nat.ne_of_lt (blk_lt (rBx9 BK342.out)) : gb342 ≠ gb421))
         have NB421_342 := Aside0.mk ((by rw [hg]; exact Nat.ne_of_gt (blk_lt (rBx9 BK342.out)) : gb421 ≠ gb342))
         replace BK342 := Aside0.mk (blk_below (rBx9 BK342.out) hb)
         clear hb hbox hg
         refine hK.out _ _ (ca6x9 BK261.out (cc6x9 BK262.out)) (fun hHeld => ?_)
         clear hK K
         refine norm_ (a' := ?_) ?_ ?_
         rotate_left
         ·show Act.put _ (some 17) _ = _
          simp only [Act.put, List.setIfInBounds_toArray, List.set_cons_zero, List.set_cons_succ, i64_w, i32_w]
          rfl
         refine one_ (i := 3) (N := some 102) #[true, true, true, true, true, false, false, false, false, true, false, false] rfl rfl (one_of HT_.out (by kernel_rfl)) (by decide) (fun K hK => ?_)
         refine goes_ Try.func19 (by kernel_rfl) rfl #[.agg #[.int .i64 a1_0, .int .i64 a1_1, .int .i64 a1_2, .slice A1_3 l1_3.length c1_3, .slice A1_4 l1_4.length c1_4, .slice A1_5 l1_5.length c1_5]] (by rfl) rfl rfl mpx9 ?_
         with_reducible refine (laws_toModel.calls kj182 a1_0 a1_1 a1_2 _ _ l1_3 _ _ l1_4 _ _ l1_5 t396 t397 t398 t399 t402 t405 _ ?side1 ?side2 ?side3 ?side4 ?side5 ?side6 A196.out).mono ?_
         (case side1 => exact rCx9 (Kd.C_below HR1_3.out HB.out))
         (case side2 => exact HC1_3.out)
         (case side3 => exact rCx9 (Kd.C_below HR1_4.out HB.out))
         (case side4 => exact HC1_4.out)
         (case side5 => exact rCx9 (Kd.C_below HR1_5.out HB.out))
         (case side6 => exact HC1_5.out)
         rintro e w202 ⟨v400, v403, v406, rfl, ho0, ho1, ho2, hb⟩
         refine ⟨_, rfl, ?_⟩
         have HO401 := Aside0.mk (Kd.R_lower (nwx9 (nwx9 (nwx9 (nwx9 (nwx9 (nwx9 (nwx9 (nwx9 (nwx9 (nwx9 (nwx9 (nwx9 (nwx9 (nwx9 (nwx9 ho0 (rRx9 HO_303003.out)) (rRx9 HO_303004.out)) (rRx9 HO_303005.out)) (rRx9 HO_316003.out)) (rRx9 HO_316004.out)) (rRx9 HO_316005.out)) (rRx9 HO_329003.out)) (rRx9 HO_329004.out)) (rRx9 HO_329005.out)) (rRx9 HO_343003.out)) (rRx9 HO_343004.out)) (rRx9 HO_343005.out)) (rRx9 HO389.out)) (rRx9 HO392.out)) (rRx9 HO395.out)) (below_size (be7x9 HB.out GE261.out GE262.out GE302.out GE315.out GE328.out GE342.out GE421.out)))
         have HO404 := Aside0.mk (Kd.R_lower (nwx9 (nwx9 (nwx9 (nwx9 (nwx9 (nwx9 (nwx9 (nwx9 (nwx9 (nwx9 (nwx9 (nwx9 (nwx9 (nwx9 (nwx9 ho1 (rRx9 HO_303003.out)) (rRx9 HO_303004.out)) (rRx9 HO_303005.out)) (rRx9 HO_316003.out)) (rRx9 HO_316004.out)) (rRx9 HO_316005.out)) (rRx9 HO_329003.out)) (rRx9 HO_329004.out)) (rRx9 HO_329005.out)) (rRx9 HO_343003.out)) (rRx9 HO_343004.out)) (rRx9 HO_343005.out)) (rRx9 HO389.out)) (rRx9 HO392.out)) (rRx9 HO395.out)) (below_size (be7x9 HB.out GE261.out GE262.out GE302.out GE315.out GE328.out GE342.out GE421.out)))
         have HO407 := Aside0.mk (Kd.R_lower (nwx9 (nwx9 (nwx9 (nwx9 (nwx9 (nwx9 (nwx9 (nwx9 (nwx9 (nwx9 (nwx9 (nwx9 (nwx9 (nwx9 (nwx9 ho2 (rRx9 HO_303003.out)) (rRx9 HO_303004.out)) (rRx9 HO_303005.out)) (rRx9 HO_316003.out)) (rRx9 HO_316004.out)) (rRx9 HO_316005.out)) (rRx9 HO_329003.out)) (rRx9 HO_329004.out)) (rRx9 HO_329005.out)) (rRx9 HO_343003.out)) (rRx9 HO_343004.out)) (rRx9 HO_343005.out)) (rRx9 HO389.out)) (rRx9 HO392.out)) (rRx9 HO395.out)) (below_size (be7x9 HB.out GE261.out GE262.out GE302.out GE315.out GE328.out GE342.out GE421.out)))
         replace HO_303003 := Aside0.mk (kp3x9 (rRx9 HO_303003.out) hb ho0 ho1 ho2)
         replace HO_303004 := Aside0.mk (kp3x9 (rRx9 HO_303004.out) hb ho0 ho1 ho2)
         replace HO_303005 := Aside0.mk (kp3x9 (rRx9 HO_303005.out) hb ho0 ho1 ho2)
         replace HO_316003 := Aside0.mk (kp3x9 (rRx9 HO_316003.out) hb ho0 ho1 ho2)
         replace HO_316004 := Aside0.mk (kp3x9 (rRx9 HO_316004.out) hb ho0 ho1 ho2)
         replace HO_316005 := Aside0.mk (kp3x9 (rRx9 HO_316005.out) hb ho0 ho1 ho2)
         replace HO_329003 := Aside0.mk (kp3x9 (rRx9 HO_329003.out) hb ho0 ho1 ho2)
         replace HO_329004 := Aside0.mk (kp3x9 (rRx9 HO_329004.out) hb ho0 ho1 ho2)
         replace HO_329005 := Aside0.mk (kp3x9 (rRx9 HO_329005.out) hb ho0 ho1 ho2)
         replace HO_343003 := Aside0.mk (kp3x9 (rRx9 HO_343003.out) hb ho0 ho1 ho2)
         replace HO_343004 := Aside0.mk (kp3x9 (rRx9 HO_343004.out) hb ho0 ho1 ho2)
         replace HO_343005 := Aside0.mk (kp3x9 (rRx9 HO_343005.out) hb ho0 ho1 ho2)
         replace HO389 := Aside0.mk (kp3x9 (rRx9 HO389.out) hb ho0 ho1 ho2)
         replace HO392 := Aside0.mk (kp3x9 (rRx9 HO392.out) hb ho0 ho1 ho2)
         replace HO395 := Aside0.mk (kp3x9 (rRx9 HO395.out) hb ho0 ho1 ho2)
         replace BK261 := Aside0.mk (blk_below (rBx9 BK261.out) hb)
         replace BK262 := Aside0.mk (blk_below (rBx9 BK262.out) hb)
         replace BK302 := Aside0.mk (blk_below (rBx9 BK302.out) hb)
         replace BK315 := Aside0.mk (blk_below (rBx9 BK315.out) hb)
         replace BK328 := Aside0.mk (blk_below (rBx9 BK328.out) hb)
         replace BK342 := Aside0.mk (blk_below (rBx9 BK342.out) hb)
         replace BK421 := Aside0.mk (blk_below (rBx9 BK421.out) hb)
         replace HB := Aside0.mk (below_step (be7x9 HB.out GE261.out GE262.out GE302.out GE315.out GE328.out GE342.out GE421.out) hb)
         (try clear hb)
         (try clear hb2)
         (try clear hk)
         (try clear hi)
         (try clear ho0)
         (try clear ho1)
         (try clear ho2)
         obtain ⟨Ao203, co203, eo203⟩ := Kd.R_slice HO389.out
         (first | subst eo203 | (injection eo203 with f1_ f2_ f3_; have f4_ := f1_.symm; have f5_ := f3_.symm; clear f1_ f2_ f3_; subst f4_; subst f5_))
         obtain ⟨Ao204, co204, eo204⟩ := Kd.R_slice HO392.out
         (first | subst eo204 | (injection eo204 with f1_ f2_ f3_; have f4_ := f1_.symm; have f5_ := f3_.symm; clear f1_ f2_ f3_; subst f4_; subst f5_))
         obtain ⟨Ao205, co205, eo205⟩ := Kd.R_slice HO395.out
         (first | subst eo205 | (injection eo205 with f1_ f2_ f3_; have f4_ := f1_.symm; have f5_ := f3_.symm; clear f1_ f2_ f3_; subst f4_; subst f5_))
         obtain ⟨Ao206, co206, eo206⟩ := Kd.R_slice HO401.out
         (first | subst eo206 | (injection eo206 with f1_ f2_ f3_; have f4_ := f1_.symm; have f5_ := f3_.symm; clear f1_ f2_ f3_; subst f4_; subst f5_))
         obtain ⟨Ao207, co207, eo207⟩ := Kd.R_slice HO404.out
         (first | subst eo207 | (injection eo207 with f1_ f2_ f3_; have f4_ := f1_.symm; have f5_ := f3_.symm; clear f1_ f2_ f3_; subst f4_; subst f5_))
         obtain ⟨Ao208, co208, eo208⟩ := Kd.R_slice HO407.out
         (first | subst eo208 | (injection eo208 with f1_ f2_ f3_; have f4_ := f1_.symm; have f5_ := f3_.symm; clear f1_ f2_ f3_; subst f4_; subst f5_))
         refine hK.out _ _ (ca6x9 BK261.out (cc6x9 BK262.out)) (fun hHeld => ?_)
         clear hK K
         refine norm_ (a' := ?_) ?_ ?_
         rotate_left
         ·show Act.put _ (some 102) _ = _
          simp only [Act.put, List.setIfInBounds_toArray, List.set_cons_zero, List.set_cons_succ, i64_w, i32_w]
          rfl
         refine one_ (i := 5) (N := some 104) #[true, true, true, true, true, true, false, false, false, true, false, false] rfl rfl (one_of HT_.out (by kernel_rfl)) (by decide) (fun K hK => ?_)
         refine goes_ Try.func41 (by kernel_rfl) rfl #[.agg #[.int .i64 t384, .int .i64 t385, .int .i64 t386, .slice Ao203 t387.length co203, .slice Ao204 t390.length co204, .slice Ao205 t393.length co205], .agg #[.int .i64 t396, .int .i64 t397, .int .i64 t398, .slice Ao206 t399.length co206, .slice Ao207 t402.length co207, .slice Ao208 t405.length co208], .int .i64 a2] (by rfl) rfl rfl mpx9 ?_
         with_reducible refine (impl_MixModels.calls kj182 t384 t385 t386 _ _ t387 _ _ t390 _ _ t393 t396 t397 t398 _ _ t399 _ _ t402 _ _ t405 a2 t408 t409 t410 t411 t414 t417 t420 _ ?side1 ?side2 ?side3 ?side4 ?side5 ?side6 ?side7 ?side8 ?side9 ?side10 ?side11 ?side12 A197.out).mono ?_
         (case side1 => exact cRx9 HO389.out)
         (case side2 => exact (Kd.R_reads' HO389.out).2.1)
         (case side3 => exact cRx9 HO392.out)
         (case side4 => exact (Kd.R_reads' HO392.out).2.1)
         (case side5 => exact cRx9 HO395.out)
         (case side6 => exact (Kd.R_reads' HO395.out).2.1)
         (case side7 => exact cRx9 HO401.out)
         (case side8 => exact (Kd.R_reads' HO401.out).2.1)
         (case side9 => exact cRx9 HO404.out)
         (case side10 => exact (Kd.R_reads' HO404.out).2.1)
         (case side11 => exact cRx9 HO407.out)
         (case side12 => exact (Kd.R_reads' HO407.out).2.1)
         rintro e w209 ⟨v412, v415, v418, rfl, ho0, ho1, ho2, hb⟩
         refine ⟨_, rfl, ?_⟩
         have HO413 := Aside0.mk (Kd.R_lower (nwx9 (nwx9 (nwx9 (nwx9 (nwx9 (nwx9 (nwx9 (nwx9 (nwx9 (nwx9 (nwx9 (nwx9 (nwx9 (nwx9 (nwx9 (nwx9 (nwx9 (nwx9 ho0 (rRx9 HO_303003.out)) (rRx9 HO_303004.out)) (rRx9 HO_303005.out)) (rRx9 HO_316003.out)) (rRx9 HO_316004.out)) (rRx9 HO_316005.out)) (rRx9 HO_329003.out)) (rRx9 HO_329004.out)) (rRx9 HO_329005.out)) (rRx9 HO_343003.out)) (rRx9 HO_343004.out)) (rRx9 HO_343005.out)) (rRx9 HO389.out)) (rRx9 HO392.out)) (rRx9 HO395.out)) (rRx9 HO401.out)) (rRx9 HO404.out)) (rRx9 HO407.out)) (below_size (be7x9 HB.out GE261.out GE262.out GE302.out GE315.out GE328.out GE342.out GE421.out)))
         have HO416 := Aside0.mk (Kd.R_lower (nwx9 (nwx9 (nwx9 (nwx9 (nwx9 (nwx9 (nwx9 (nwx9 (nwx9 (nwx9 (nwx9 (nwx9 (nwx9 (nwx9 (nwx9 (nwx9 (nwx9 (nwx9 ho1 (rRx9 HO_303003.out)) (rRx9 HO_303004.out)) (rRx9 HO_303005.out)) (rRx9 HO_316003.out)) (rRx9 HO_316004.out)) (rRx9 HO_316005.out)) (rRx9 HO_329003.out)) (rRx9 HO_329004.out)) (rRx9 HO_329005.out)) (rRx9 HO_343003.out)) (rRx9 HO_343004.out)) (rRx9 HO_343005.out)) (rRx9 HO389.out)) (rRx9 HO392.out)) (rRx9 HO395.out)) (rRx9 HO401.out)) (rRx9 HO404.out)) (rRx9 HO407.out)) (below_size (be7x9 HB.out GE261.out GE262.out GE302.out GE315.out GE328.out GE342.out GE421.out)))
         have HO419 := Aside0.mk (Kd.R_lower (nwx9 (nwx9 (nwx9 (nwx9 (nwx9 (nwx9 (nwx9 (nwx9 (nwx9 (nwx9 (nwx9 (nwx9 (nwx9 (nwx9 (nwx9 (nwx9 (nwx9 (nwx9 ho2 (rRx9 HO_303003.out)) (rRx9 HO_303004.out)) (rRx9 HO_303005.out)) (rRx9 HO_316003.out)) (rRx9 HO_316004.out)) (rRx9 HO_316005.out)) (rRx9 HO_329003.out)) (rRx9 HO_329004.out)) (rRx9 HO_329005.out)) (rRx9 HO_343003.out)) (rRx9 HO_343004.out)) (rRx9 HO_343005.out)) (rRx9 HO389.out)) (rRx9 HO392.out)) (rRx9 HO395.out)) (rRx9 HO401.out)) (rRx9 HO404.out)) (rRx9 HO407.out)) (below_size (be7x9 HB.out GE261.out GE262.out GE302.out GE315.out GE328.out GE342.out GE421.out)))
         replace HO_303003 := Aside0.mk (kp3x9 (rRx9 HO_303003.out) hb ho0 ho1 ho2)
         replace HO_303004 := Aside0.mk (kp3x9 (rRx9 HO_303004.out) hb ho0 ho1 ho2)
         replace HO_303005 := Aside0.mk (kp3x9 (rRx9 HO_303005.out) hb ho0 ho1 ho2)
         replace HO_316003 := Aside0.mk (kp3x9 (rRx9 HO_316003.out) hb ho0 ho1 ho2)
         replace HO_316004 := Aside0.mk (kp3x9 (rRx9 HO_316004.out) hb ho0 ho1 ho2)
         replace HO_316005 := Aside0.mk (kp3x9 (rRx9 HO_316005.out) hb ho0 ho1 ho2)
         replace HO_329003 := Aside0.mk (kp3x9 (rRx9 HO_329003.out) hb ho0 ho1 ho2)
         replace HO_329004 := Aside0.mk (kp3x9 (rRx9 HO_329004.out) hb ho0 ho1 ho2)
         replace HO_329005 := Aside0.mk (kp3x9 (rRx9 HO_329005.out) hb ho0 ho1 ho2)
         replace HO_343003 := Aside0.mk (kp3x9 (rRx9 HO_343003.out) hb ho0 ho1 ho2)
         replace HO_343004 := Aside0.mk (kp3x9 (rRx9 HO_343004.out) hb ho0 ho1 ho2)
         replace HO_343005 := Aside0.mk (kp3x9 (rRx9 HO_343005.out) hb ho0 ho1 ho2)
         replace HO389 := Aside0.mk (kp3x9 (rRx9 HO389.out) hb ho0 ho1 ho2)
         replace HO392 := Aside0.mk (kp3x9 (rRx9 HO392.out) hb ho0 ho1 ho2)
         replace HO395 := Aside0.mk (kp3x9 (rRx9 HO395.out) hb ho0 ho1 ho2)
         replace HO401 := Aside0.mk (kp3x9 (rRx9 HO401.out) hb ho0 ho1 ho2)
         replace HO404 := Aside0.mk (kp3x9 (rRx9 HO404.out) hb ho0 ho1 ho2)
         replace HO407 := Aside0.mk (kp3x9 (rRx9 HO407.out) hb ho0 ho1 ho2)
         replace BK261 := Aside0.mk (blk_below (rBx9 BK261.out) hb)
         replace BK262 := Aside0.mk (blk_below (rBx9 BK262.out) hb)
         replace BK302 := Aside0.mk (blk_below (rBx9 BK302.out) hb)
         replace BK315 := Aside0.mk (blk_below (rBx9 BK315.out) hb)
         replace BK328 := Aside0.mk (blk_below (rBx9 BK328.out) hb)
         replace BK342 := Aside0.mk (blk_below (rBx9 BK342.out) hb)
         replace BK421 := Aside0.mk (blk_below (rBx9 BK421.out) hb)
         replace HB := Aside0.mk (below_step (be7x9 HB.out GE261.out GE262.out GE302.out GE315.out GE328.out GE342.out GE421.out) hb)
         (try clear hb)
         (try clear hb2)
         (try clear hk)
         (try clear hi)
         (try clear ho0)
         (try clear ho1)
         (try clear ho2)
         refine hK.out _ _ (ca6x9 BK261.out (cc6x9 BK262.out)) (fun hHeld => ?_)
         clear hK K
         refine norm_ (a' := ?_) ?_ ?_
         rotate_left
         ·show Act.put _ (some 104) _ = _
          simp only [Act.put, List.setIfInBounds_toArray, List.set_cons_zero, List.set_cons_succ, i64_w, i32_w]
          rfl
         refine pure_ (i := 6) (N := some 98) (v := ?_) (a' := ?_) #[true, true, true, true, true, true, true, false, false, true, false, false] rfl rfl (any_of HT_.out (by kernel_rfl)) (fun _ _ _ h => h) (Or.inl ⟨by rfl, ?_⟩) ?_ ?_
         rotate_left
         ·intro w'
          go_simp
          with_reducible rfl
         rotate_left
         ·simp only [Act.put, List.setIfInBounds_toArray, List.set_cons_zero, List.set_cons_succ, i64_w, i32_w]
          rfl
         refine pure_ (i := 7) (N := some 105) (v := ?_) (a' := ?_) #[true, true, true, true, true, true, true, true, false, true, false, false] rfl rfl (any_of HT_.out (by kernel_rfl)) (fun _ _ _ h => h) (Or.inl ⟨by rfl, ?_⟩) ?_ ?_
         rotate_left
         ·intro w'
          go_simp
          with_reducible rfl
         rotate_left
         ·simp only [Act.put, List.setIfInBounds_toArray, List.set_cons_zero, List.set_cons_succ, i64_w, i32_w]
          rfl
         refine pure_ (i := 8) (N := some 106) (v := ?_) (a' := ?_) #[true, true, true, true, true, true, true, true, true, true, false, false] rfl rfl (any_of HT_.out (by kernel_rfl)) (fun _ _ _ h => h) (Or.inl ⟨by rfl, ?_⟩) ?_ ?_
         rotate_left
         ·intro w'
          go_simp
          with_reducible rfl
         rotate_left
         ·simp only [Act.put, List.setIfInBounds_toArray, List.set_cons_zero, List.set_cons_succ, i64_w, i32_w]
          rfl
         exact norm_ (by simp only [putAll, Act.put, List.setIfInBounds_toArray, List.set_cons_zero, List.set_cons_succ]) (hCont (.slice Ao203 t387.length co203, .slice Ao204 t390.length co204, .slice Ao205 t393.length co205, .slice Ao206 t399.length co206, .slice Ao207 t402.length co207, .slice Ao208 t405.length co208, v412, v415, v418, gb421) _ ⟨hHeld, (by exact rRx9 (mox9 HO389.out)), (by exact rRx9 (mox9 HO392.out)), (by exact rRx9 (mox9 HO395.out)), (by exact rRx9 (mox9 HO401.out)), (by exact rRx9 (mox9 HO404.out)), (by exact rRx9 (mox9 HO407.out)), (by exact rRx9 (mox9 HO413.out)), (by exact rRx9 (mox9 HO416.out)), (by exact rRx9 (mox9 HO419.out)), (by exact rRx9 (mox9 HO_303003.out)), (by exact rRx9 (mox9 HO_303004.out)), (by exact rRx9 (mox9 HO_303005.out)), (by exact rRx9 (mox9 HO_316003.out)), (by exact rRx9 (mox9 HO_316004.out)), (by exact rRx9 (mox9 HO_316005.out)), (by exact rRx9 (mox9 HO_329003.out)), (by exact rRx9 (mox9 HO_329004.out)), (by exact rRx9 (mox9 HO_329005.out)), (by exact rRx9 (mox9 HO_343003.out)), (by exact rRx9 (mox9 HO_343004.out)), (by exact rRx9 (mox9 HO_343005.out)), (rBx9 BK261.out), (rBx9 BK262.out), (rBx9 BK302.out), (rBx9 BK315.out), (rBx9 BK328.out), (rBx9 BK342.out), (rBx9 BK421.out), GW421.out, GE421.out, NB261_421.out, NB421_261.out, NB262_421.out, NB421_262.out, NB302_421.out, NB421_302.out, NB315_421.out, NB421_315.out, NB328_421.out, NB421_328.out, NB342_421.out, NB421_342.out, (be7x9 HB.out GE261.out GE262.out GE302.out GE315.out GE328.out GE342.out GE421.out)⟩)
       ·skip
        refine box_step ?hg (N := 17) ?hd (cs := #[.int .i64 0, .int .i64 0, .int .i64 0, .slice none 0 0, .slice none 0 0, .slice none 0 0]) (t := 41) ?hr ?_; (case hd => rfl); (case hg => rfl); (case hr => first | (go_simp; done) | (go_simp; rfl))
        intro gb421 hg w200 hbox hb
        replace HO_303003 := Aside0.mk (Kd.R_below (rRx9 HO_303003.out) hb)
        replace HO_303004 := Aside0.mk (Kd.R_below (rRx9 HO_303004.out) hb)
        replace HO_303005 := Aside0.mk (Kd.R_below (rRx9 HO_303005.out) hb)
        replace HO_316003 := Aside0.mk (Kd.R_below (rRx9 HO_316003.out) hb)
        replace HO_316004 := Aside0.mk (Kd.R_below (rRx9 HO_316004.out) hb)
        replace HO_316005 := Aside0.mk (Kd.R_below (rRx9 HO_316005.out) hb)
        replace HO_329003 := Aside0.mk (Kd.R_below (rRx9 HO_329003.out) hb)
        replace HO_329004 := Aside0.mk (Kd.R_below (rRx9 HO_329004.out) hb)
        replace HO_329005 := Aside0.mk (Kd.R_below (rRx9 HO_329005.out) hb)
        replace HO_343003 := Aside0.mk (Kd.R_below (rRx9 HO_343003.out) hb)
        replace HO_343004 := Aside0.mk (Kd.R_below (rRx9 HO_343004.out) hb)
        replace HO_343005 := Aside0.mk (Kd.R_below (rRx9 HO_343005.out) hb)
        have BK421 := Aside0.mk (hbox)
        have GW421 := Aside0.mk ((by rw [hg]; exact (below_size (be6x9 HB.out GE261.out GE262.out GE302.out GE315.out GE328.out GE342.out)) : w.heap.size ≤ gb421))
        have GE421 := Aside0.mk ((by rw [hg]; exact (below_size (be6x9 HB.out GE261.out GE262.out GE302.out GE315.out GE328.out GE342.out)) : w.heap.size ≤ gb421))
        replace HB := Aside0.mk (below_step (be6x9 HB.out GE261.out GE262.out GE302.out GE315.out GE328.out GE342.out) hb)
        have NB261_421 := Aside0.mk ((by rw [hg]; exact Nat.ne_of_lt (blk_lt (rBx9 BK261.out)) : gb261 ≠ gb421))
        have NB421_261 := Aside0.mk ((by rw [hg]; exact Nat.ne_of_gt (blk_lt (rBx9 BK261.out)) : gb421 ≠ gb261))
        replace BK261 := Aside0.mk (blk_below (rBx9 BK261.out) hb)
        have NB262_421 := Aside0.mk ((by rw [hg]; exact Nat.ne_of_lt (blk_lt (rBx9 BK262.out)) : gb262 ≠ gb421))
        have NB421_262 := Aside0.mk ((by rw [hg]; exact Nat.ne_of_gt (blk_lt (rBx9 BK262.out)) : gb421 ≠ gb262))
        replace BK262 := Aside0.mk (blk_below (rBx9 BK262.out) hb)
        have NB302_421 := Aside0.mk ((by rw [hg]; exact Nat.ne_of_lt (blk_lt (rBx9 BK302.out)) : gb302 ≠ gb421))
        have NB421_302 := Aside0.mk ((by rw [hg]; exact Nat.ne_of_gt (blk_lt (rBx9 BK302.out)) : gb421 ≠ gb302))
        replace BK302 := Aside0.mk (blk_below (rBx9 BK302.out) hb)
        have NB315_421 := Aside0.mk ((by rw [hg]; exact Nat.ne_of_lt (blk_lt (rBx9 BK315.out)) : gb315 ≠ gb421))
        have NB421_315 := Aside0.mk ((by rw [hg]; exact Nat.ne_of_gt (blk_lt (rBx9 BK315.out)) : gb421 ≠ gb315))
        replace BK315 := Aside0.mk (blk_below (rBx9 BK315.out) hb)
        have NB328_421 := Aside0.mk ((by rw [hg]; exact Nat.ne_of_lt (blk_lt (rBx9 BK328.out)) : gb328 ≠ gb421))
        have NB421_328 := Aside0.mk ((by rw [hg]; exact Nat.ne_of_gt (blk_lt (rBx9 BK328.out)) : gb421 ≠ gb328))
        replace BK328 := Aside0.mk (blk_below (rBx9 BK328.out) hb)
        have NB342_421 := Aside0.mk ((by rw [hg]; exact Nat.ne_of_lt (blk_lt (rBx9 BK342.out)) : gb342 ≠ gb421))
        have NB421_342 := Aside0.mk ((by rw [hg]; exact Nat.ne_of_gt (blk_lt (rBx9 BK342.out)) : gb421 ≠ gb342))
        replace BK342 := Aside0.mk (blk_below (rBx9 BK342.out) hb)
        clear hb hbox hg
        refine hK.out _ _ (ca6x9 BK261.out (cc6x9 BK262.out)) (fun hHeld => ?_)
        clear hK K
        refine norm_ (a' := ?_) ?_ ?_
        rotate_left
        ·show Act.put _ (some 17) _ = _
         simp only [Act.put, List.setIfInBounds_toArray, List.set_cons_zero, List.set_cons_succ, i64_w, i32_w]
         rfl
        refine one_ (i := 1) (N := some 100) #[true, true, true, false, true, false, false, false, false, true, false, false] rfl rfl (one_of HT_.out (by kernel_rfl)) (by decide) (fun K hK => ?_)
        refine goes_ Try.func19 (by kernel_rfl) rfl #[.agg #[.int .i64 a0_0, .int .i64 a0_1, .int .i64 a0_2, .slice A0_3 l0_3.length c0_3, .slice A0_4 l0_4.length c0_4, .slice A0_5 l0_5.length c0_5]] (by rfl) rfl rfl mpx9 ?_
        with_reducible refine (laws_toModel.calls kj182 a0_0 a0_1 a0_2 _ _ l0_3 _ _ l0_4 _ _ l0_5 t384 t385 t386 t387 t390 t393 _ ?side1 ?side2 ?side3 ?side4 ?side5 ?side6 A195.out).mono ?_
        (case side1 => exact rCx9 (Kd.C_below HR0_3.out HB.out))
        (case side2 => exact HC0_3.out)
        (case side3 => exact rCx9 (Kd.C_below HR0_4.out HB.out))
        (case side4 => exact HC0_4.out)
        (case side5 => exact rCx9 (Kd.C_below HR0_5.out HB.out))
        (case side6 => exact HC0_5.out)
        rintro e w201 ⟨v388, v391, v394, rfl, ho0, ho1, ho2, hb⟩
        refine ⟨_, rfl, ?_⟩
        have HO389 := Aside0.mk (Kd.R_lower (nwx9 (nwx9 (nwx9 (nwx9 (nwx9 (nwx9 (nwx9 (nwx9 (nwx9 (nwx9 (nwx9 (nwx9 ho0 (rRx9 HO_303003.out)) (rRx9 HO_303004.out)) (rRx9 HO_303005.out)) (rRx9 HO_316003.out)) (rRx9 HO_316004.out)) (rRx9 HO_316005.out)) (rRx9 HO_329003.out)) (rRx9 HO_329004.out)) (rRx9 HO_329005.out)) (rRx9 HO_343003.out)) (rRx9 HO_343004.out)) (rRx9 HO_343005.out)) (below_size (be7x9 HB.out GE261.out GE262.out GE302.out GE315.out GE328.out GE342.out GE421.out)))
        have HO392 := Aside0.mk (Kd.R_lower (nwx9 (nwx9 (nwx9 (nwx9 (nwx9 (nwx9 (nwx9 (nwx9 (nwx9 (nwx9 (nwx9 (nwx9 ho1 (rRx9 HO_303003.out)) (rRx9 HO_303004.out)) (rRx9 HO_303005.out)) (rRx9 HO_316003.out)) (rRx9 HO_316004.out)) (rRx9 HO_316005.out)) (rRx9 HO_329003.out)) (rRx9 HO_329004.out)) (rRx9 HO_329005.out)) (rRx9 HO_343003.out)) (rRx9 HO_343004.out)) (rRx9 HO_343005.out)) (below_size (be7x9 HB.out GE261.out GE262.out GE302.out GE315.out GE328.out GE342.out GE421.out)))
        have HO395 := Aside0.mk (Kd.R_lower (nwx9 (nwx9 (nwx9 (nwx9 (nwx9 (nwx9 (nwx9 (nwx9 (nwx9 (nwx9 (nwx9 (nwx9 ho2 (rRx9 HO_303003.out)) (rRx9 HO_303004.out)) (rRx9 HO_303005.out)) (rRx9 HO_316003.out)) (rRx9 HO_316004.out)) (rRx9 HO_316005.out)) (rRx9 HO_329003.out)) (rRx9 HO_329004.out)) (rRx9 HO_329005.out)) (rRx9 HO_343003.out)) (rRx9 HO_343004.out)) (rRx9 HO_343005.out)) (below_size (be7x9 HB.out GE261.out GE262.out GE302.out GE315.out GE328.out GE342.out GE421.out)))
        replace HO_303003 := Aside0.mk (kp3x9 (rRx9 HO_303003.out) hb ho0 ho1 ho2)
        replace HO_303004 := Aside0.mk (kp3x9 (rRx9 HO_303004.out) hb ho0 ho1 ho2)
        replace HO_303005 := Aside0.mk (kp3x9 (rRx9 HO_303005.out) hb ho0 ho1 ho2)
        replace HO_316003 := Aside0.mk (kp3x9 (rRx9 HO_316003.out) hb ho0 ho1 ho2)
        replace HO_316004 := Aside0.mk (kp3x9 (rRx9 HO_316004.out) hb ho0 ho1 ho2)
        replace HO_316005 := Aside0.mk (kp3x9 (rRx9 HO_316005.out) hb ho0 ho1 ho2)
        replace HO_329003 := Aside0.mk (kp3x9 (rRx9 HO_329003.out) hb ho0 ho1 ho2)
        replace HO_329004 := Aside0.mk (kp3x9 (rRx9 HO_329004.out) hb ho0 ho1 ho2)
        replace HO_329005 := Aside0.mk (kp3x9 (rRx9 HO_329005.out) hb ho0 ho1 ho2)
        replace HO_343003 := Aside0.mk (kp3x9 (rRx9 HO_343003.out) hb ho0 ho1 ho2)
        replace HO_343004 := Aside0.mk (kp3x9 (rRx9 HO_343004.out) hb ho0 ho1 ho2)
        replace HO_343005 := Aside0.mk (kp3x9 (rRx9 HO_343005.out) hb ho0 ho1 ho2)
        replace BK261 := Aside0.mk (blk_below (rBx9 BK261.out) hb)
        replace BK262 := Aside0.mk (blk_below (rBx9 BK262.out) hb)
        replace BK302 := Aside0.mk (blk_below (rBx9 BK302.out) hb)
        replace BK315 := Aside0.mk (blk_below (rBx9 BK315.out) hb)
        replace BK328 := Aside0.mk (blk_below (rBx9 BK328.out) hb)
        replace BK342 := Aside0.mk (blk_below (rBx9 BK342.out) hb)
        replace BK421 := Aside0.mk (blk_below (rBx9 BK421.out) hb)
        replace HB := Aside0.mk (below_step (be7x9 HB.out GE261.out GE262.out GE302.out GE315.out GE328.out GE342.out GE421.out) hb)
        (try clear hb)
        (try clear hb2)
        (try clear hk)
        (try clear hi)
        (try clear ho0)
        (try clear ho1)
        (try clear ho2)
        refine hK.out _ _ (ca6x9 BK261.out (cc6x9 BK262.out)) (fun hHeld => ?_)
        clear hK K
        refine norm_ (a' := ?_) ?_ ?_
        rotate_left
        ·show Act.put _ (some 100) _ = _
         simp only [Act.put, List.setIfInBounds_toArray, List.set_cons_zero, List.set_cons_succ, i64_w, i32_w]
         rfl
        refine one_ (i := 3) (N := some 102) #[true, true, true, true, true, false, false, false, false, true, false, false] rfl rfl (one_of HT_.out (by kernel_rfl)) (by decide) (fun K hK => ?_)
        refine goes_ Try.func19 (by kernel_rfl) rfl #[.agg #[.int .i64 a1_0, .int .i64 a1_1, .int .i64 a1_2, .slice A1_3 l1_3.length c1_3, .slice A1_4 l1_4.length c1_4, .slice A1_5 l1_5.length c1_5]] (by rfl) rfl rfl mpx9 ?_
        with_reducible refine (laws_toModel.calls kj182 a1_0 a1_1 a1_2 _ _ l1_3 _ _ l1_4 _ _ l1_5 t396 t397 t398 t399 t402 t405 _ ?side1 ?side2 ?side3 ?side4 ?side5 ?side6 A196.out).mono ?_
        (case side1 => exact rCx9 (Kd.C_below HR1_3.out HB.out))
        (case side2 => exact HC1_3.out)
        (case side3 => exact rCx9 (Kd.C_below HR1_4.out HB.out))
        (case side4 => exact HC1_4.out)
        (case side5 => exact rCx9 (Kd.C_below HR1_5.out HB.out))
        (case side6 => exact HC1_5.out)
        rintro e w202 ⟨v400, v403, v406, rfl, ho0, ho1, ho2, hb⟩
        refine ⟨_, rfl, ?_⟩
        have HO401 := Aside0.mk (Kd.R_lower (nwx9 (nwx9 (nwx9 (nwx9 (nwx9 (nwx9 (nwx9 (nwx9 (nwx9 (nwx9 (nwx9 (nwx9 (nwx9 (nwx9 (nwx9 ho0 (rRx9 HO_303003.out)) (rRx9 HO_303004.out)) (rRx9 HO_303005.out)) (rRx9 HO_316003.out)) (rRx9 HO_316004.out)) (rRx9 HO_316005.out)) (rRx9 HO_329003.out)) (rRx9 HO_329004.out)) (rRx9 HO_329005.out)) (rRx9 HO_343003.out)) (rRx9 HO_343004.out)) (rRx9 HO_343005.out)) (rRx9 HO389.out)) (rRx9 HO392.out)) (rRx9 HO395.out)) (below_size (be7x9 HB.out GE261.out GE262.out GE302.out GE315.out GE328.out GE342.out GE421.out)))
        have HO404 := Aside0.mk (Kd.R_lower (nwx9 (nwx9 (nwx9 (nwx9 (nwx9 (nwx9 (nwx9 (nwx9 (nwx9 (nwx9 (nwx9 (nwx9 (nwx9 (nwx9 (nwx9 ho1 (rRx9 HO_303003.out)) (rRx9 HO_303004.out)) (rRx9 HO_303005.out)) (rRx9 HO_316003.out)) (rRx9 HO_316004.out)) (rRx9 HO_316005.out)) (rRx9 HO_329003.out)) (rRx9 HO_329004.out)) (rRx9 HO_329005.out)) (rRx9 HO_343003.out)) (rRx9 HO_343004.out)) (rRx9 HO_343005.out)) (rRx9 HO389.out)) (rRx9 HO392.out)) (rRx9 HO395.out)) (below_size (be7x9 HB.out GE261.out GE262.out GE302.out GE315.out GE328.out GE342.out GE421.out)))
        have HO407 := Aside0.mk (Kd.R_lower (nwx9 (nwx9 (nwx9 (nwx9 (nwx9 (nwx9 (nwx9 (nwx9 (nwx9 (nwx9 (nwx9 (nwx9 (nwx9 (nwx9 (nwx9 ho2 (rRx9 HO_303003.out)) (rRx9 HO_303004.out)) (rRx9 HO_303005.out)) (rRx9 HO_316003.out)) (rRx9 HO_316004.out)) (rRx9 HO_316005.out)) (rRx9 HO_329003.out)) (rRx9 HO_329004.out)) (rRx9 HO_329005.out)) (rRx9 HO_343003.out)) (rRx9 HO_343004.out)) (rRx9 HO_343005.out)) (rRx9 HO389.out)) (rRx9 HO392.out)) (rRx9 HO395.out)) (below_size (be7x9 HB.out GE261.out GE262.out GE302.out GE315.out GE328.out GE342.out GE421.out)))
        replace HO_303003 := Aside0.mk (kp3x9 (rRx9 HO_303003.out) hb ho0 ho1 ho2)
        replace HO_303004 := Aside0.mk (kp3x9 (rRx9 HO_303004.out) hb ho0 ho1 ho2)
        replace HO_303005 := Aside0.mk (kp3x9 (rRx9 HO_303005.out) hb ho0 ho1 ho2)
        replace HO_316003 := Aside0.mk (kp3x9 (rRx9 HO_316003.out) hb ho0 ho1 ho2)
        replace HO_316004 := Aside0.mk (kp3x9 (rRx9 HO_316004.out) hb ho0 ho1 ho2)
        replace HO_316005 := Aside0.mk (kp3x9 (rRx9 HO_316005.out) hb ho0 ho1 ho2)
        replace HO_329003 := Aside0.mk (kp3x9 (rRx9 HO_329003.out) hb ho0 ho1 ho2)
        replace HO_329004 := Aside0.mk (kp3x9 (rRx9 HO_329004.out) hb ho0 ho1 ho2)
        replace HO_329005 := Aside0.mk (kp3x9 (rRx9 HO_329005.out) hb ho0 ho1 ho2)
        replace HO_343003 := Aside0.mk (kp3x9 (rRx9 HO_343003.out) hb ho0 ho1 ho2)
        replace HO_343004 := Aside0.mk (kp3x9 (rRx9 HO_343004.out) hb ho0 ho1 ho2)
        replace HO_343005 := Aside0.mk (kp3x9 (rRx9 HO_343005.out) hb ho0 ho1 ho2)
        replace HO389 := Aside0.mk (kp3x9 (rRx9 HO389.out) hb ho0 ho1 ho2)
        replace HO392 := Aside0.mk (kp3x9 (rRx9 HO392.out) hb ho0 ho1 ho2)
        replace HO395 := Aside0.mk (kp3x9 (rRx9 HO395.out) hb ho0 ho1 ho2)
        replace BK261 := Aside0.mk (blk_below (rBx9 BK261.out) hb)
        replace BK262 := Aside0.mk (blk_below (rBx9 BK262.out) hb)
        replace BK302 := Aside0.mk (blk_below (rBx9 BK302.out) hb)
        replace BK315 := Aside0.mk (blk_below (rBx9 BK315.out) hb)
        replace BK328 := Aside0.mk (blk_below (rBx9 BK328.out) hb)
        replace BK342 := Aside0.mk (blk_below (rBx9 BK342.out) hb)
        replace BK421 := Aside0.mk (blk_below (rBx9 BK421.out) hb)
        replace HB := Aside0.mk (below_step (be7x9 HB.out GE261.out GE262.out GE302.out GE315.out GE328.out GE342.out GE421.out) hb)
        (try clear hb)
        (try clear hb2)
        (try clear hk)
        (try clear hi)
        (try clear ho0)
        (try clear ho1)
        (try clear ho2)
        obtain ⟨Ao203, co203, eo203⟩ := Kd.R_slice HO389.out
        (first | subst eo203 | (injection eo203 with f1_ f2_ f3_; have f4_ := f1_.symm; have f5_ := f3_.symm; clear f1_ f2_ f3_; subst f4_; subst f5_))
        obtain ⟨Ao204, co204, eo204⟩ := Kd.R_slice HO392.out
        (first | subst eo204 | (injection eo204 with f1_ f2_ f3_; have f4_ := f1_.symm; have f5_ := f3_.symm; clear f1_ f2_ f3_; subst f4_; subst f5_))
        obtain ⟨Ao205, co205, eo205⟩ := Kd.R_slice HO395.out
        (first | subst eo205 | (injection eo205 with f1_ f2_ f3_; have f4_ := f1_.symm; have f5_ := f3_.symm; clear f1_ f2_ f3_; subst f4_; subst f5_))
        obtain ⟨Ao206, co206, eo206⟩ := Kd.R_slice HO401.out
        (first | subst eo206 | (injection eo206 with f1_ f2_ f3_; have f4_ := f1_.symm; have f5_ := f3_.symm; clear f1_ f2_ f3_; subst f4_; subst f5_))
        obtain ⟨Ao207, co207, eo207⟩ := Kd.R_slice HO404.out
        (first | subst eo207 | (injection eo207 with f1_ f2_ f3_; have f4_ := f1_.symm; have f5_ := f3_.symm; clear f1_ f2_ f3_; subst f4_; subst f5_))
        obtain ⟨Ao208, co208, eo208⟩ := Kd.R_slice HO407.out
        (first | subst eo208 | (injection eo208 with f1_ f2_ f3_; have f4_ := f1_.symm; have f5_ := f3_.symm; clear f1_ f2_ f3_; subst f4_; subst f5_))
        refine hK.out _ _ (ca6x9 BK261.out (cc6x9 BK262.out)) (fun hHeld => ?_)
        clear hK K
        refine norm_ (a' := ?_) ?_ ?_
        rotate_left
        ·show Act.put _ (some 102) _ = _
         simp only [Act.put, List.setIfInBounds_toArray, List.set_cons_zero, List.set_cons_succ, i64_w, i32_w]
         rfl
        refine one_ (i := 5) (N := some 104) #[true, true, true, true, true, true, false, false, false, true, false, false] rfl rfl (one_of HT_.out (by kernel_rfl)) (by decide) (fun K hK => ?_)
        refine goes_ Try.func41 (by kernel_rfl) rfl #[.agg #[.int .i64 t384, .int .i64 t385, .int .i64 t386, .slice Ao203 t387.length co203, .slice Ao204 t390.length co204, .slice Ao205 t393.length co205], .agg #[.int .i64 t396, .int .i64 t397, .int .i64 t398, .slice Ao206 t399.length co206, .slice Ao207 t402.length co207, .slice Ao208 t405.length co208], .int .i64 a2] (by rfl) rfl rfl mpx9 ?_
        with_reducible refine (impl_MixModels.calls kj182 t384 t385 t386 _ _ t387 _ _ t390 _ _ t393 t396 t397 t398 _ _ t399 _ _ t402 _ _ t405 a2 t408 t409 t410 t411 t414 t417 t420 _ ?side1 ?side2 ?side3 ?side4 ?side5 ?side6 ?side7 ?side8 ?side9 ?side10 ?side11 ?side12 A197.out).mono ?_
        (case side1 => exact cRx9 HO389.out)
        (case side2 => exact (Kd.R_reads' HO389.out).2.1)
        (case side3 => exact cRx9 HO392.out)
        (case side4 => exact (Kd.R_reads' HO392.out).2.1)
        (case side5 => exact cRx9 HO395.out)
        (case side6 => exact (Kd.R_reads' HO395.out).2.1)
        (case side7 => exact cRx9 HO401.out)
        (case side8 => exact (Kd.R_reads' HO401.out).2.1)
        (case side9 => exact cRx9 HO404.out)
        (case side10 => exact (Kd.R_reads' HO404.out).2.1)
        (case side11 => exact cRx9 HO407.out)
        (case side12 => exact (Kd.R_reads' HO407.out).2.1)
        rintro e w209 ⟨v412, v415, v418, rfl, ho0, ho1, ho2, hb⟩
        refine ⟨_, rfl, ?_⟩
        have HO413 := Aside0.mk (Kd.R_lower (nwx9 (nwx9 (nwx9 (nwx9 (nwx9 (nwx9 (nwx9 (nwx9 (nwx9 (nwx9 (nwx9 (nwx9 (nwx9 (nwx9 (nwx9 (nwx9 (nwx9 (nwx9 ho0 (rRx9 HO_303003.out)) (rRx9 HO_303004.out)) (rRx9 HO_303005.out)) (rRx9 HO_316003.out)) (rRx9 HO_316004.out)) (rRx9 HO_316005.out)) (rRx9 HO_329003.out)) (rRx9 HO_329004.out)) (rRx9 HO_329005.out)) (rRx9 HO_343003.out)) (rRx9 HO_343004.out)) (rRx9 HO_343005.out)) (rRx9 HO389.out)) (rRx9 HO392.out)) (rRx9 HO395.out)) (rRx9 HO401.out)) (rRx9 HO404.out)) (rRx9 HO407.out)) (below_size (be7x9 HB.out GE261.out GE262.out GE302.out GE315.out GE328.out GE342.out GE421.out)))
        have HO416 := Aside0.mk (Kd.R_lower (nwx9 (nwx9 (nwx9 (nwx9 (nwx9 (nwx9 (nwx9 (nwx9 (nwx9 (nwx9 (nwx9 (nwx9 (nwx9 (nwx9 (nwx9 (nwx9 (nwx9 (nwx9 ho1 (rRx9 HO_303003.out)) (rRx9 HO_303004.out)) (rRx9 HO_303005.out)) (rRx9 HO_316003.out)) (rRx9 HO_316004.out)) (rRx9 HO_316005.out)) (rRx9 HO_329003.out)) (rRx9 HO_329004.out)) (rRx9 HO_329005.out)) (rRx9 HO_343003.out)) (rRx9 HO_343004.out)) (rRx9 HO_343005.out)) (rRx9 HO389.out)) (rRx9 HO392.out)) (rRx9 HO395.out)) (rRx9 HO401.out)) (rRx9 HO404.out)) (rRx9 HO407.out)) (below_size (be7x9 HB.out GE261.out GE262.out GE302.out GE315.out GE328.out GE342.out GE421.out)))
        have HO419 := Aside0.mk (Kd.R_lower (nwx9 (nwx9 (nwx9 (nwx9 (nwx9 (nwx9 (nwx9 (nwx9 (nwx9 (nwx9 (nwx9 (nwx9 (nwx9 (nwx9 (nwx9 (nwx9 (nwx9 (nwx9 ho2 (rRx9 HO_303003.out)) (rRx9 HO_303004.out)) (rRx9 HO_303005.out)) (rRx9 HO_316003.out)) (rRx9 HO_316004.out)) (rRx9 HO_316005.out)) (rRx9 HO_329003.out)) (rRx9 HO_329004.out)) (rRx9 HO_329005.out)) (rRx9 HO_343003.out)) (rRx9 HO_343004.out)) (rRx9 HO_343005.out)) (rRx9 HO389.out)) (rRx9 HO392.out)) (rRx9 HO395.out)) (rRx9 HO401.out)) (rRx9 HO404.out)) (rRx9 HO407.out)) (below_size (be7x9 HB.out GE261.out GE262.out GE302.out GE315.out GE328.out GE342.out GE421.out)))
        replace HO_303003 := Aside0.mk (kp3x9 (rRx9 HO_303003.out) hb ho0 ho1 ho2)
        replace HO_303004 := Aside0.mk (kp3x9 (rRx9 HO_303004.out) hb ho0 ho1 ho2)
        replace HO_303005 := Aside0.mk (kp3x9 (rRx9 HO_303005.out) hb ho0 ho1 ho2)
        replace HO_316003 := Aside0.mk (kp3x9 (rRx9 HO_316003.out) hb ho0 ho1 ho2)
        replace HO_316004 := Aside0.mk (kp3x9 (rRx9 HO_316004.out) hb ho0 ho1 ho2)
        replace HO_316005 := Aside0.mk (kp3x9 (rRx9 HO_316005.out) hb ho0 ho1 ho2)
        replace HO_329003 := Aside0.mk (kp3x9 (rRx9 HO_329003.out) hb ho0 ho1 ho2)
        replace HO_329004 := Aside0.mk (kp3x9 (rRx9 HO_329004.out) hb ho0 ho1 ho2)
        replace HO_329005 := Aside0.mk (kp3x9 (rRx9 HO_329005.out) hb ho0 ho1 ho2)
        replace HO_343003 := Aside0.mk (kp3x9 (rRx9 HO_343003.out) hb ho0 ho1 ho2)
        replace HO_343004 := Aside0.mk (kp3x9 (rRx9 HO_343004.out) hb ho0 ho1 ho2)
        replace HO_343005 := Aside0.mk (kp3x9 (rRx9 HO_343005.out) hb ho0 ho1 ho2)
        replace HO389 := Aside0.mk (kp3x9 (rRx9 HO389.out) hb ho0 ho1 ho2)
        replace HO392 := Aside0.mk (kp3x9 (rRx9 HO392.out) hb ho0 ho1 ho2)
        replace HO395 := Aside0.mk (kp3x9 (rRx9 HO395.out) hb ho0 ho1 ho2)
        replace HO401 := Aside0.mk (kp3x9 (rRx9 HO401.out) hb ho0 ho1 ho2)
        replace HO404 := Aside0.mk (kp3x9 (rRx9 HO404.out) hb ho0 ho1 ho2)
        replace HO407 := Aside0.mk (kp3x9 (rRx9 HO407.out) hb ho0 ho1 ho2)
        replace BK261 := Aside0.mk (blk_below (rBx9 BK261.out) hb)
        replace BK262 := Aside0.mk (blk_below (rBx9 BK262.out) hb)
        replace BK302 := Aside0.mk (blk_below (rBx9 BK302.out) hb)
        replace BK315 := Aside0.mk (blk_below (rBx9 BK315.out) hb)
        replace BK328 := Aside0.mk (blk_below (rBx9 BK328.out) hb)
        replace BK342 := Aside0.mk (blk_below (rBx9 BK342.out) hb)
        replace BK421 := Aside0.mk (blk_below (rBx9 BK421.out) hb)
        replace HB := Aside0.mk (below_step (be7x9 HB.out GE261.out GE262.out GE302.out GE315.out GE328.out GE342.out GE421.out) hb)
        (try clear hb)
        (try clear hb2)
        (try clear hk)
        (try clear hi)
        (try clear ho0)
        (try clear ho1)
        (try clear ho2)
        refine hK.out _ _ (ca6x9 BK261.out (cc6x9 BK262.out)) (fun hHeld => ?_)
        clear hK K
        refine norm_ (a' := ?_) ?_ ?_
        rotate_left
        ·show Act.put _ (some 104) _ = _
         simp only [Act.put, List.setIfInBounds_toArray, List.set_cons_zero, List.set_cons_succ, i64_w, i32_w]
         rfl
        refine pure_ (i := 6) (N := some 98) (v := ?_) (a' := ?_) #[true, true, true, true, true, true, true, false, false, true, false, false] rfl rfl (any_of HT_.out (by kernel_rfl)) (fun _ _ _ h => h) (Or.inl ⟨by rfl, ?_⟩) ?_ ?_
        rotate_left
        ·intro w'
         go_simp
         with_reducible rfl
        rotate_left
        ·simp only [Act.put, List.setIfInBounds_toArray, List.set_cons_zero, List.set_cons_succ, i64_w, i32_w]
         rfl
        refine pure_ (i := 7) (N := some 105) (v := ?_) (a' := ?_) #[true, true, true, true, true, true, true, true, false, true, false, false] rfl rfl (any_of HT_.out (by kernel_rfl)) (fun _ _ _ h => h) (Or.inl ⟨by rfl, ?_⟩) ?_ ?_
        rotate_left
        ·intro w'
         go_simp
         with_reducible rfl
        rotate_left
        ·simp only [Act.put, List.setIfInBounds_toArray, List.set_cons_zero, List.set_cons_succ, i64_w, i32_w]
         rfl
        refine pure_ (i := 8) (N := some 106) (v := ?_) (a' := ?_) #[true, true, true, true, true, true, true, true, true, true, false, false] rfl rfl (any_of HT_.out (by kernel_rfl)) (fun _ _ _ h => h) (Or.inl ⟨by rfl, ?_⟩) ?_ ?_
        rotate_left
        ·intro w'
         go_simp
         with_reducible rfl
        rotate_left
        ·simp only [Act.put, List.setIfInBounds_toArray, List.set_cons_zero, List.set_cons_succ, i64_w, i32_w]
         rfl
        exact norm_ (by simp only [putAll, Act.put, List.setIfInBounds_toArray, List.set_cons_zero, List.set_cons_succ]) (hCont (.slice Ao203 t387.length co203, .slice Ao204 t390.length co204, .slice Ao205 t393.length co205, .slice Ao206 t399.length co206, .slice Ao207 t402.length co207, .slice Ao208 t405.length co208, v412, v415, v418, gb421) _ ⟨hHeld, (by exact rRx9 (mox9 HO389.out)), (by exact rRx9 (mox9 HO392.out)), (by exact rRx9 (mox9 HO395.out)), (by exact rRx9 (mox9 HO401.out)), (by exact rRx9 (mox9 HO404.out)), (by exact rRx9 (mox9 HO407.out)), (by exact rRx9 (mox9 HO413.out)), (by exact rRx9 (mox9 HO416.out)), (by exact rRx9 (mox9 HO419.out)), (by exact rRx9 (mox9 HO_303003.out)), (by exact rRx9 (mox9 HO_303004.out)), (by exact rRx9 (mox9 HO_303005.out)), (by exact rRx9 (mox9 HO_316003.out)), (by exact rRx9 (mox9 HO_316004.out)), (by exact rRx9 (mox9 HO_316005.out)), (by exact rRx9 (mox9 HO_329003.out)), (by exact rRx9 (mox9 HO_329004.out)), (by exact rRx9 (mox9 HO_329005.out)), (by exact rRx9 (mox9 HO_343003.out)), (by exact rRx9 (mox9 HO_343004.out)), (by exact rRx9 (mox9 HO_343005.out)), (rBx9 BK261.out), (rBx9 BK262.out), (rBx9 BK302.out), (rBx9 BK315.out), (rBx9 BK328.out), (rBx9 BK342.out), (rBx9 BK421.out), GW421.out, GE421.out, NB261_421.out, NB421_261.out, NB262_421.out, NB421_262.out, NB302_421.out, NB421_302.out, NB315_421.out, NB421_315.out, NB328_421.out, NB421_328.out, NB342_421.out, NB421_342.out, (be7x9 HB.out GE261.out GE262.out GE302.out GE315.out GE328.out GE342.out GE421.out)⟩)
      rintro ⟨v388, v391, v394, v400, v403, v406, v412, v415, v418, gb421⟩ w210 ⟨hS_, h0_, h1_, h2_, h3_, h4_, h5_, h6_, h7_, h8_, h9_, h10_, h11_, h12_, h13_, h14_, h15_, h16_, h17_, h18_, h19_, h20_, h21_, h22_, h23_, h24_, h25_, h26_, h27_, h28_, h29_, h30_, h31_, h32_, h33_, h34_, h35_, h36_, h37_, h38_, h39_, h40_, h41_, h42_⟩
      have n0_ : Aside0 (Kd.R (Kd.int .i64) 3 w210 w.heap.size (fun k_ => some k_ ≠ (v391 : Value).ownBlock ∧ some k_ ≠ (v394 : Value).ownBlock ∧ some k_ ≠ (v400 : Value).ownBlock ∧ some k_ ≠ (v403 : Value).ownBlock ∧ some k_ ≠ (v406 : Value).ownBlock ∧ some k_ ≠ (v412 : Value).ownBlock ∧ some k_ ≠ (v415 : Value).ownBlock ∧ some k_ ≠ (v418 : Value).ownBlock ∧ some k_ ≠ (.slice Ao49 t292.length co49 : Value).ownBlock ∧ some k_ ≠ (.slice Ao51 t295.length co51 : Value).ownBlock ∧ some k_ ≠ (.slice Ao53 t298.length co53 : Value).ownBlock ∧ some k_ ≠ (.slice Ao63 t371.length co63 : Value).ownBlock ∧ some k_ ≠ (.slice Ao64 t372.length co64 : Value).ownBlock ∧ some k_ ≠ (.slice Ao65 t373.length co65 : Value).ownBlock ∧ some k_ ≠ (.slice Ao75 t375.length co75 : Value).ownBlock ∧ some k_ ≠ (.slice Ao76 t376.length co76 : Value).ownBlock ∧ some k_ ≠ (.slice Ao77 t377.length co77 : Value).ownBlock ∧ some k_ ≠ (.slice Ao87 t380.length co87 : Value).ownBlock ∧ some k_ ≠ (.slice Ao88 t381.length co88 : Value).ownBlock ∧ some k_ ≠ (.slice Ao89 t382.length co89 : Value).ownBlock) v388 t387) := ⟨h0_⟩
      have n1_ : Aside0 (Kd.R (Kd.int .i64) 3 w210 w.heap.size (fun k_ => some k_ ≠ (v388 : Value).ownBlock ∧ some k_ ≠ (v394 : Value).ownBlock ∧ some k_ ≠ (v400 : Value).ownBlock ∧ some k_ ≠ (v403 : Value).ownBlock ∧ some k_ ≠ (v406 : Value).ownBlock ∧ some k_ ≠ (v412 : Value).ownBlock ∧ some k_ ≠ (v415 : Value).ownBlock ∧ some k_ ≠ (v418 : Value).ownBlock ∧ some k_ ≠ (.slice Ao49 t292.length co49 : Value).ownBlock ∧ some k_ ≠ (.slice Ao51 t295.length co51 : Value).ownBlock ∧ some k_ ≠ (.slice Ao53 t298.length co53 : Value).ownBlock ∧ some k_ ≠ (.slice Ao63 t371.length co63 : Value).ownBlock ∧ some k_ ≠ (.slice Ao64 t372.length co64 : Value).ownBlock ∧ some k_ ≠ (.slice Ao65 t373.length co65 : Value).ownBlock ∧ some k_ ≠ (.slice Ao75 t375.length co75 : Value).ownBlock ∧ some k_ ≠ (.slice Ao76 t376.length co76 : Value).ownBlock ∧ some k_ ≠ (.slice Ao77 t377.length co77 : Value).ownBlock ∧ some k_ ≠ (.slice Ao87 t380.length co87 : Value).ownBlock ∧ some k_ ≠ (.slice Ao88 t381.length co88 : Value).ownBlock ∧ some k_ ≠ (.slice Ao89 t382.length co89 : Value).ownBlock) v391 t390) := ⟨h1_⟩
      have n2_ : Aside0 (Kd.R (Kd.int .i64) 3 w210 w.heap.size (fun k_ => some k_ ≠ (v388 : Value).ownBlock ∧ some k_ ≠ (v391 : Value).ownBlock ∧ some k_ ≠ (v400 : Value).ownBlock ∧ some k_ ≠ (v403 : Value).ownBlock ∧ some k_ ≠ (v406 : Value).ownBlock ∧ some k_ ≠ (v412 : Value).ownBlock ∧ some k_ ≠ (v415 : Value).ownBlock ∧ some k_ ≠ (v418 : Value).ownBlock ∧ some k_ ≠ (.slice Ao49 t292.length co49 : Value).ownBlock ∧ some k_ ≠ (.slice Ao51 t295.length co51 : Value).ownBlock ∧ some k_ ≠ (.slice Ao53 t298.length co53 : Value).ownBlock ∧ some k_ ≠ (.slice Ao63 t371.length co63 : Value).ownBlock ∧ some k_ ≠ (.slice Ao64 t372.length co64 : Value).ownBlock ∧ some k_ ≠ (.slice Ao65 t373.length co65 : Value).ownBlock ∧ some k_ ≠ (.slice Ao75 t375.length co75 : Value).ownBlock ∧ some k_ ≠ (.slice Ao76 t376.length co76 : Value).ownBlock ∧ some k_ ≠ (.slice Ao77 t377.length co77 : Value).ownBlock ∧ some k_ ≠ (.slice Ao87 t380.length co87 : Value).ownBlock ∧ some k_ ≠ (.slice Ao88 t381.length co88 : Value).ownBlock ∧ some k_ ≠ (.slice Ao89 t382.length co89 : Value).ownBlock) v394 t393) := ⟨h2_⟩
      have n3_ : Aside0 (Kd.R (Kd.int .i64) 3 w210 w.heap.size (fun k_ => some k_ ≠ (v388 : Value).ownBlock ∧ some k_ ≠ (v391 : Value).ownBlock ∧ some k_ ≠ (v394 : Value).ownBlock ∧ some k_ ≠ (v403 : Value).ownBlock ∧ some k_ ≠ (v406 : Value).ownBlock ∧ some k_ ≠ (v412 : Value).ownBlock ∧ some k_ ≠ (v415 : Value).ownBlock ∧ some k_ ≠ (v418 : Value).ownBlock ∧ some k_ ≠ (.slice Ao49 t292.length co49 : Value).ownBlock ∧ some k_ ≠ (.slice Ao51 t295.length co51 : Value).ownBlock ∧ some k_ ≠ (.slice Ao53 t298.length co53 : Value).ownBlock ∧ some k_ ≠ (.slice Ao63 t371.length co63 : Value).ownBlock ∧ some k_ ≠ (.slice Ao64 t372.length co64 : Value).ownBlock ∧ some k_ ≠ (.slice Ao65 t373.length co65 : Value).ownBlock ∧ some k_ ≠ (.slice Ao75 t375.length co75 : Value).ownBlock ∧ some k_ ≠ (.slice Ao76 t376.length co76 : Value).ownBlock ∧ some k_ ≠ (.slice Ao77 t377.length co77 : Value).ownBlock ∧ some k_ ≠ (.slice Ao87 t380.length co87 : Value).ownBlock ∧ some k_ ≠ (.slice Ao88 t381.length co88 : Value).ownBlock ∧ some k_ ≠ (.slice Ao89 t382.length co89 : Value).ownBlock) v400 t399) := ⟨h3_⟩
      have n4_ : Aside0 (Kd.R (Kd.int .i64) 3 w210 w.heap.size (fun k_ => some k_ ≠ (v388 : Value).ownBlock ∧ some k_ ≠ (v391 : Value).ownBlock ∧ some k_ ≠ (v394 : Value).ownBlock ∧ some k_ ≠ (v400 : Value).ownBlock ∧ some k_ ≠ (v406 : Value).ownBlock ∧ some k_ ≠ (v412 : Value).ownBlock ∧ some k_ ≠ (v415 : Value).ownBlock ∧ some k_ ≠ (v418 : Value).ownBlock ∧ some k_ ≠ (.slice Ao49 t292.length co49 : Value).ownBlock ∧ some k_ ≠ (.slice Ao51 t295.length co51 : Value).ownBlock ∧ some k_ ≠ (.slice Ao53 t298.length co53 : Value).ownBlock ∧ some k_ ≠ (.slice Ao63 t371.length co63 : Value).ownBlock ∧ some k_ ≠ (.slice Ao64 t372.length co64 : Value).ownBlock ∧ some k_ ≠ (.slice Ao65 t373.length co65 : Value).ownBlock ∧ some k_ ≠ (.slice Ao75 t375.length co75 : Value).ownBlock ∧ some k_ ≠ (.slice Ao76 t376.length co76 : Value).ownBlock ∧ some k_ ≠ (.slice Ao77 t377.length co77 : Value).ownBlock ∧ some k_ ≠ (.slice Ao87 t380.length co87 : Value).ownBlock ∧ some k_ ≠ (.slice Ao88 t381.length co88 : Value).ownBlock ∧ some k_ ≠ (.slice Ao89 t382.length co89 : Value).ownBlock) v403 t402) := ⟨h4_⟩
      have n5_ : Aside0 (Kd.R (Kd.int .i64) 3 w210 w.heap.size (fun k_ => some k_ ≠ (v388 : Value).ownBlock ∧ some k_ ≠ (v391 : Value).ownBlock ∧ some k_ ≠ (v394 : Value).ownBlock ∧ some k_ ≠ (v400 : Value).ownBlock ∧ some k_ ≠ (v403 : Value).ownBlock ∧ some k_ ≠ (v412 : Value).ownBlock ∧ some k_ ≠ (v415 : Value).ownBlock ∧ some k_ ≠ (v418 : Value).ownBlock ∧ some k_ ≠ (.slice Ao49 t292.length co49 : Value).ownBlock ∧ some k_ ≠ (.slice Ao51 t295.length co51 : Value).ownBlock ∧ some k_ ≠ (.slice Ao53 t298.length co53 : Value).ownBlock ∧ some k_ ≠ (.slice Ao63 t371.length co63 : Value).ownBlock ∧ some k_ ≠ (.slice Ao64 t372.length co64 : Value).ownBlock ∧ some k_ ≠ (.slice Ao65 t373.length co65 : Value).ownBlock ∧ some k_ ≠ (.slice Ao75 t375.length co75 : Value).ownBlock ∧ some k_ ≠ (.slice Ao76 t376.length co76 : Value).ownBlock ∧ some k_ ≠ (.slice Ao77 t377.length co77 : Value).ownBlock ∧ some k_ ≠ (.slice Ao87 t380.length co87 : Value).ownBlock ∧ some k_ ≠ (.slice Ao88 t381.length co88 : Value).ownBlock ∧ some k_ ≠ (.slice Ao89 t382.length co89 : Value).ownBlock) v406 t405) := ⟨h5_⟩
      have n6_ : Aside0 (Kd.R (Kd.int .i64) 3 w210 w.heap.size (fun k_ => some k_ ≠ (v388 : Value).ownBlock ∧ some k_ ≠ (v391 : Value).ownBlock ∧ some k_ ≠ (v394 : Value).ownBlock ∧ some k_ ≠ (v400 : Value).ownBlock ∧ some k_ ≠ (v403 : Value).ownBlock ∧ some k_ ≠ (v406 : Value).ownBlock ∧ some k_ ≠ (v415 : Value).ownBlock ∧ some k_ ≠ (v418 : Value).ownBlock ∧ some k_ ≠ (.slice Ao49 t292.length co49 : Value).ownBlock ∧ some k_ ≠ (.slice Ao51 t295.length co51 : Value).ownBlock ∧ some k_ ≠ (.slice Ao53 t298.length co53 : Value).ownBlock ∧ some k_ ≠ (.slice Ao63 t371.length co63 : Value).ownBlock ∧ some k_ ≠ (.slice Ao64 t372.length co64 : Value).ownBlock ∧ some k_ ≠ (.slice Ao65 t373.length co65 : Value).ownBlock ∧ some k_ ≠ (.slice Ao75 t375.length co75 : Value).ownBlock ∧ some k_ ≠ (.slice Ao76 t376.length co76 : Value).ownBlock ∧ some k_ ≠ (.slice Ao77 t377.length co77 : Value).ownBlock ∧ some k_ ≠ (.slice Ao87 t380.length co87 : Value).ownBlock ∧ some k_ ≠ (.slice Ao88 t381.length co88 : Value).ownBlock ∧ some k_ ≠ (.slice Ao89 t382.length co89 : Value).ownBlock) v412 t411) := ⟨h6_⟩
      have n7_ : Aside0 (Kd.R (Kd.int .i64) 3 w210 w.heap.size (fun k_ => some k_ ≠ (v388 : Value).ownBlock ∧ some k_ ≠ (v391 : Value).ownBlock ∧ some k_ ≠ (v394 : Value).ownBlock ∧ some k_ ≠ (v400 : Value).ownBlock ∧ some k_ ≠ (v403 : Value).ownBlock ∧ some k_ ≠ (v406 : Value).ownBlock ∧ some k_ ≠ (v412 : Value).ownBlock ∧ some k_ ≠ (v418 : Value).ownBlock ∧ some k_ ≠ (.slice Ao49 t292.length co49 : Value).ownBlock ∧ some k_ ≠ (.slice Ao51 t295.length co51 : Value).ownBlock ∧ some k_ ≠ (.slice Ao53 t298.length co53 : Value).ownBlock ∧ some k_ ≠ (.slice Ao63 t371.length co63 : Value).ownBlock ∧ some k_ ≠ (.slice Ao64 t372.length co64 : Value).ownBlock ∧ some k_ ≠ (.slice Ao65 t373.length co65 : Value).ownBlock ∧ some k_ ≠ (.slice Ao75 t375.length co75 : Value).ownBlock ∧ some k_ ≠ (.slice Ao76 t376.length co76 : Value).ownBlock ∧ some k_ ≠ (.slice Ao77 t377.length co77 : Value).ownBlock ∧ some k_ ≠ (.slice Ao87 t380.length co87 : Value).ownBlock ∧ some k_ ≠ (.slice Ao88 t381.length co88 : Value).ownBlock ∧ some k_ ≠ (.slice Ao89 t382.length co89 : Value).ownBlock) v415 t414) := ⟨h7_⟩
      have n8_ : Aside0 (Kd.R (Kd.int .i64) 3 w210 w.heap.size (fun k_ => some k_ ≠ (v388 : Value).ownBlock ∧ some k_ ≠ (v391 : Value).ownBlock ∧ some k_ ≠ (v394 : Value).ownBlock ∧ some k_ ≠ (v400 : Value).ownBlock ∧ some k_ ≠ (v403 : Value).ownBlock ∧ some k_ ≠ (v406 : Value).ownBlock ∧ some k_ ≠ (v412 : Value).ownBlock ∧ some k_ ≠ (v415 : Value).ownBlock ∧ some k_ ≠ (.slice Ao49 t292.length co49 : Value).ownBlock ∧ some k_ ≠ (.slice Ao51 t295.length co51 : Value).ownBlock ∧ some k_ ≠ (.slice Ao53 t298.length co53 : Value).ownBlock ∧ some k_ ≠ (.slice Ao63 t371.length co63 : Value).ownBlock ∧ some k_ ≠ (.slice Ao64 t372.length co64 : Value).ownBlock ∧ some k_ ≠ (.slice Ao65 t373.length co65 : Value).ownBlock ∧ some k_ ≠ (.slice Ao75 t375.length co75 : Value).ownBlock ∧ some k_ ≠ (.slice Ao76 t376.length co76 : Value).ownBlock ∧ some k_ ≠ (.slice Ao77 t377.length co77 : Value).ownBlock ∧ some k_ ≠ (.slice Ao87 t380.length co87 : Value).ownBlock ∧ some k_ ≠ (.slice Ao88 t381.length co88 : Value).ownBlock ∧ some k_ ≠ (.slice Ao89 t382.length co89 : Value).ownBlock) v418 t417) := ⟨h8_⟩
      have n9_ : Aside0 (Kd.R (Kd.int .i64) 3 w210 w.heap.size (fun k_ => some k_ ≠ (v388 : Value).ownBlock ∧ some k_ ≠ (v391 : Value).ownBlock ∧ some k_ ≠ (v394 : Value).ownBlock ∧ some k_ ≠ (v400 : Value).ownBlock ∧ some k_ ≠ (v403 : Value).ownBlock ∧ some k_ ≠ (v406 : Value).ownBlock ∧ some k_ ≠ (v412 : Value).ownBlock ∧ some k_ ≠ (v415 : Value).ownBlock ∧ some k_ ≠ (v418 : Value).ownBlock ∧ some k_ ≠ (.slice Ao51 t295.length co51 : Value).ownBlock ∧ some k_ ≠ (.slice Ao53 t298.length co53 : Value).ownBlock ∧ some k_ ≠ (.slice Ao63 t371.length co63 : Value).ownBlock ∧ some k_ ≠ (.slice Ao64 t372.length co64 : Value).ownBlock ∧ some k_ ≠ (.slice Ao65 t373.length co65 : Value).ownBlock ∧ some k_ ≠ (.slice Ao75 t375.length co75 : Value).ownBlock ∧ some k_ ≠ (.slice Ao76 t376.length co76 : Value).ownBlock ∧ some k_ ≠ (.slice Ao77 t377.length co77 : Value).ownBlock ∧ some k_ ≠ (.slice Ao87 t380.length co87 : Value).ownBlock ∧ some k_ ≠ (.slice Ao88 t381.length co88 : Value).ownBlock ∧ some k_ ≠ (.slice Ao89 t382.length co89 : Value).ownBlock) (.slice Ao49 t292.length co49) t292) := ⟨h9_⟩
      have n10_ : Aside0 (Kd.R (Kd.int .i64) 3 w210 w.heap.size (fun k_ => some k_ ≠ (v388 : Value).ownBlock ∧ some k_ ≠ (v391 : Value).ownBlock ∧ some k_ ≠ (v394 : Value).ownBlock ∧ some k_ ≠ (v400 : Value).ownBlock ∧ some k_ ≠ (v403 : Value).ownBlock ∧ some k_ ≠ (v406 : Value).ownBlock ∧ some k_ ≠ (v412 : Value).ownBlock ∧ some k_ ≠ (v415 : Value).ownBlock ∧ some k_ ≠ (v418 : Value).ownBlock ∧ some k_ ≠ (.slice Ao49 t292.length co49 : Value).ownBlock ∧ some k_ ≠ (.slice Ao53 t298.length co53 : Value).ownBlock ∧ some k_ ≠ (.slice Ao63 t371.length co63 : Value).ownBlock ∧ some k_ ≠ (.slice Ao64 t372.length co64 : Value).ownBlock ∧ some k_ ≠ (.slice Ao65 t373.length co65 : Value).ownBlock ∧ some k_ ≠ (.slice Ao75 t375.length co75 : Value).ownBlock ∧ some k_ ≠ (.slice Ao76 t376.length co76 : Value).ownBlock ∧ some k_ ≠ (.slice Ao77 t377.length co77 : Value).ownBlock ∧ some k_ ≠ (.slice Ao87 t380.length co87 : Value).ownBlock ∧ some k_ ≠ (.slice Ao88 t381.length co88 : Value).ownBlock ∧ some k_ ≠ (.slice Ao89 t382.length co89 : Value).ownBlock) (.slice Ao51 t295.length co51) t295) := ⟨h10_⟩
      have n11_ : Aside0 (Kd.R (Kd.int .i64) 3 w210 w.heap.size (fun k_ => some k_ ≠ (v388 : Value).ownBlock ∧ some k_ ≠ (v391 : Value).ownBlock ∧ some k_ ≠ (v394 : Value).ownBlock ∧ some k_ ≠ (v400 : Value).ownBlock ∧ some k_ ≠ (v403 : Value).ownBlock ∧ some k_ ≠ (v406 : Value).ownBlock ∧ some k_ ≠ (v412 : Value).ownBlock ∧ some k_ ≠ (v415 : Value).ownBlock ∧ some k_ ≠ (v418 : Value).ownBlock ∧ some k_ ≠ (.slice Ao49 t292.length co49 : Value).ownBlock ∧ some k_ ≠ (.slice Ao51 t295.length co51 : Value).ownBlock ∧ some k_ ≠ (.slice Ao63 t371.length co63 : Value).ownBlock ∧ some k_ ≠ (.slice Ao64 t372.length co64 : Value).ownBlock ∧ some k_ ≠ (.slice Ao65 t373.length co65 : Value).ownBlock ∧ some k_ ≠ (.slice Ao75 t375.length co75 : Value).ownBlock ∧ some k_ ≠ (.slice Ao76 t376.length co76 : Value).ownBlock ∧ some k_ ≠ (.slice Ao77 t377.length co77 : Value).ownBlock ∧ some k_ ≠ (.slice Ao87 t380.length co87 : Value).ownBlock ∧ some k_ ≠ (.slice Ao88 t381.length co88 : Value).ownBlock ∧ some k_ ≠ (.slice Ao89 t382.length co89 : Value).ownBlock) (.slice Ao53 t298.length co53) t298) := ⟨h11_⟩
      have n12_ : Aside0 (Kd.R (Kd.int .i64) 3 w210 w.heap.size (fun k_ => some k_ ≠ (v388 : Value).ownBlock ∧ some k_ ≠ (v391 : Value).ownBlock ∧ some k_ ≠ (v394 : Value).ownBlock ∧ some k_ ≠ (v400 : Value).ownBlock ∧ some k_ ≠ (v403 : Value).ownBlock ∧ some k_ ≠ (v406 : Value).ownBlock ∧ some k_ ≠ (v412 : Value).ownBlock ∧ some k_ ≠ (v415 : Value).ownBlock ∧ some k_ ≠ (v418 : Value).ownBlock ∧ some k_ ≠ (.slice Ao49 t292.length co49 : Value).ownBlock ∧ some k_ ≠ (.slice Ao51 t295.length co51 : Value).ownBlock ∧ some k_ ≠ (.slice Ao53 t298.length co53 : Value).ownBlock ∧ some k_ ≠ (.slice Ao64 t372.length co64 : Value).ownBlock ∧ some k_ ≠ (.slice Ao65 t373.length co65 : Value).ownBlock ∧ some k_ ≠ (.slice Ao75 t375.length co75 : Value).ownBlock ∧ some k_ ≠ (.slice Ao76 t376.length co76 : Value).ownBlock ∧ some k_ ≠ (.slice Ao77 t377.length co77 : Value).ownBlock ∧ some k_ ≠ (.slice Ao87 t380.length co87 : Value).ownBlock ∧ some k_ ≠ (.slice Ao88 t381.length co88 : Value).ownBlock ∧ some k_ ≠ (.slice Ao89 t382.length co89 : Value).ownBlock) (.slice Ao63 t371.length co63) t371) := ⟨h12_⟩
      have n13_ : Aside0 (Kd.R (Kd.int .i64) 3 w210 w.heap.size (fun k_ => some k_ ≠ (v388 : Value).ownBlock ∧ some k_ ≠ (v391 : Value).ownBlock ∧ some k_ ≠ (v394 : Value).ownBlock ∧ some k_ ≠ (v400 : Value).ownBlock ∧ some k_ ≠ (v403 : Value).ownBlock ∧ some k_ ≠ (v406 : Value).ownBlock ∧ some k_ ≠ (v412 : Value).ownBlock ∧ some k_ ≠ (v415 : Value).ownBlock ∧ some k_ ≠ (v418 : Value).ownBlock ∧ some k_ ≠ (.slice Ao49 t292.length co49 : Value).ownBlock ∧ some k_ ≠ (.slice Ao51 t295.length co51 : Value).ownBlock ∧ some k_ ≠ (.slice Ao53 t298.length co53 : Value).ownBlock ∧ some k_ ≠ (.slice Ao63 t371.length co63 : Value).ownBlock ∧ some k_ ≠ (.slice Ao65 t373.length co65 : Value).ownBlock ∧ some k_ ≠ (.slice Ao75 t375.length co75 : Value).ownBlock ∧ some k_ ≠ (.slice Ao76 t376.length co76 : Value).ownBlock ∧ some k_ ≠ (.slice Ao77 t377.length co77 : Value).ownBlock ∧ some k_ ≠ (.slice Ao87 t380.length co87 : Value).ownBlock ∧ some k_ ≠ (.slice Ao88 t381.length co88 : Value).ownBlock ∧ some k_ ≠ (.slice Ao89 t382.length co89 : Value).ownBlock) (.slice Ao64 t372.length co64) t372) := ⟨h13_⟩
      have n14_ : Aside0 (Kd.R (Kd.int .i64) 3 w210 w.heap.size (fun k_ => some k_ ≠ (v388 : Value).ownBlock ∧ some k_ ≠ (v391 : Value).ownBlock ∧ some k_ ≠ (v394 : Value).ownBlock ∧ some k_ ≠ (v400 : Value).ownBlock ∧ some k_ ≠ (v403 : Value).ownBlock ∧ some k_ ≠ (v406 : Value).ownBlock ∧ some k_ ≠ (v412 : Value).ownBlock ∧ some k_ ≠ (v415 : Value).ownBlock ∧ some k_ ≠ (v418 : Value).ownBlock ∧ some k_ ≠ (.slice Ao49 t292.length co49 : Value).ownBlock ∧ some k_ ≠ (.slice Ao51 t295.length co51 : Value).ownBlock ∧ some k_ ≠ (.slice Ao53 t298.length co53 : Value).ownBlock ∧ some k_ ≠ (.slice Ao63 t371.length co63 : Value).ownBlock ∧ some k_ ≠ (.slice Ao64 t372.length co64 : Value).ownBlock ∧ some k_ ≠ (.slice Ao75 t375.length co75 : Value).ownBlock ∧ some k_ ≠ (.slice Ao76 t376.length co76 : Value).ownBlock ∧ some k_ ≠ (.slice Ao77 t377.length co77 : Value).ownBlock ∧ some k_ ≠ (.slice Ao87 t380.length co87 : Value).ownBlock ∧ some k_ ≠ (.slice Ao88 t381.length co88 : Value).ownBlock ∧ some k_ ≠ (.slice Ao89 t382.length co89 : Value).ownBlock) (.slice Ao65 t373.length co65) t373) := ⟨h14_⟩
      have n15_ : Aside0 (Kd.R (Kd.int .i64) 3 w210 w.heap.size (fun k_ => some k_ ≠ (v388 : Value).ownBlock ∧ some k_ ≠ (v391 : Value).ownBlock ∧ some k_ ≠ (v394 : Value).ownBlock ∧ some k_ ≠ (v400 : Value).ownBlock ∧ some k_ ≠ (v403 : Value).ownBlock ∧ some k_ ≠ (v406 : Value).ownBlock ∧ some k_ ≠ (v412 : Value).ownBlock ∧ some k_ ≠ (v415 : Value).ownBlock ∧ some k_ ≠ (v418 : Value).ownBlock ∧ some k_ ≠ (.slice Ao49 t292.length co49 : Value).ownBlock ∧ some k_ ≠ (.slice Ao51 t295.length co51 : Value).ownBlock ∧ some k_ ≠ (.slice Ao53 t298.length co53 : Value).ownBlock ∧ some k_ ≠ (.slice Ao63 t371.length co63 : Value).ownBlock ∧ some k_ ≠ (.slice Ao64 t372.length co64 : Value).ownBlock ∧ some k_ ≠ (.slice Ao65 t373.length co65 : Value).ownBlock ∧ some k_ ≠ (.slice Ao76 t376.length co76 : Value).ownBlock ∧ some k_ ≠ (.slice Ao77 t377.length co77 : Value).ownBlock ∧ some k_ ≠ (.slice Ao87 t380.length co87 : Value).ownBlock ∧ some k_ ≠ (.slice Ao88 t381.length co88 : Value).ownBlock ∧ some k_ ≠ (.slice Ao89 t382.length co89 : Value).ownBlock) (.slice Ao75 t375.length co75) t375) := ⟨h15_⟩
      have n16_ : Aside0 (Kd.R (Kd.int .i64) 3 w210 w.heap.size (fun k_ => some k_ ≠ (v388 : Value).ownBlock ∧ some k_ ≠ (v391 : Value).ownBlock ∧ some k_ ≠ (v394 : Value).ownBlock ∧ some k_ ≠ (v400 : Value).ownBlock ∧ some k_ ≠ (v403 : Value).ownBlock ∧ some k_ ≠ (v406 : Value).ownBlock ∧ some k_ ≠ (v412 : Value).ownBlock ∧ some k_ ≠ (v415 : Value).ownBlock ∧ some k_ ≠ (v418 : Value).ownBlock ∧ some k_ ≠ (.slice Ao49 t292.length co49 : Value).ownBlock ∧ some k_ ≠ (.slice Ao51 t295.length co51 : Value).ownBlock ∧ some k_ ≠ (.slice Ao53 t298.length co53 : Value).ownBlock ∧ some k_ ≠ (.slice Ao63 t371.length co63 : Value).ownBlock ∧ some k_ ≠ (.slice Ao64 t372.length co64 : Value).ownBlock ∧ some k_ ≠ (.slice Ao65 t373.length co65 : Value).ownBlock ∧ some k_ ≠ (.slice Ao75 t375.length co75 : Value).ownBlock ∧ some k_ ≠ (.slice Ao77 t377.length co77 : Value).ownBlock ∧ some k_ ≠ (.slice Ao87 t380.length co87 : Value).ownBlock ∧ some k_ ≠ (.slice Ao88 t381.length co88 : Value).ownBlock ∧ some k_ ≠ (.slice Ao89 t382.length co89 : Value).ownBlock) (.slice Ao76 t376.length co76) t376) := ⟨h16_⟩
      have n17_ : Aside0 (Kd.R (Kd.int .i64) 3 w210 w.heap.size (fun k_ => some k_ ≠ (v388 : Value).ownBlock ∧ some k_ ≠ (v391 : Value).ownBlock ∧ some k_ ≠ (v394 : Value).ownBlock ∧ some k_ ≠ (v400 : Value).ownBlock ∧ some k_ ≠ (v403 : Value).ownBlock ∧ some k_ ≠ (v406 : Value).ownBlock ∧ some k_ ≠ (v412 : Value).ownBlock ∧ some k_ ≠ (v415 : Value).ownBlock ∧ some k_ ≠ (v418 : Value).ownBlock ∧ some k_ ≠ (.slice Ao49 t292.length co49 : Value).ownBlock ∧ some k_ ≠ (.slice Ao51 t295.length co51 : Value).ownBlock ∧ some k_ ≠ (.slice Ao53 t298.length co53 : Value).ownBlock ∧ some k_ ≠ (.slice Ao63 t371.length co63 : Value).ownBlock ∧ some k_ ≠ (.slice Ao64 t372.length co64 : Value).ownBlock ∧ some k_ ≠ (.slice Ao65 t373.length co65 : Value).ownBlock ∧ some k_ ≠ (.slice Ao75 t375.length co75 : Value).ownBlock ∧ some k_ ≠ (.slice Ao76 t376.length co76 : Value).ownBlock ∧ some k_ ≠ (.slice Ao87 t380.length co87 : Value).ownBlock ∧ some k_ ≠ (.slice Ao88 t381.length co88 : Value).ownBlock ∧ some k_ ≠ (.slice Ao89 t382.length co89 : Value).ownBlock) (.slice Ao77 t377.length co77) t377) := ⟨h17_⟩
      have n18_ : Aside0 (Kd.R (Kd.int .i64) 3 w210 w.heap.size (fun k_ => some k_ ≠ (v388 : Value).ownBlock ∧ some k_ ≠ (v391 : Value).ownBlock ∧ some k_ ≠ (v394 : Value).ownBlock ∧ some k_ ≠ (v400 : Value).ownBlock ∧ some k_ ≠ (v403 : Value).ownBlock ∧ some k_ ≠ (v406 : Value).ownBlock ∧ some k_ ≠ (v412 : Value).ownBlock ∧ some k_ ≠ (v415 : Value).ownBlock ∧ some k_ ≠ (v418 : Value).ownBlock ∧ some k_ ≠ (.slice Ao49 t292.length co49 : Value).ownBlock ∧ some k_ ≠ (.slice Ao51 t295.length co51 : Value).ownBlock ∧ some k_ ≠ (.slice Ao53 t298.length co53 : Value).ownBlock ∧ some k_ ≠ (.slice Ao63 t371.length co63 : Value).ownBlock ∧ some k_ ≠ (.slice Ao64 t372.length co64 : Value).ownBlock ∧ some k_ ≠ (.slice Ao65 t373.length co65 : Value).ownBlock ∧ some k_ ≠ (.slice Ao75 t375.length co75 : Value).ownBlock ∧ some k_ ≠ (.slice Ao76 t376.length co76 : Value).ownBlock ∧ some k_ ≠ (.slice Ao77 t377.length co77 : Value).ownBlock ∧ some k_ ≠ (.slice Ao88 t381.length co88 : Value).ownBlock ∧ some k_ ≠ (.slice Ao89 t382.length co89 : Value).ownBlock) (.slice Ao87 t380.length co87) t380) := ⟨h18_⟩
      have n19_ : Aside0 (Kd.R (Kd.int .i64) 3 w210 w.heap.size (fun k_ => some k_ ≠ (v388 : Value).ownBlock ∧ some k_ ≠ (v391 : Value).ownBlock ∧ some k_ ≠ (v394 : Value).ownBlock ∧ some k_ ≠ (v400 : Value).ownBlock ∧ some k_ ≠ (v403 : Value).ownBlock ∧ some k_ ≠ (v406 : Value).ownBlock ∧ some k_ ≠ (v412 : Value).ownBlock ∧ some k_ ≠ (v415 : Value).ownBlock ∧ some k_ ≠ (v418 : Value).ownBlock ∧ some k_ ≠ (.slice Ao49 t292.length co49 : Value).ownBlock ∧ some k_ ≠ (.slice Ao51 t295.length co51 : Value).ownBlock ∧ some k_ ≠ (.slice Ao53 t298.length co53 : Value).ownBlock ∧ some k_ ≠ (.slice Ao63 t371.length co63 : Value).ownBlock ∧ some k_ ≠ (.slice Ao64 t372.length co64 : Value).ownBlock ∧ some k_ ≠ (.slice Ao65 t373.length co65 : Value).ownBlock ∧ some k_ ≠ (.slice Ao75 t375.length co75 : Value).ownBlock ∧ some k_ ≠ (.slice Ao76 t376.length co76 : Value).ownBlock ∧ some k_ ≠ (.slice Ao77 t377.length co77 : Value).ownBlock ∧ some k_ ≠ (.slice Ao87 t380.length co87 : Value).ownBlock ∧ some k_ ≠ (.slice Ao89 t382.length co89 : Value).ownBlock) (.slice Ao88 t381.length co88) t381) := ⟨h19_⟩
      have n20_ : Aside0 (Kd.R (Kd.int .i64) 3 w210 w.heap.size (fun k_ => some k_ ≠ (v388 : Value).ownBlock ∧ some k_ ≠ (v391 : Value).ownBlock ∧ some k_ ≠ (v394 : Value).ownBlock ∧ some k_ ≠ (v400 : Value).ownBlock ∧ some k_ ≠ (v403 : Value).ownBlock ∧ some k_ ≠ (v406 : Value).ownBlock ∧ some k_ ≠ (v412 : Value).ownBlock ∧ some k_ ≠ (v415 : Value).ownBlock ∧ some k_ ≠ (v418 : Value).ownBlock ∧ some k_ ≠ (.slice Ao49 t292.length co49 : Value).ownBlock ∧ some k_ ≠ (.slice Ao51 t295.length co51 : Value).ownBlock ∧ some k_ ≠ (.slice Ao53 t298.length co53 : Value).ownBlock ∧ some k_ ≠ (.slice Ao63 t371.length co63 : Value).ownBlock ∧ some k_ ≠ (.slice Ao64 t372.length co64 : Value).ownBlock ∧ some k_ ≠ (.slice Ao65 t373.length co65 : Value).ownBlock ∧ some k_ ≠ (.slice Ao75 t375.length co75 : Value).ownBlock ∧ some k_ ≠ (.slice Ao76 t376.length co76 : Value).ownBlock ∧ some k_ ≠ (.slice Ao77 t377.length co77 : Value).ownBlock ∧ some k_ ≠ (.slice Ao87 t380.length co87 : Value).ownBlock ∧ some k_ ≠ (.slice Ao88 t381.length co88 : Value).ownBlock) (.slice Ao89 t382.length co89) t382) := ⟨h20_⟩
      have n21_ : Aside0 (w210.heap[gb261]? = some (.cells #[.int .i64 a0_0, .int .i64 a0_1, .int .i64 a0_2, .slice A0_3 l0_3.length c0_3, .slice A0_4 l0_4.length c0_4, .slice A0_5 l0_5.length c0_5] 26 (0, 0))) := ⟨h21_⟩
      have n22_ : Aside0 (w210.heap[gb262]? = some (.cells #[.int .i64 a1_0, .int .i64 a1_1, .int .i64 a1_2, .slice A1_3 l1_3.length c1_3, .slice A1_4 l1_4.length c1_4, .slice A1_5 l1_5.length c1_5] 26 (0, 0))) := ⟨h22_⟩
      have n23_ : Aside0 (w210.heap[gb302]? = some (.cells #[.int .i64 t289, .int .i64 t290, .int .i64 t291, .slice Ao49 t292.length co49, .slice Ao51 t295.length co51, .slice Ao53 t298.length co53] 41 (0, 0))) := ⟨h23_⟩
      have n24_ : Aside0 (w210.heap[gb315]? = some (.cells #[.int .i64 t303, .int .i64 t304, .int .i64 t305, .slice Ao63 t371.length co63, .slice Ao64 t372.length co64, .slice Ao65 t373.length co65] 41 (0, 0))) := ⟨h24_⟩
      have n25_ : Aside0 (w210.heap[gb328]? = some (.cells #[.int .i64 t316, .int .i64 t317, .int .i64 t318, .slice Ao75 t375.length co75, .slice Ao76 t376.length co76, .slice Ao77 t377.length co77] 41 (0, 0))) := ⟨h25_⟩
      have n26_ : Aside0 (w210.heap[gb342]? = some (.cells #[.int .i64 t329, .int .i64 t330, .int .i64 t331, .slice Ao87 t380.length co87, .slice Ao88 t381.length co88, .slice Ao89 t382.length co89] 41 (0, 0))) := ⟨h26_⟩
      have n27_ : Aside0 (w210.heap[gb421]? = some (.cells #[.int .i64 0, .int .i64 0, .int .i64 0, .slice none 0 0, .slice none 0 0, .slice none 0 0] 41 (0, 0))) := ⟨h27_⟩
      have n28_ : Aside0 (w.heap.size ≤ gb421) := ⟨h28_⟩
      have n29_ : Aside0 (w.heap.size ≤ gb421) := ⟨h29_⟩
      have n30_ : Aside0 (gb261 ≠ gb421) := ⟨h30_⟩
      have n31_ : Aside0 (gb421 ≠ gb261) := ⟨h31_⟩
      have n32_ : Aside0 (gb262 ≠ gb421) := ⟨h32_⟩
      have n33_ : Aside0 (gb421 ≠ gb262) := ⟨h33_⟩
      have n34_ : Aside0 (gb302 ≠ gb421) := ⟨h34_⟩
      have n35_ : Aside0 (gb421 ≠ gb302) := ⟨h35_⟩
      have n36_ : Aside0 (gb315 ≠ gb421) := ⟨h36_⟩
      have n37_ : Aside0 (gb421 ≠ gb315) := ⟨h37_⟩
      have n38_ : Aside0 (gb328 ≠ gb421) := ⟨h38_⟩
      have n39_ : Aside0 (gb421 ≠ gb328) := ⟨h39_⟩
      have n40_ : Aside0 (gb342 ≠ gb421) := ⟨h40_⟩
      have n41_ : Aside0 (gb421 ≠ gb342) := ⟨h41_⟩
      have n42_ : Aside0 (Below w.heap.size w w210) := ⟨h42_⟩
      clear HO_303003 HO_303004 HO_303005 HO_316003 HO_316004 HO_316005 HO_329003 HO_329004 HO_329005 HO_343003 HO_343004 HO_343005 BK261 BK262 BK302 BK315 BK328 BK342 HB h0_ h1_ h2_ h3_ h4_ h5_ h6_ h7_ h8_ h9_ h10_ h11_ h12_ h13_ h14_ h15_ h16_ h17_ h18_ h19_ h20_ h21_ h22_ h23_ h24_ h25_ h26_ h27_ h28_ h29_ h30_ h31_ h32_ h33_ h34_ h35_ h36_ h37_ h38_ h39_ h40_ h41_ h42_
      have HO389 := n0_
      have HO392 := n1_
      have HO395 := n2_
      have HO401 := n3_
      have HO404 := n4_
      have HO407 := n5_
      have HO413 := n6_
      have HO416 := n7_
      have HO419 := n8_
      have HO_303003 := n9_
      have HO_303004 := n10_
      have HO_303005 := n11_
      have HO_316003 := n12_
      have HO_316004 := n13_
      have HO_316005 := n14_
      have HO_329003 := n15_
      have HO_329004 := n16_
      have HO_329005 := n17_
      have HO_343003 := n18_
      have HO_343004 := n19_
      have HO_343005 := n20_
      have BK261 := n21_
      have BK262 := n22_
      have BK302 := n23_
      have BK315 := n24_
      have BK328 := n25_
      have BK342 := n26_
      have BK421 := n27_
      have GW421 := n28_
      have GE421 := n29_
      have NB261_421 := n30_
      have NB421_261 := n31_
      have NB262_421 := n32_
      have NB421_262 := n33_
      have NB302_421 := n34_
      have NB421_302 := n35_
      have NB315_421 := n36_
      have NB421_315 := n37_
      have NB328_421 := n38_
      have NB421_328 := n39_
      have NB342_421 := n40_
      have NB421_342 := n41_
      have HB := n42_
      clear n0_ n1_ n2_ n3_ n4_ n5_ n6_ n7_ n8_ n9_ n10_ n11_ n12_ n13_ n14_ n15_ n16_ n17_ n18_ n19_ n20_ n21_ n22_ n23_ n24_ n25_ n26_ n27_ n28_ n29_ n30_ n31_ n32_ n33_ n34_ n35_ n36_ n37_ n38_ n39_ n40_ n41_ n42_
      have hHeld : w210.cell? ⟨gb261, 0, none⟩ = some (.int .i64 a0_0) ∧ w210.cell? ⟨gb261, 1, none⟩ = some (.int .i64 a0_1) ∧ w210.cell? ⟨gb261, 2, none⟩ = some (.int .i64 a0_2) ∧ w210.cell? ⟨gb261, 3, none⟩ = some (.slice A0_3 l0_3.length c0_3) ∧ w210.cell? ⟨gb261, 4, none⟩ = some (.slice A0_4 l0_4.length c0_4) ∧ w210.cell? ⟨gb261, 5, none⟩ = some (.slice A0_5 l0_5.length c0_5) ∧ w210.cell? ⟨gb262, 0, none⟩ = some (.int .i64 a1_0) ∧ w210.cell? ⟨gb262, 1, none⟩ = some (.int .i64 a1_1) ∧ w210.cell? ⟨gb262, 2, none⟩ = some (.int .i64 a1_2) ∧ w210.cell? ⟨gb262, 3, none⟩ = some (.slice A1_3 l1_3.length c1_3) ∧ w210.cell? ⟨gb262, 4, none⟩ = some (.slice A1_4 l1_4.length c1_4) ∧ w210.cell? ⟨gb262, 5, none⟩ = some (.slice A1_5 l1_5.length c1_5) := hS_
      obtain ⟨Ao214, co214, eo214⟩ := Kd.R_slice HO413.out
      (first | subst eo214 | (injection eo214 with f1_ f2_ f3_; have f4_ := f1_.symm; have f5_ := f3_.symm; clear f1_ f2_ f3_; subst f4_; subst f5_))
      obtain ⟨Ao216, co216, eo216⟩ := Kd.R_slice HO416.out
      (first | subst eo216 | (injection eo216 with f1_ f2_ f3_; have f4_ := f1_.symm; have f5_ := f3_.symm; clear f1_ f2_ f3_; subst f4_; subst f5_))
      obtain ⟨Ao218, co218, eo218⟩ := Kd.R_slice HO419.out
      (first | subst eo218 | (injection eo218 with f1_ f2_ f3_; have f4_ := f1_.symm; have f5_ := f3_.symm; clear f1_ f2_ f3_; subst f4_; subst f5_))
      refine norm_ (a' := ?_) ?_ ?_
      rotate_left
      ·simp only [putAll, Act.put, List.setIfInBounds_toArray, List.set_cons_zero, List.set_cons_succ]
       rfl
      refine one_ (i := 10) (N := none) #[true, true, true, true, true, true, true, true, true, true, true, false] rfl rfl (one_of HT_.out (by kernel_rfl)) (by decide) (fun K hK => ?_)
      have hs211 : w210.cell? ⟨gb421, 0, none⟩ = some (.int .i64 0) := (blk_cell BK421.out 0).trans rfl
      have hfs211 := blk_frozen BK421.out 0
      have hns211_0 := NB261_421.out
      have hns211_1 := NB262_421.out
      have hns211_2 := NB302_421.out
      have hns211_3 := NB315_421.out
      have hns211_4 := NB328_421.out
      have hns211_5 := NB342_421.out
      have hms211_0 := NB421_261.out
      have hms211_1 := NB421_262.out
      have hms211_2 := NB421_302.out
      have hms211_3 := NB421_315.out
      have hms211_4 := NB421_328.out
      have hms211_5 := NB421_342.out
      have hs212 : w210.cell? ⟨gb421, 1, none⟩ = some (.int .i64 0) := (blk_cell BK421.out 1).trans rfl
      have hfs212 := blk_frozen BK421.out 1
      have hns212_0 := NB261_421.out
      have hns212_1 := NB262_421.out
      have hns212_2 := NB302_421.out
      have hns212_3 := NB315_421.out
      have hns212_4 := NB328_421.out
      have hns212_5 := NB342_421.out
      have hms212_0 := NB421_261.out
      have hms212_1 := NB421_262.out
      have hms212_2 := NB421_302.out
      have hms212_3 := NB421_315.out
      have hms212_4 := NB421_328.out
      have hms212_5 := NB421_342.out
      have hs213 : w210.cell? ⟨gb421, 2, none⟩ = some (.int .i64 0) := (blk_cell BK421.out 2).trans rfl
      have hfs213 := blk_frozen BK421.out 2
      have hns213_0 := NB261_421.out
      have hns213_1 := NB262_421.out
      have hns213_2 := NB302_421.out
      have hns213_3 := NB315_421.out
      have hns213_4 := NB328_421.out
      have hns213_5 := NB342_421.out
      have hms213_0 := NB421_261.out
      have hms213_1 := NB421_262.out
      have hms213_2 := NB421_302.out
      have hms213_3 := NB421_315.out
      have hms213_4 := NB421_328.out
      have hms213_5 := NB421_342.out
      have hs215 : w210.cell? ⟨gb421, 3, none⟩ = some (.slice none 0 0) := (blk_cell BK421.out 3).trans rfl
      have hfs215 := blk_frozen BK421.out 3
      have hns215_0 := NB261_421.out
      have hns215_1 := NB262_421.out
      have hns215_2 := NB302_421.out
      have hns215_3 := NB315_421.out
      have hns215_4 := NB328_421.out
      have hns215_5 := NB342_421.out
      have hms215_0 := NB421_261.out
      have hms215_1 := NB421_262.out
      have hms215_2 := NB421_302.out
      have hms215_3 := NB421_315.out
      have hms215_4 := NB421_328.out
      have hms215_5 := NB421_342.out
      have hs217 : w210.cell? ⟨gb421, 4, none⟩ = some (.slice none 0 0) := (blk_cell BK421.out 4).trans rfl
      have hfs217 := blk_frozen BK421.out 4
      have hns217_0 := NB261_421.out
      have hns217_1 := NB262_421.out
      have hns217_2 := NB302_421.out
      have hns217_3 := NB315_421.out
      have hns217_4 := NB328_421.out
      have hns217_5 := NB342_421.out
      have hms217_0 := NB421_261.out
      have hms217_1 := NB421_262.out
      have hms217_2 := NB421_302.out
      have hms217_3 := NB421_315.out
      have hms217_4 := NB421_328.out
      have hms217_5 := NB421_342.out
      have hs219 : w210.cell? ⟨gb421, 5, none⟩ = some (.slice none 0 0) := (blk_cell BK421.out 5).trans rfl
      have hfs219 := blk_frozen BK421.out 5
      have hns219_0 := NB261_421.out
      have hns219_1 := NB262_421.out
      have hns219_2 := NB302_421.out
      have hns219_3 := NB315_421.out
      have hns219_4 := NB328_421.out
      have hns219_5 := NB342_421.out
      have hms219_0 := NB421_261.out
      have hms219_1 := NB421_262.out
      have hms219_2 := NB421_302.out
      have hms219_3 := NB421_315.out
      have hms219_4 := NB421_328.out
      have hms219_5 := NB421_342.out
      refine skip_ (w1 := ?_) (by rfl) rfl ?_ ?_
      rotate_left
      ·go_simp
       rfl
      refine hK.out _ _ ⟨((cell_far (p := ⟨gb421, _, none⟩) NB261_421.out _).trans (((cell_far (p := ⟨gb421, _, none⟩) NB261_421.out _).trans (((cell_far (p := ⟨gb421, _, none⟩) NB261_421.out _).trans (((cell_far (p := ⟨gb421, _, none⟩) NB261_421.out _).trans (((cell_far (p := ⟨gb421, _, none⟩) NB261_421.out _).trans (((cell_far (p := ⟨gb421, _, none⟩) NB261_421.out _).trans (hHeld.1)))))))))))), ((cell_far (p := ⟨gb421, _, none⟩) NB261_421.out _).trans (((cell_far (p := ⟨gb421, _, none⟩) NB261_421.out _).trans (((cell_far (p := ⟨gb421, _, none⟩) NB261_421.out _).trans (((cell_far (p := ⟨gb421, _, none⟩) NB261_421.out _).trans (((cell_far (p := ⟨gb421, _, none⟩) NB261_421.out _).trans (((cell_far (p := ⟨gb421, _, none⟩) NB261_421.out _).trans (hHeld.2.1)))))))))))), ((cell_far (p := ⟨gb421, _, none⟩) NB261_421.out _).trans (((cell_far (p := ⟨gb421, _, none⟩) NB261_421.out _).trans (((cell_far (p := ⟨gb421, _, none⟩) NB261_421.out _).trans (((cell_far (p := ⟨gb421, _, none⟩) NB261_421.out _).trans (((cell_far (p := ⟨gb421, _, none⟩) NB261_421.out _).trans (((cell_far (p := ⟨gb421, _, none⟩) NB261_421.out _).trans (hHeld.2.2.1)))))))))))), ((cell_far (p := ⟨gb421, _, none⟩) NB261_421.out _).trans (((cell_far (p := ⟨gb421, _, none⟩) NB261_421.out _).trans (((cell_far (p := ⟨gb421, _, none⟩) NB261_421.out _).trans (((cell_far (p := ⟨gb421, _, none⟩) NB261_421.out _).trans (((cell_far (p := ⟨gb421, _, none⟩) NB261_421.out _).trans (((cell_far (p := ⟨gb421, _, none⟩) NB261_421.out _).trans (hHeld.2.2.2.1)))))))))))), ((cell_far (p := ⟨gb421, _, none⟩) NB261_421.out _).trans (((cell_far (p := ⟨gb421, _, none⟩) NB261_421.out _).trans (((cell_far (p := ⟨gb421, _, none⟩) NB261_421.out _).trans (((cell_far (p := ⟨gb421, _, none⟩) NB261_421.out _).trans (((cell_far (p := ⟨gb421, _, none⟩) NB261_421.out _).trans (((cell_far (p := ⟨gb421, _, none⟩) NB261_421.out _).trans (hHeld.2.2.2.2.1)))))))))))), ((cell_far (p := ⟨gb421, _, none⟩) NB261_421.out _).trans (((cell_far (p := ⟨gb421, _, none⟩) NB261_421.out _).trans (((cell_far (p := ⟨gb421, _, none⟩) NB261_421.out _).trans (((cell_far (p := ⟨gb421, _, none⟩) NB261_421.out _).trans (((cell_far (p := ⟨gb421, _, none⟩) NB261_421.out _).trans (((cell_far (p := ⟨gb421, _, none⟩) NB261_421.out _).trans (hHeld.2.2.2.2.2.1)))))))))))), ((cell_far (p := ⟨gb421, _, none⟩) NB262_421.out _).trans (((cell_far (p := ⟨gb421, _, none⟩) NB262_421.out _).trans (((cell_far (p := ⟨gb421, _, none⟩) NB262_421.out _).trans (((cell_far (p := ⟨gb421, _, none⟩) NB262_421.out _).trans (((cell_far (p := ⟨gb421, _, none⟩) NB262_421.out _).trans (((cell_far (p := ⟨gb421, _, none⟩) NB262_421.out _).trans (hHeld.2.2.2.2.2.2.1)))))))))))), ((cell_far (p := ⟨gb421, _, none⟩) NB262_421.out _).trans (((cell_far (p := ⟨gb421, _, none⟩) NB262_421.out _).trans (((cell_far (p := ⟨gb421, _, none⟩) NB262_421.out _).trans (((cell_far (p := ⟨gb421, _, none⟩) NB262_421.out _).trans (((cell_far (p := ⟨gb421, _, none⟩) NB262_421.out _).trans (((cell_far (p := ⟨gb421, _, none⟩) NB262_421.out _).trans (hHeld.2.2.2.2.2.2.2.1)))))))))))), ((cell_far (p := ⟨gb421, _, none⟩) NB262_421.out _).trans (((cell_far (p := ⟨gb421, _, none⟩) NB262_421.out _).trans (((cell_far (p := ⟨gb421, _, none⟩) NB262_421.out _).trans (((cell_far (p := ⟨gb421, _, none⟩) NB262_421.out _).trans (((cell_far (p := ⟨gb421, _, none⟩) NB262_421.out _).trans (((cell_far (p := ⟨gb421, _, none⟩) NB262_421.out _).trans (hHeld.2.2.2.2.2.2.2.2.1)))))))))))), ((cell_far (p := ⟨gb421, _, none⟩) NB262_421.out _).trans (((cell_far (p := ⟨gb421, _, none⟩) NB262_421.out _).trans (((cell_far (p := ⟨gb421, _, none⟩) NB262_421.out _).trans (((cell_far (p := ⟨gb421, _, none⟩) NB262_421.out _).trans (((cell_far (p := ⟨gb421, _, none⟩) NB262_421.out _).trans (((cell_far (p := ⟨gb421, _, none⟩) NB262_421.out _).trans (hHeld.2.2.2.2.2.2.2.2.2.1)))))))))))), ((cell_far (p := ⟨gb421, _, none⟩) NB262_421.out _).trans (((cell_far (p := ⟨gb421, _, none⟩) NB262_421.out _).trans (((cell_far (p := ⟨gb421, _, none⟩) NB262_421.out _).trans (((cell_far (p := ⟨gb421, _, none⟩) NB262_421.out _).trans (((cell_far (p := ⟨gb421, _, none⟩) NB262_421.out _).trans (((cell_far (p := ⟨gb421, _, none⟩) NB262_421.out _).trans (hHeld.2.2.2.2.2.2.2.2.2.2.1)))))))))))), ((cell_far (p := ⟨gb421, _, none⟩) NB262_421.out _).trans (((cell_far (p := ⟨gb421, _, none⟩) NB262_421.out _).trans (((cell_far (p := ⟨gb421, _, none⟩) NB262_421.out _).trans (((cell_far (p := ⟨gb421, _, none⟩) NB262_421.out _).trans (((cell_far (p := ⟨gb421, _, none⟩) NB262_421.out _).trans (((cell_far (p := ⟨gb421, _, none⟩) NB262_421.out _).trans (hHeld.2.2.2.2.2.2.2.2.2.2.2))))))))))))⟩ (fun hHeld => ?_)
      clear hK K
      refine pure_ (i := 11) (N := some 18) (v := ?_) (a' := ?_) #[true, true, true, true, true, true, true, true, true, true, true, true] rfl rfl (any_of HT_.out (by kernel_rfl)) (fun _ _ _ h => h) (Or.inl ⟨by rfl, ?_⟩) ?_ ?_
      rotate_left
      ·intro w'
       go_simp
       with_reducible rfl
      rotate_left
      ·simp only [Act.put, List.setIfInBounds_toArray, List.set_cons_zero, List.set_cons_succ, i64_w, i32_w]
       rfl
      refine done_ (done_of HT_.out (by kernel_rfl)) ?_
      go_upto_region 32 with (fail)
      go_cut [115] (fun v115 wc => ∃ (kq : Nat) (x115_197 : Bool), v115 = .bool x115_197 ∧ Aside0 (laws_FnExactMixModels.j5 kq t379 x115_197 t329 t330 t331 t380 t381 t382 = some r) ∧ Aside0 (kq ≤ kj182) ∧ Aside0 (Kd.R (Kd.int .i64) 3 wc w.heap.size (fun k_ => some k_ ≠ ((.slice Ao51 t295.length co51) : Value).ownBlock ∧ some k_ ≠ ((.slice Ao53 t298.length co53) : Value).ownBlock ∧ some k_ ≠ ((.slice Ao63 t371.length co63) : Value).ownBlock ∧ some k_ ≠ ((.slice Ao64 t372.length co64) : Value).ownBlock ∧ some k_ ≠ ((.slice Ao65 t373.length co65) : Value).ownBlock ∧ some k_ ≠ ((.slice Ao75 t375.length co75) : Value).ownBlock ∧ some k_ ≠ ((.slice Ao76 t376.length co76) : Value).ownBlock ∧ some k_ ≠ ((.slice Ao77 t377.length co77) : Value).ownBlock ∧ some k_ ≠ ((.slice Ao87 t380.length co87) : Value).ownBlock ∧ some k_ ≠ ((.slice Ao88 t381.length co88) : Value).ownBlock ∧ some k_ ≠ ((.slice Ao89 t382.length co89) : Value).ownBlock ∧ some k_ ≠ ((.slice Ao214 t411.length co214) : Value).ownBlock ∧ some k_ ≠ ((.slice Ao216 t414.length co216) : Value).ownBlock ∧ some k_ ≠ ((.slice Ao218 t417.length co218) : Value).ownBlock) (.slice Ao49 t292.length co49) t292) ∧ Aside0 (Kd.R (Kd.int .i64) 3 wc w.heap.size (fun k_ => some k_ ≠ ((.slice Ao49 t292.length co49) : Value).ownBlock ∧ some k_ ≠ ((.slice Ao53 t298.length co53) : Value).ownBlock ∧ some k_ ≠ ((.slice Ao63 t371.length co63) : Value).ownBlock ∧ some k_ ≠ ((.slice Ao64 t372.length co64) : Value).ownBlock ∧ some k_ ≠ ((.slice Ao65 t373.length co65) : Value).ownBlock ∧ some k_ ≠ ((.slice Ao75 t375.length co75) : Value).ownBlock ∧ some k_ ≠ ((.slice Ao76 t376.length co76) : Value).ownBlock ∧ some k_ ≠ ((.slice Ao77 t377.length co77) : Value).ownBlock ∧ some k_ ≠ ((.slice Ao87 t380.length co87) : Value).ownBlock ∧ some k_ ≠ ((.slice Ao88 t381.length co88) : Value).ownBlock ∧ some k_ ≠ ((.slice Ao89 t382.length co89) : Value).ownBlock ∧ some k_ ≠ ((.slice Ao214 t411.length co214) : Value).ownBlock ∧ some k_ ≠ ((.slice Ao216 t414.length co216) : Value).ownBlock ∧ some k_ ≠ ((.slice Ao218 t417.length co218) : Value).ownBlock) (.slice Ao51 t295.length co51) t295) ∧ Aside0 (Kd.R (Kd.int .i64) 3 wc w.heap.size (fun k_ => some k_ ≠ ((.slice Ao49 t292.length co49) : Value).ownBlock ∧ some k_ ≠ ((.slice Ao51 t295.length co51) : Value).ownBlock ∧ some k_ ≠ ((.slice Ao63 t371.length co63) : Value).ownBlock ∧ some k_ ≠ ((.slice Ao64 t372.length co64) : Value).ownBlock ∧ some k_ ≠ ((.slice Ao65 t373.length co65) : Value).ownBlock ∧ some k_ ≠ ((.slice Ao75 t375.length co75) : Value).ownBlock ∧ some k_ ≠ ((.slice Ao76 t376.length co76) : Value).ownBlock ∧ some k_ ≠ ((.slice Ao77 t377.length co77) : Value).ownBlock ∧ some k_ ≠ ((.slice Ao87 t380.length co87) : Value).ownBlock ∧ some k_ ≠ ((.slice Ao88 t381.length co88) : Value).ownBlock ∧ some k_ ≠ ((.slice Ao89 t382.length co89) : Value).ownBlock ∧ some k_ ≠ ((.slice Ao214 t411.length co214) : Value).ownBlock ∧ some k_ ≠ ((.slice Ao216 t414.length co216) : Value).ownBlock ∧ some k_ ≠ ((.slice Ao218 t417.length co218) : Value).ownBlock) (.slice Ao53 t298.length co53) t298) ∧ Aside0 (Kd.R (Kd.int .i64) 3 wc w.heap.size (fun k_ => some k_ ≠ ((.slice Ao49 t292.length co49) : Value).ownBlock ∧ some k_ ≠ ((.slice Ao51 t295.length co51) : Value).ownBlock ∧ some k_ ≠ ((.slice Ao53 t298.length co53) : Value).ownBlock ∧ some k_ ≠ ((.slice Ao64 t372.length co64) : Value).ownBlock ∧ some k_ ≠ ((.slice Ao65 t373.length co65) : Value).ownBlock ∧ some k_ ≠ ((.slice Ao75 t375.length co75) : Value).ownBlock ∧ some k_ ≠ ((.slice Ao76 t376.length co76) : Value).ownBlock ∧ some k_ ≠ ((.slice Ao77 t377.length co77) : Value).ownBlock ∧ some k_ ≠ ((.slice Ao87 t380.length co87) : Value).ownBlock ∧ some k_ ≠ ((.slice Ao88 t381.length co88) : Value).ownBlock ∧ some k_ ≠ ((.slice Ao89 t382.length co89) : Value).ownBlock ∧ some k_ ≠ ((.slice Ao214 t411.length co214) : Value).ownBlock ∧ some k_ ≠ ((.slice Ao216 t414.length co216) : Value).ownBlock ∧ some k_ ≠ ((.slice Ao218 t417.length co218) : Value).ownBlock) (.slice Ao63 t371.length co63) t371) ∧ Aside0 (Kd.R (Kd.int .i64) 3 wc w.heap.size (fun k_ => some k_ ≠ ((.slice Ao49 t292.length co49) : Value).ownBlock ∧ some k_ ≠ ((.slice Ao51 t295.length co51) : Value).ownBlock ∧ some k_ ≠ ((.slice Ao53 t298.length co53) : Value).ownBlock ∧ some k_ ≠ ((.slice Ao63 t371.length co63) : Value).ownBlock ∧ some k_ ≠ ((.slice Ao65 t373.length co65) : Value).ownBlock ∧ some k_ ≠ ((.slice Ao75 t375.length co75) : Value).ownBlock ∧ some k_ ≠ ((.slice Ao76 t376.length co76) : Value).ownBlock ∧ some k_ ≠ ((.slice Ao77 t377.length co77) : Value).ownBlock ∧ some k_ ≠ ((.slice Ao87 t380.length co87) : Value).ownBlock ∧ some k_ ≠ ((.slice Ao88 t381.length co88) : Value).ownBlock ∧ some k_ ≠ ((.slice Ao89 t382.length co89) : Value).ownBlock ∧ some k_ ≠ ((.slice Ao214 t411.length co214) : Value).ownBlock ∧ some k_ ≠ ((.slice Ao216 t414.length co216) : Value).ownBlock ∧ some k_ ≠ ((.slice Ao218 t417.length co218) : Value).ownBlock) (.slice Ao64 t372.length co64) t372) ∧ Aside0 (Kd.R (Kd.int .i64) 3 wc w.heap.size (fun k_ => some k_ ≠ ((.slice Ao49 t292.length co49) : Value).ownBlock ∧ some k_ ≠ ((.slice Ao51 t295.length co51) : Value).ownBlock ∧ some k_ ≠ ((.slice Ao53 t298.length co53) : Value).ownBlock ∧ some k_ ≠ ((.slice Ao63 t371.length co63) : Value).ownBlock ∧ some k_ ≠ ((.slice Ao64 t372.length co64) : Value).ownBlock ∧ some k_ ≠ ((.slice Ao75 t375.length co75) : Value).ownBlock ∧ some k_ ≠ ((.slice Ao76 t376.length co76) : Value).ownBlock ∧ some k_ ≠ ((.slice Ao77 t377.length co77) : Value).ownBlock ∧ some k_ ≠ ((.slice Ao87 t380.length co87) : Value).ownBlock ∧ some k_ ≠ ((.slice Ao88 t381.length co88) : Value).ownBlock ∧ some k_ ≠ ((.slice Ao89 t382.length co89) : Value).ownBlock ∧ some k_ ≠ ((.slice Ao214 t411.length co214) : Value).ownBlock ∧ some k_ ≠ ((.slice Ao216 t414.length co216) : Value).ownBlock ∧ some k_ ≠ ((.slice Ao218 t417.length co218) : Value).ownBlock) (.slice Ao65 t373.length co65) t373) ∧ Aside0 (Kd.R (Kd.int .i64) 3 wc w.heap.size (fun k_ => some k_ ≠ ((.slice Ao49 t292.length co49) : Value).ownBlock ∧ some k_ ≠ ((.slice Ao51 t295.length co51) : Value).ownBlock ∧ some k_ ≠ ((.slice Ao53 t298.length co53) : Value).ownBlock ∧ some k_ ≠ ((.slice Ao63 t371.length co63) : Value).ownBlock ∧ some k_ ≠ ((.slice Ao64 t372.length co64) : Value).ownBlock ∧ some k_ ≠ ((.slice Ao65 t373.length co65) : Value).ownBlock ∧ some k_ ≠ ((.slice Ao76 t376.length co76) : Value).ownBlock ∧ some k_ ≠ ((.slice Ao77 t377.length co77) : Value).ownBlock ∧ some k_ ≠ ((.slice Ao87 t380.length co87) : Value).ownBlock ∧ some k_ ≠ ((.slice Ao88 t381.length co88) : Value).ownBlock ∧ some k_ ≠ ((.slice Ao89 t382.length co89) : Value).ownBlock ∧ some k_ ≠ ((.slice Ao214 t411.length co214) : Value).ownBlock ∧ some k_ ≠ ((.slice Ao216 t414.length co216) : Value).ownBlock ∧ some k_ ≠ ((.slice Ao218 t417.length co218) : Value).ownBlock) (.slice Ao75 t375.length co75) t375) ∧ Aside0 (Kd.R (Kd.int .i64) 3 wc w.heap.size (fun k_ => some k_ ≠ ((.slice Ao49 t292.length co49) : Value).ownBlock ∧ some k_ ≠ ((.slice Ao51 t295.length co51) : Value).ownBlock ∧ some k_ ≠ ((.slice Ao53 t298.length co53) : Value).ownBlock ∧ some k_ ≠ ((.slice Ao63 t371.length co63) : Value).ownBlock ∧ some k_ ≠ ((.slice Ao64 t372.length co64) : Value).ownBlock ∧ some k_ ≠ ((.slice Ao65 t373.length co65) : Value).ownBlock ∧ some k_ ≠ ((.slice Ao75 t375.length co75) : Value).ownBlock ∧ some k_ ≠ ((.slice Ao77 t377.length co77) : Value).ownBlock ∧ some k_ ≠ ((.slice Ao87 t380.length co87) : Value).ownBlock ∧ some k_ ≠ ((.slice Ao88 t381.length co88) : Value).ownBlock ∧ some k_ ≠ ((.slice Ao89 t382.length co89) : Value).ownBlock ∧ some k_ ≠ ((.slice Ao214 t411.length co214) : Value).ownBlock ∧ some k_ ≠ ((.slice Ao216 t414.length co216) : Value).ownBlock ∧ some k_ ≠ ((.slice Ao218 t417.length co218) : Value).ownBlock) (.slice Ao76 t376.length co76) t376) ∧ Aside0 (Kd.R (Kd.int .i64) 3 wc w.heap.size (fun k_ => some k_ ≠ ((.slice Ao49 t292.length co49) : Value).ownBlock ∧ some k_ ≠ ((.slice Ao51 t295.length co51) : Value).ownBlock ∧ some k_ ≠ ((.slice Ao53 t298.length co53) : Value).ownBlock ∧ some k_ ≠ ((.slice Ao63 t371.length co63) : Value).ownBlock ∧ some k_ ≠ ((.slice Ao64 t372.length co64) : Value).ownBlock ∧ some k_ ≠ ((.slice Ao65 t373.length co65) : Value).ownBlock ∧ some k_ ≠ ((.slice Ao75 t375.length co75) : Value).ownBlock ∧ some k_ ≠ ((.slice Ao76 t376.length co76) : Value).ownBlock ∧ some k_ ≠ ((.slice Ao87 t380.length co87) : Value).ownBlock ∧ some k_ ≠ ((.slice Ao88 t381.length co88) : Value).ownBlock ∧ some k_ ≠ ((.slice Ao89 t382.length co89) : Value).ownBlock ∧ some k_ ≠ ((.slice Ao214 t411.length co214) : Value).ownBlock ∧ some k_ ≠ ((.slice Ao216 t414.length co216) : Value).ownBlock ∧ some k_ ≠ ((.slice Ao218 t417.length co218) : Value).ownBlock) (.slice Ao77 t377.length co77) t377) ∧ Aside0 (Kd.R (Kd.int .i64) 3 wc w.heap.size (fun k_ => some k_ ≠ ((.slice Ao49 t292.length co49) : Value).ownBlock ∧ some k_ ≠ ((.slice Ao51 t295.length co51) : Value).ownBlock ∧ some k_ ≠ ((.slice Ao53 t298.length co53) : Value).ownBlock ∧ some k_ ≠ ((.slice Ao63 t371.length co63) : Value).ownBlock ∧ some k_ ≠ ((.slice Ao64 t372.length co64) : Value).ownBlock ∧ some k_ ≠ ((.slice Ao65 t373.length co65) : Value).ownBlock ∧ some k_ ≠ ((.slice Ao75 t375.length co75) : Value).ownBlock ∧ some k_ ≠ ((.slice Ao76 t376.length co76) : Value).ownBlock ∧ some k_ ≠ ((.slice Ao77 t377.length co77) : Value).ownBlock ∧ some k_ ≠ ((.slice Ao88 t381.length co88) : Value).ownBlock ∧ some k_ ≠ ((.slice Ao89 t382.length co89) : Value).ownBlock ∧ some k_ ≠ ((.slice Ao214 t411.length co214) : Value).ownBlock ∧ some k_ ≠ ((.slice Ao216 t414.length co216) : Value).ownBlock ∧ some k_ ≠ ((.slice Ao218 t417.length co218) : Value).ownBlock) (.slice Ao87 t380.length co87) t380) ∧ Aside0 (Kd.R (Kd.int .i64) 3 wc w.heap.size (fun k_ => some k_ ≠ ((.slice Ao49 t292.length co49) : Value).ownBlock ∧ some k_ ≠ ((.slice Ao51 t295.length co51) : Value).ownBlock ∧ some k_ ≠ ((.slice Ao53 t298.length co53) : Value).ownBlock ∧ some k_ ≠ ((.slice Ao63 t371.length co63) : Value).ownBlock ∧ some k_ ≠ ((.slice Ao64 t372.length co64) : Value).ownBlock ∧ some k_ ≠ ((.slice Ao65 t373.length co65) : Value).ownBlock ∧ some k_ ≠ ((.slice Ao75 t375.length co75) : Value).ownBlock ∧ some k_ ≠ ((.slice Ao76 t376.length co76) : Value).ownBlock ∧ some k_ ≠ ((.slice Ao77 t377.length co77) : Value).ownBlock ∧ some k_ ≠ ((.slice Ao87 t380.length co87) : Value).ownBlock ∧ some k_ ≠ ((.slice Ao89 t382.length co89) : Value).ownBlock ∧ some k_ ≠ ((.slice Ao214 t411.length co214) : Value).ownBlock ∧ some k_ ≠ ((.slice Ao216 t414.length co216) : Value).ownBlock ∧ some k_ ≠ ((.slice Ao218 t417.length co218) : Value).ownBlock) (.slice Ao88 t381.length co88) t381) ∧ Aside0 (Kd.R (Kd.int .i64) 3 wc w.heap.size (fun k_ => some k_ ≠ ((.slice Ao49 t292.length co49) : Value).ownBlock ∧ some k_ ≠ ((.slice Ao51 t295.length co51) : Value).ownBlock ∧ some k_ ≠ ((.slice Ao53 t298.length co53) : Value).ownBlock ∧ some k_ ≠ ((.slice Ao63 t371.length co63) : Value).ownBlock ∧ some k_ ≠ ((.slice Ao64 t372.length co64) : Value).ownBlock ∧ some k_ ≠ ((.slice Ao65 t373.length co65) : Value).ownBlock ∧ some k_ ≠ ((.slice Ao75 t375.length co75) : Value).ownBlock ∧ some k_ ≠ ((.slice Ao76 t376.length co76) : Value).ownBlock ∧ some k_ ≠ ((.slice Ao77 t377.length co77) : Value).ownBlock ∧ some k_ ≠ ((.slice Ao87 t380.length co87) : Value).ownBlock ∧ some k_ ≠ ((.slice Ao88 t381.length co88) : Value).ownBlock ∧ some k_ ≠ ((.slice Ao214 t411.length co214) : Value).ownBlock ∧ some k_ ≠ ((.slice Ao216 t414.length co216) : Value).ownBlock ∧ some k_ ≠ ((.slice Ao218 t417.length co218) : Value).ownBlock) (.slice Ao89 t382.length co89) t382) ∧ Aside0 (Kd.R (Kd.int .i64) 3 wc w.heap.size (fun k_ => some k_ ≠ ((.slice Ao49 t292.length co49) : Value).ownBlock ∧ some k_ ≠ ((.slice Ao51 t295.length co51) : Value).ownBlock ∧ some k_ ≠ ((.slice Ao53 t298.length co53) : Value).ownBlock ∧ some k_ ≠ ((.slice Ao63 t371.length co63) : Value).ownBlock ∧ some k_ ≠ ((.slice Ao64 t372.length co64) : Value).ownBlock ∧ some k_ ≠ ((.slice Ao65 t373.length co65) : Value).ownBlock ∧ some k_ ≠ ((.slice Ao75 t375.length co75) : Value).ownBlock ∧ some k_ ≠ ((.slice Ao76 t376.length co76) : Value).ownBlock ∧ some k_ ≠ ((.slice Ao77 t377.length co77) : Value).ownBlock ∧ some k_ ≠ ((.slice Ao87 t380.length co87) : Value).ownBlock ∧ some k_ ≠ ((.slice Ao88 t381.length co88) : Value).ownBlock ∧ some k_ ≠ ((.slice Ao89 t382.length co89) : Value).ownBlock ∧ some k_ ≠ ((.slice Ao216 t414.length co216) : Value).ownBlock ∧ some k_ ≠ ((.slice Ao218 t417.length co218) : Value).ownBlock) (.slice Ao214 t411.length co214) t411) ∧ Aside0 (Kd.R (Kd.int .i64) 3 wc w.heap.size (fun k_ => some k_ ≠ ((.slice Ao49 t292.length co49) : Value).ownBlock ∧ some k_ ≠ ((.slice Ao51 t295.length co51) : Value).ownBlock ∧ some k_ ≠ ((.slice Ao53 t298.length co53) : Value).ownBlock ∧ some k_ ≠ ((.slice Ao63 t371.length co63) : Value).ownBlock ∧ some k_ ≠ ((.slice Ao64 t372.length co64) : Value).ownBlock ∧ some k_ ≠ ((.slice Ao65 t373.length co65) : Value).ownBlock ∧ some k_ ≠ ((.slice Ao75 t375.length co75) : Value).ownBlock ∧ some k_ ≠ ((.slice Ao76 t376.length co76) : Value).ownBlock ∧ some k_ ≠ ((.slice Ao77 t377.length co77) : Value).ownBlock ∧ some k_ ≠ ((.slice Ao87 t380.length co87) : Value).ownBlock ∧ some k_ ≠ ((.slice Ao88 t381.length co88) : Value).ownBlock ∧ some k_ ≠ ((.slice Ao89 t382.length co89) : Value).ownBlock ∧ some k_ ≠ ((.slice Ao214 t411.length co214) : Value).ownBlock ∧ some k_ ≠ ((.slice Ao218 t417.length co218) : Value).ownBlock) (.slice Ao216 t414.length co216) t414) ∧ Aside0 (Kd.R (Kd.int .i64) 3 wc w.heap.size (fun k_ => some k_ ≠ ((.slice Ao49 t292.length co49) : Value).ownBlock ∧ some k_ ≠ ((.slice Ao51 t295.length co51) : Value).ownBlock ∧ some k_ ≠ ((.slice Ao53 t298.length co53) : Value).ownBlock ∧ some k_ ≠ ((.slice Ao63 t371.length co63) : Value).ownBlock ∧ some k_ ≠ ((.slice Ao64 t372.length co64) : Value).ownBlock ∧ some k_ ≠ ((.slice Ao65 t373.length co65) : Value).ownBlock ∧ some k_ ≠ ((.slice Ao75 t375.length co75) : Value).ownBlock ∧ some k_ ≠ ((.slice Ao76 t376.length co76) : Value).ownBlock ∧ some k_ ≠ ((.slice Ao77 t377.length co77) : Value).ownBlock ∧ some k_ ≠ ((.slice Ao87 t380.length co87) : Value).ownBlock ∧ some k_ ≠ ((.slice Ao88 t381.length co88) : Value).ownBlock ∧ some k_ ≠ ((.slice Ao89 t382.length co89) : Value).ownBlock ∧ some k_ ≠ ((.slice Ao214 t411.length co214) : Value).ownBlock ∧ some k_ ≠ ((.slice Ao216 t414.length co216) : Value).ownBlock) (.slice Ao218 t417.length co218) t417) ∧ Aside0 (wc.heap[gb261]? = some (.cells #[.int .i64 a0_0, .int .i64 a0_1, .int .i64 a0_2, (.slice A0_3 l0_3.length c0_3), (.slice A0_4 l0_4.length c0_4), (.slice A0_5 l0_5.length c0_5)] 26 (0, 0))) ∧ Aside0 (wc.heap[gb262]? = some (.cells #[.int .i64 a1_0, .int .i64 a1_1, .int .i64 a1_2, (.slice A1_3 l1_3.length c1_3), (.slice A1_4 l1_4.length c1_4), (.slice A1_5 l1_5.length c1_5)] 26 (0, 0))) ∧ Aside0 (wc.heap[gb302]? = some (.cells #[.int .i64 t289, .int .i64 t290, .int .i64 t291, (.slice Ao49 t292.length co49), (.slice Ao51 t295.length co51), (.slice Ao53 t298.length co53)] 41 (0, 0))) ∧ Aside0 (wc.heap[gb315]? = some (.cells #[.int .i64 t303, .int .i64 t304, .int .i64 t305, (.slice Ao63 t371.length co63), (.slice Ao64 t372.length co64), (.slice Ao65 t373.length co65)] 41 (0, 0))) ∧ Aside0 (wc.heap[gb328]? = some (.cells #[.int .i64 t316, .int .i64 t317, .int .i64 t318, (.slice Ao75 t375.length co75), (.slice Ao76 t376.length co76), (.slice Ao77 t377.length co77)] 41 (0, 0))) ∧ Aside0 (wc.heap[gb342]? = some (.cells #[.int .i64 t329, .int .i64 t330, .int .i64 t331, (.slice Ao87 t380.length co87), (.slice Ao88 t381.length co88), (.slice Ao89 t382.length co89)] 41 (0, 0))) ∧ Aside0 (wc.heap[gb421]? = some (.cells #[.int .i64 t408, .int .i64 t409, .int .i64 t410, (.slice Ao214 t411.length co214), (.slice Ao216 t414.length co216), (.slice Ao218 t417.length co218)] 41 (0, 0))) ∧ Aside0 (Below w.heap.size w wc))
      case first =>
       have H := HC198.out
       clear HC198
       replace H := Option.bind_eq_some_iff.mp H
       obtain ⟨t422, A2200, H⟩ := H
       have A220 := Aside0.mk A2200
       clear A2200
       by_cases c221 : t422 = true
       ·subst c221
        have H1 : (laws_FnExactMixModels.j5 kj182 t379 (t420 != t301) t329 t330 t331 t380 t381 t382) = some r := by rw [if_pos rfl] at H; exact H
        clear H
        have H := H1
        clear H1
        have H' := Aside0.mk H
        clear H
        have hnb222 := NB421_261.out
        have hnc222 := NB261_421.out
        have hnb223 := NB421_262.out
        have hnc223 := NB262_421.out
        have hnb224 := NB421_302.out
        have hnc224 := NB302_421.out
        have hnb225 := NB421_315.out
        have hnc225 := NB315_421.out
        have hnb226 := NB421_328.out
        have hnc226 := NB328_421.out
        have hnb227 := NB421_342.out
        have hnc227 := NB342_421.out
        obtain ⟨hcz228_0, hcz228_1, hcz228_2, hcz228_3, hcz228_4, hcz228_5, hfz228_0, hfz228_1, hfz228_2, hfz228_3, hfz228_4, hfz228_5⟩ := cf6x9 BK421.out
        have hnb229 := NB302_261.out
        have hnc229 := NB261_302.out
        have hnb230 := NB302_262.out
        have hnc230 := NB262_302.out
        have hnb231 := NB302_315.out
        have hnc231 := NB315_302.out
        have hnb232 := NB302_328.out
        have hnc232 := NB328_302.out
        have hnb233 := NB302_342.out
        have hnc233 := NB342_302.out
        obtain ⟨hcz234_0, hcz234_1, hcz234_2, hcz234_3, hcz234_4, hcz234_5, hfz234_0, hfz234_1, hfz234_2, hfz234_3, hfz234_4, hfz234_5⟩ := cf6x9 BK302.out
        go_wp2_with (first | ((with_reducible refine gate_callee (f := 24) rfl ?_); refine goesL_ (some 109) rfl rfl Try.func24 (by kernel_rfl) rfl #[.agg #[.int .i64 t408, .int .i64 t409, .int .i64 t410, .slice Ao214 t411.length co214, .slice Ao216 t414.length co216, .slice Ao218 t417.length co218], .agg #[.int .i64 t289, .int .i64 t290, .int .i64 t291, .slice Ao49 t292.length co49, .slice Ao51 t295.length co51, .slice Ao53 t298.length co53]] rfl mpx9 ?_; (with_reducible refine (laws_eqModel.calls kj182 t408 t409 t410 _ _ t411 _ _ t414 _ _ t417 t289 t290 t291 _ _ t292 _ _ t295 _ _ t298 true _ ?side1 ?side2 ?side3 ?side4 ?side5 ?side6 ?side7 ?side8 ?side9 ?side10 ?side11 ?side12 A220.out).mono ?_); (case side1 => exact cS6x9 HO413.out BK421.out); (case side2 => exact (Kd.R_reads' HO413.out).2.1); (case side3 => exact cS6x9 HO416.out BK421.out); (case side4 => exact (Kd.R_reads' HO416.out).2.1); (case side5 => exact cS6x9 HO419.out BK421.out); (case side6 => exact (Kd.R_reads' HO419.out).2.1); (case side7 => exact cS6x9 HO_303003.out BK421.out); (case side8 => exact (Kd.R_reads' HO_303003.out).2.1); (case side9 => exact cS6x9 HO_303004.out BK421.out); (case side10 => exact (Kd.R_reads' HO_303004.out).2.1); (case side11 => exact cS6x9 HO_303005.out BK421.out); (case side12 => exact (Kd.R_reads' HO_303005.out).2.1); rintro e w235 ⟨rfl, hb⟩; refine ⟨_, rfl, ?_⟩; replace HO_303003 := Aside0.mk (Kd.R_below (sR6x9 HO_303003.out BK421.out) hb); replace HO_303004 := Aside0.mk (Kd.R_below (sR6x9 HO_303004.out BK421.out) hb); replace HO_303005 := Aside0.mk (Kd.R_below (sR6x9 HO_303005.out BK421.out) hb); replace HO_316003 := Aside0.mk (Kd.R_below (sR6x9 HO_316003.out BK421.out) hb); replace HO_316004 := Aside0.mk (Kd.R_below (sR6x9 HO_316004.out BK421.out) hb); replace HO_316005 := Aside0.mk (Kd.R_below (sR6x9 HO_316005.out BK421.out) hb); replace HO_329003 := Aside0.mk (Kd.R_below (sR6x9 HO_329003.out BK421.out) hb); replace HO_329004 := Aside0.mk (Kd.R_below (sR6x9 HO_329004.out BK421.out) hb); replace HO_329005 := Aside0.mk (Kd.R_below (sR6x9 HO_329005.out BK421.out) hb); replace HO_343003 := Aside0.mk (Kd.R_below (sR6x9 HO_343003.out BK421.out) hb); replace HO_343004 := Aside0.mk (Kd.R_below (sR6x9 HO_343004.out BK421.out) hb); replace HO_343005 := Aside0.mk (Kd.R_below (sR6x9 HO_343005.out BK421.out) hb); replace HO389 := Aside0.mk (Kd.R_below (sR6x9 HO389.out BK421.out) hb); replace HO392 := Aside0.mk (Kd.R_below (sR6x9 HO392.out BK421.out) hb); replace HO395 := Aside0.mk (Kd.R_below (sR6x9 HO395.out BK421.out) hb); replace HO401 := Aside0.mk (Kd.R_below (sR6x9 HO401.out BK421.out) hb); replace HO404 := Aside0.mk (Kd.R_below (sR6x9 HO404.out BK421.out) hb); replace HO407 := Aside0.mk (Kd.R_below (sR6x9 HO407.out BK421.out) hb); replace HO413 := Aside0.mk (Kd.R_below (sR6x9 HO413.out BK421.out) hb); replace HO416 := Aside0.mk (Kd.R_below (sR6x9 HO416.out BK421.out) hb); replace HO419 := Aside0.mk (Kd.R_below (sR6x9 HO419.out BK421.out) hb); replace BK261 := Aside0.mk (blk_below (bb6x9 BK261.out NB261_421.out) hb); replace BK262 := Aside0.mk (blk_below (bb6x9 BK262.out NB262_421.out) hb); replace BK302 := Aside0.mk (blk_below (bb6x9 BK302.out NB302_421.out) hb); replace BK315 := Aside0.mk (blk_below (bb6x9 BK315.out NB315_421.out) hb); replace BK328 := Aside0.mk (blk_below (bb6x9 BK328.out NB328_421.out) hb); replace BK342 := Aside0.mk (blk_below (bb6x9 BK342.out NB342_421.out) hb); replace BK421 := Aside0.mk (blk_below (g := gb421) (o := .cells #[.int .i64 t408, .int .i64 t409, .int .i64 t410, .slice Ao214 t411.length co214, .slice Ao216 t414.length co216, .slice Ao218 t417.length co218] 41 (0, 0)) (by (with_reducible repeat (first | refine blk_drewN ?_ _ | refine blk_drew ?_ | refine blk_alloc ?_ _)); refine blk_put (cs := #[.int .i64 t408, .int .i64 t409, .int .i64 t410, .slice Ao214 t411.length co214, .slice Ao216 t414.length co216, .slice none 0 0]) ?_ 5 _ rfl; (with_reducible repeat (first | refine blk_drewN ?_ _ | refine blk_drew ?_ | refine blk_alloc ?_ _)); refine blk_put (cs := #[.int .i64 t408, .int .i64 t409, .int .i64 t410, .slice Ao214 t411.length co214, .slice none 0 0, .slice none 0 0]) ?_ 4 _ rfl; (with_reducible repeat (first | refine blk_drewN ?_ _ | refine blk_drew ?_ | refine blk_alloc ?_ _)); refine blk_put (cs := #[.int .i64 t408, .int .i64 t409, .int .i64 t410, .slice none 0 0, .slice none 0 0, .slice none 0 0]) ?_ 3 _ rfl; (with_reducible repeat (first | refine blk_drewN ?_ _ | refine blk_drew ?_ | refine blk_alloc ?_ _)); refine blk_put (cs := #[.int .i64 t408, .int .i64 t409, .int .i64 0, .slice none 0 0, .slice none 0 0, .slice none 0 0]) ?_ 2 _ rfl; (with_reducible repeat (first | refine blk_drewN ?_ _ | refine blk_drew ?_ | refine blk_alloc ?_ _)); refine blk_put (cs := #[.int .i64 t408, .int .i64 0, .int .i64 0, .slice none 0 0, .slice none 0 0, .slice none 0 0]) ?_ 1 _ rfl; (with_reducible repeat (first | refine blk_drewN ?_ _ | refine blk_drew ?_ | refine blk_alloc ?_ _)); refine blk_put (cs := #[.int .i64 0, .int .i64 0, .int .i64 0, .slice none 0 0, .slice none 0 0, .slice none 0 0]) ?_ 0 _ rfl; (with_reducible repeat (first | refine blk_drewN ?_ _ | refine blk_drew ?_ | refine blk_alloc ?_ _)); exact BK421.out) hb); replace HB := Aside0.mk (below_step (be7x9 HB.out GE261.out GE262.out GE302.out GE315.out GE328.out GE342.out GE421.out) hb); (try clear hb); (try clear hb2); (try clear hk); (try clear hi)))
        go_meet
        case rel => exact ⟨_, ((t420 != t301)), (by first | rfl | (simp; done) | (simp [*]; done)), H', ⟨by have := HJ25.out; have := HJ118.out; have := HJ128.out; have := HJ138.out; have := HJ182.out; first | omega | exact Nat.le_refl _⟩, ⟨by (try simp only [hl316003_138, hl316004_138, hl316005_138, hl329003_138, hl329004_138, hl329005_138, hl343003_182, hl343004_182, hl343005_182]); exact rRx9 (mox9 HO_303003.out)⟩, ⟨by (try simp only [hl316003_138, hl316004_138, hl316005_138, hl329003_138, hl329004_138, hl329005_138, hl343003_182, hl343004_182, hl343005_182]); exact rRx9 (mox9 HO_303004.out)⟩, ⟨by (try simp only [hl316003_138, hl316004_138, hl316005_138, hl329003_138, hl329004_138, hl329005_138, hl343003_182, hl343004_182, hl343005_182]); exact rRx9 (mox9 HO_303005.out)⟩, ⟨by (try simp only [hl316003_138, hl316004_138, hl316005_138, hl329003_138, hl329004_138, hl329005_138, hl343003_182, hl343004_182, hl343005_182]); exact rRx9 (mox9 HO_316003.out)⟩, ⟨by (try simp only [hl316003_138, hl316004_138, hl316005_138, hl329003_138, hl329004_138, hl329005_138, hl343003_182, hl343004_182, hl343005_182]); exact rRx9 (mox9 HO_316004.out)⟩, ⟨by (try simp only [hl316003_138, hl316004_138, hl316005_138, hl329003_138, hl329004_138, hl329005_138, hl343003_182, hl343004_182, hl343005_182]); exact rRx9 (mox9 HO_316005.out)⟩, ⟨by (try simp only [hl316003_138, hl316004_138, hl316005_138, hl329003_138, hl329004_138, hl329005_138, hl343003_182, hl343004_182, hl343005_182]); exact rRx9 (mox9 HO_329003.out)⟩, ⟨by (try simp only [hl316003_138, hl316004_138, hl316005_138, hl329003_138, hl329004_138, hl329005_138, hl343003_182, hl343004_182, hl343005_182]); exact rRx9 (mox9 HO_329004.out)⟩, ⟨by (try simp only [hl316003_138, hl316004_138, hl316005_138, hl329003_138, hl329004_138, hl329005_138, hl343003_182, hl343004_182, hl343005_182]); exact rRx9 (mox9 HO_329005.out)⟩, ⟨by (try simp only [hl316003_138, hl316004_138, hl316005_138, hl329003_138, hl329004_138, hl329005_138, hl343003_182, hl343004_182, hl343005_182]); exact rRx9 (mox9 HO_343003.out)⟩, ⟨by (try simp only [hl316003_138, hl316004_138, hl316005_138, hl329003_138, hl329004_138, hl329005_138, hl343003_182, hl343004_182, hl343005_182]); exact rRx9 (mox9 HO_343004.out)⟩, ⟨by (try simp only [hl316003_138, hl316004_138, hl316005_138, hl329003_138, hl329004_138, hl329005_138, hl343003_182, hl343004_182, hl343005_182]); exact rRx9 (mox9 HO_343005.out)⟩, ⟨by (try simp only [hl316003_138, hl316004_138, hl316005_138, hl329003_138, hl329004_138, hl329005_138, hl343003_182, hl343004_182, hl343005_182]); exact rRx9 (mox9 HO413.out)⟩, ⟨by (try simp only [hl316003_138, hl316004_138, hl316005_138, hl329003_138, hl329004_138, hl329005_138, hl343003_182, hl343004_182, hl343005_182]); exact rRx9 (mox9 HO416.out)⟩, ⟨by (try simp only [hl316003_138, hl316004_138, hl316005_138, hl329003_138, hl329004_138, hl329005_138, hl343003_182, hl343004_182, hl343005_182]); exact rRx9 (mox9 HO419.out)⟩, ⟨by (try simp only [hl316003_138, hl316004_138, hl316005_138, hl329003_138, hl329004_138, hl329005_138, hl343003_182, hl343004_182, hl343005_182]); (with_reducible repeat (first | refine blk_drewN ?_ _ | refine blk_drew ?_ | refine blk_alloc ?_ _)); exact BK261.out⟩, ⟨by (try simp only [hl316003_138, hl316004_138, hl316005_138, hl329003_138, hl329004_138, hl329005_138, hl343003_182, hl343004_182, hl343005_182]); (with_reducible repeat (first | refine blk_drewN ?_ _ | refine blk_drew ?_ | refine blk_alloc ?_ _)); exact BK262.out⟩, ⟨by (try simp only [hl316003_138, hl316004_138, hl316005_138, hl329003_138, hl329004_138, hl329005_138, hl343003_182, hl343004_182, hl343005_182]); (with_reducible repeat (first | refine blk_drewN ?_ _ | refine blk_drew ?_ | refine blk_alloc ?_ _)); exact BK302.out⟩, ⟨by (try simp only [hl316003_138, hl316004_138, hl316005_138, hl329003_138, hl329004_138, hl329005_138, hl343003_182, hl343004_182, hl343005_182]); (with_reducible repeat (first | refine blk_drewN ?_ _ | refine blk_drew ?_ | refine blk_alloc ?_ _)); exact BK315.out⟩, ⟨by (try simp only [hl316003_138, hl316004_138, hl316005_138, hl329003_138, hl329004_138, hl329005_138, hl343003_182, hl343004_182, hl343005_182]); (with_reducible repeat (first | refine blk_drewN ?_ _ | refine blk_drew ?_ | refine blk_alloc ?_ _)); exact BK328.out⟩, ⟨by (try simp only [hl316003_138, hl316004_138, hl316005_138, hl329003_138, hl329004_138, hl329005_138, hl343003_182, hl343004_182, hl343005_182]); (with_reducible repeat (first | refine blk_drewN ?_ _ | refine blk_drew ?_ | refine blk_alloc ?_ _)); exact BK342.out⟩, ⟨by (try simp only [hl316003_138, hl316004_138, hl316005_138, hl329003_138, hl329004_138, hl329005_138, hl343003_182, hl343004_182, hl343005_182]); (with_reducible repeat (first | refine blk_drewN ?_ _ | refine blk_drew ?_ | refine blk_alloc ?_ _)); exact BK421.out⟩, ⟨be7x9 HB.out GE261.out GE262.out GE302.out GE315.out GE328.out GE342.out GE421.out⟩⟩
       ·replace c221 := Bool.eq_false_iff.mpr c221
        subst c221
        have H1 : (laws_FnExactMixModels.j5 kj182 t379 true t329 t330 t331 t380 t381 t382) = some r := by rw [if_neg (show ¬ (false = true) by decide)] at H; exact H
        clear H
        have H := H1
        clear H1
        have H' := Aside0.mk H
        clear H
        have hnb236 := NB421_261.out
        have hnc236 := NB261_421.out
        have hnb237 := NB421_262.out
        have hnc237 := NB262_421.out
        have hnb238 := NB421_302.out
        have hnc238 := NB302_421.out
        have hnb239 := NB421_315.out
        have hnc239 := NB315_421.out
        have hnb240 := NB421_328.out
        have hnc240 := NB328_421.out
        have hnb241 := NB421_342.out
        have hnc241 := NB342_421.out
        obtain ⟨hcz242_0, hcz242_1, hcz242_2, hcz242_3, hcz242_4, hcz242_5, hfz242_0, hfz242_1, hfz242_2, hfz242_3, hfz242_4, hfz242_5⟩ := cf6x9 BK421.out
        have hnb243 := NB302_261.out
        have hnc243 := NB261_302.out
        have hnb244 := NB302_262.out
        have hnc244 := NB262_302.out
        have hnb245 := NB302_315.out
        have hnc245 := NB315_302.out
        have hnb246 := NB302_328.out
        have hnc246 := NB328_302.out
        have hnb247 := NB302_342.out
        have hnc247 := NB342_302.out
        obtain ⟨hcz248_0, hcz248_1, hcz248_2, hcz248_3, hcz248_4, hcz248_5, hfz248_0, hfz248_1, hfz248_2, hfz248_3, hfz248_4, hfz248_5⟩ := cf6x9 BK302.out
        go_wp2_with (first | ((with_reducible refine gate_callee (f := 24) rfl ?_); refine goesL_ (some 109) rfl rfl Try.func24 (by kernel_rfl) rfl #[.agg #[.int .i64 t408, .int .i64 t409, .int .i64 t410, .slice Ao214 t411.length co214, .slice Ao216 t414.length co216, .slice Ao218 t417.length co218], .agg #[.int .i64 t289, .int .i64 t290, .int .i64 t291, .slice Ao49 t292.length co49, .slice Ao51 t295.length co51, .slice Ao53 t298.length co53]] rfl mpx9 ?_; (with_reducible refine (laws_eqModel.calls kj182 t408 t409 t410 _ _ t411 _ _ t414 _ _ t417 t289 t290 t291 _ _ t292 _ _ t295 _ _ t298 false _ ?side1 ?side2 ?side3 ?side4 ?side5 ?side6 ?side7 ?side8 ?side9 ?side10 ?side11 ?side12 A220.out).mono ?_); (case side1 => exact cS6x9 HO413.out BK421.out); (case side2 => exact (Kd.R_reads' HO413.out).2.1); (case side3 => exact cS6x9 HO416.out BK421.out); (case side4 => exact (Kd.R_reads' HO416.out).2.1); (case side5 => exact cS6x9 HO419.out BK421.out); (case side6 => exact (Kd.R_reads' HO419.out).2.1); (case side7 => exact cS6x9 HO_303003.out BK421.out); (case side8 => exact (Kd.R_reads' HO_303003.out).2.1); (case side9 => exact cS6x9 HO_303004.out BK421.out); (case side10 => exact (Kd.R_reads' HO_303004.out).2.1); (case side11 => exact cS6x9 HO_303005.out BK421.out); (case side12 => exact (Kd.R_reads' HO_303005.out).2.1); rintro e w249 ⟨rfl, hb⟩; refine ⟨_, rfl, ?_⟩; replace HO_303003 := Aside0.mk (Kd.R_below (sR6x9 HO_303003.out BK421.out) hb); replace HO_303004 := Aside0.mk (Kd.R_below (sR6x9 HO_303004.out BK421.out) hb); replace HO_303005 := Aside0.mk (Kd.R_below (sR6x9 HO_303005.out BK421.out) hb); replace HO_316003 := Aside0.mk (Kd.R_below (sR6x9 HO_316003.out BK421.out) hb); replace HO_316004 := Aside0.mk (Kd.R_below (sR6x9 HO_316004.out BK421.out) hb); replace HO_316005 := Aside0.mk (Kd.R_below (sR6x9 HO_316005.out BK421.out) hb); replace HO_329003 := Aside0.mk (Kd.R_below (sR6x9 HO_329003.out BK421.out) hb); replace HO_329004 := Aside0.mk (Kd.R_below (sR6x9 HO_329004.out BK421.out) hb); replace HO_329005 := Aside0.mk (Kd.R_below (sR6x9 HO_329005.out BK421.out) hb); replace HO_343003 := Aside0.mk (Kd.R_below (sR6x9 HO_343003.out BK421.out) hb); replace HO_343004 := Aside0.mk (Kd.R_below (sR6x9 HO_343004.out BK421.out) hb); replace HO_343005 := Aside0.mk (Kd.R_below (sR6x9 HO_343005.out BK421.out) hb); replace HO389 := Aside0.mk (Kd.R_below (sR6x9 HO389.out BK421.out) hb); replace HO392 := Aside0.mk (Kd.R_below (sR6x9 HO392.out BK421.out) hb); replace HO395 := Aside0.mk (Kd.R_below (sR6x9 HO395.out BK421.out) hb); replace HO401 := Aside0.mk (Kd.R_below (sR6x9 HO401.out BK421.out) hb); replace HO404 := Aside0.mk (Kd.R_below (sR6x9 HO404.out BK421.out) hb); replace HO407 := Aside0.mk (Kd.R_below (sR6x9 HO407.out BK421.out) hb); replace HO413 := Aside0.mk (Kd.R_below (sR6x9 HO413.out BK421.out) hb); replace HO416 := Aside0.mk (Kd.R_below (sR6x9 HO416.out BK421.out) hb); replace HO419 := Aside0.mk (Kd.R_below (sR6x9 HO419.out BK421.out) hb); replace BK261 := Aside0.mk (blk_below (bb6x9 BK261.out NB261_421.out) hb); replace BK262 := Aside0.mk (blk_below (bb6x9 BK262.out NB262_421.out) hb); replace BK302 := Aside0.mk (blk_below (bb6x9 BK302.out NB302_421.out) hb); replace BK315 := Aside0.mk (blk_below (bb6x9 BK315.out NB315_421.out) hb); replace BK328 := Aside0.mk (blk_below (bb6x9 BK328.out NB328_421.out) hb); replace BK342 := Aside0.mk (blk_below (bb6x9 BK342.out NB342_421.out) hb); replace BK421 := Aside0.mk (blk_below (g := gb421) (o := .cells #[.int .i64 t408, .int .i64 t409, .int .i64 t410, .slice Ao214 t411.length co214, .slice Ao216 t414.length co216, .slice Ao218 t417.length co218] 41 (0, 0)) (by (with_reducible repeat (first | refine blk_drewN ?_ _ | refine blk_drew ?_ | refine blk_alloc ?_ _)); refine blk_put (cs := #[.int .i64 t408, .int .i64 t409, .int .i64 t410, .slice Ao214 t411.length co214, .slice Ao216 t414.length co216, .slice none 0 0]) ?_ 5 _ rfl; (with_reducible repeat (first | refine blk_drewN ?_ _ | refine blk_drew ?_ | refine blk_alloc ?_ _)); refine blk_put (cs := #[.int .i64 t408, .int .i64 t409, .int .i64 t410, .slice Ao214 t411.length co214, .slice none 0 0, .slice none 0 0]) ?_ 4 _ rfl; (with_reducible repeat (first | refine blk_drewN ?_ _ | refine blk_drew ?_ | refine blk_alloc ?_ _)); refine blk_put (cs := #[.int .i64 t408, .int .i64 t409, .int .i64 t410, .slice none 0 0, .slice none 0 0, .slice none 0 0]) ?_ 3 _ rfl; (with_reducible repeat (first | refine blk_drewN ?_ _ | refine blk_drew ?_ | refine blk_alloc ?_ _)); refine blk_put (cs := #[.int .i64 t408, .int .i64 t409, .int .i64 0, .slice none 0 0, .slice none 0 0, .slice none 0 0]) ?_ 2 _ rfl; (with_reducible repeat (first | refine blk_drewN ?_ _ | refine blk_drew ?_ | refine blk_alloc ?_ _)); refine blk_put (cs := #[.int .i64 t408, .int .i64 0, .int .i64 0, .slice none 0 0, .slice none 0 0, .slice none 0 0]) ?_ 1 _ rfl; (with_reducible repeat (first | refine blk_drewN ?_ _ | refine blk_drew ?_ | refine blk_alloc ?_ _)); refine blk_put (cs := #[.int .i64 0, .int .i64 0, .int .i64 0, .slice none 0 0, .slice none 0 0, .slice none 0 0]) ?_ 0 _ rfl; (with_reducible repeat (first | refine blk_drewN ?_ _ | refine blk_drew ?_ | refine blk_alloc ?_ _)); exact BK421.out) hb); replace HB := Aside0.mk (below_step (be7x9 HB.out GE261.out GE262.out GE302.out GE315.out GE328.out GE342.out GE421.out) hb); (try clear hb); (try clear hb2); (try clear hk); (try clear hi)))
        go_meet
        case rel => exact ⟨_, (true), (by first | rfl | (simp; done) | (simp [*]; done)), H', ⟨by have := HJ25.out; have := HJ118.out; have := HJ128.out; have := HJ138.out; have := HJ182.out; first | omega | exact Nat.le_refl _⟩, ⟨by (try simp only [hl316003_138, hl316004_138, hl316005_138, hl329003_138, hl329004_138, hl329005_138, hl343003_182, hl343004_182, hl343005_182]); exact rRx9 (mox9 HO_303003.out)⟩, ⟨by (try simp only [hl316003_138, hl316004_138, hl316005_138, hl329003_138, hl329004_138, hl329005_138, hl343003_182, hl343004_182, hl343005_182]); exact rRx9 (mox9 HO_303004.out)⟩, ⟨by (try simp only [hl316003_138, hl316004_138, hl316005_138, hl329003_138, hl329004_138, hl329005_138, hl343003_182, hl343004_182, hl343005_182]); exact rRx9 (mox9 HO_303005.out)⟩, ⟨by (try simp only [hl316003_138, hl316004_138, hl316005_138, hl329003_138, hl329004_138, hl329005_138, hl343003_182, hl343004_182, hl343005_182]); exact rRx9 (mox9 HO_316003.out)⟩, ⟨by (try simp only [hl316003_138, hl316004_138, hl316005_138, hl329003_138, hl329004_138, hl329005_138, hl343003_182, hl343004_182, hl343005_182]); exact rRx9 (mox9 HO_316004.out)⟩, ⟨by (try simp only [hl316003_138, hl316004_138, hl316005_138, hl329003_138, hl329004_138, hl329005_138, hl343003_182, hl343004_182, hl343005_182]); exact rRx9 (mox9 HO_316005.out)⟩, ⟨by (try simp only [hl316003_138, hl316004_138, hl316005_138, hl329003_138, hl329004_138, hl329005_138, hl343003_182, hl343004_182, hl343005_182]); exact rRx9 (mox9 HO_329003.out)⟩, ⟨by (try simp only [hl316003_138, hl316004_138, hl316005_138, hl329003_138, hl329004_138, hl329005_138, hl343003_182, hl343004_182, hl343005_182]); exact rRx9 (mox9 HO_329004.out)⟩, ⟨by (try simp only [hl316003_138, hl316004_138, hl316005_138, hl329003_138, hl329004_138, hl329005_138, hl343003_182, hl343004_182, hl343005_182]); exact rRx9 (mox9 HO_329005.out)⟩, ⟨by (try simp only [hl316003_138, hl316004_138, hl316005_138, hl329003_138, hl329004_138, hl329005_138, hl343003_182, hl343004_182, hl343005_182]); exact rRx9 (mox9 HO_343003.out)⟩, ⟨by (try simp only [hl316003_138, hl316004_138, hl316005_138, hl329003_138, hl329004_138, hl329005_138, hl343003_182, hl343004_182, hl343005_182]); exact rRx9 (mox9 HO_343004.out)⟩, ⟨by (try simp only [hl316003_138, hl316004_138, hl316005_138, hl329003_138, hl329004_138, hl329005_138, hl343003_182, hl343004_182, hl343005_182]); exact rRx9 (mox9 HO_343005.out)⟩, ⟨by (try simp only [hl316003_138, hl316004_138, hl316005_138, hl329003_138, hl329004_138, hl329005_138, hl343003_182, hl343004_182, hl343005_182]); exact rRx9 (mox9 HO413.out)⟩, ⟨by (try simp only [hl316003_138, hl316004_138, hl316005_138, hl329003_138, hl329004_138, hl329005_138, hl343003_182, hl343004_182, hl343005_182]); exact rRx9 (mox9 HO416.out)⟩, ⟨by (try simp only [hl316003_138, hl316004_138, hl316005_138, hl329003_138, hl329004_138, hl329005_138, hl343003_182, hl343004_182, hl343005_182]); exact rRx9 (mox9 HO419.out)⟩, ⟨by (try simp only [hl316003_138, hl316004_138, hl316005_138, hl329003_138, hl329004_138, hl329005_138, hl343003_182, hl343004_182, hl343005_182]); (with_reducible repeat (first | refine blk_drewN ?_ _ | refine blk_drew ?_ | refine blk_alloc ?_ _)); exact BK261.out⟩, ⟨by (try simp only [hl316003_138, hl316004_138, hl316005_138, hl329003_138, hl329004_138, hl329005_138, hl343003_182, hl343004_182, hl343005_182]); (with_reducible repeat (first | refine blk_drewN ?_ _ | refine blk_drew ?_ | refine blk_alloc ?_ _)); exact BK262.out⟩, ⟨by (try simp only [hl316003_138, hl316004_138, hl316005_138, hl329003_138, hl329004_138, hl329005_138, hl343003_182, hl343004_182, hl343005_182]); (with_reducible repeat (first | refine blk_drewN ?_ _ | refine blk_drew ?_ | refine blk_alloc ?_ _)); exact BK302.out⟩, ⟨by (try simp only [hl316003_138, hl316004_138, hl316005_138, hl329003_138, hl329004_138, hl329005_138, hl343003_182, hl343004_182, hl343005_182]); (with_reducible repeat (first | refine blk_drewN ?_ _ | refine blk_drew ?_ | refine blk_alloc ?_ _)); exact BK315.out⟩, ⟨by (try simp only [hl316003_138, hl316004_138, hl316005_138, hl329003_138, hl329004_138, hl329005_138, hl343003_182, hl343004_182, hl343005_182]); (with_reducible repeat (first | refine blk_drewN ?_ _ | refine blk_drew ?_ | refine blk_alloc ?_ _)); exact BK328.out⟩, ⟨by (try simp only [hl316003_138, hl316004_138, hl316005_138, hl329003_138, hl329004_138, hl329005_138, hl343003_182, hl343004_182, hl343005_182]); (with_reducible repeat (first | refine blk_drewN ?_ _ | refine blk_drew ?_ | refine blk_alloc ?_ _)); exact BK342.out⟩, ⟨by (try simp only [hl316003_138, hl316004_138, hl316005_138, hl329003_138, hl329004_138, hl329005_138, hl343003_182, hl343004_182, hl343005_182]); (with_reducible repeat (first | refine blk_drewN ?_ _ | refine blk_drew ?_ | refine blk_alloc ?_ _)); exact BK421.out⟩, ⟨be7x9 HB.out GE261.out GE262.out GE302.out GE315.out GE328.out GE342.out GE421.out⟩⟩
      case rest =>
       clear HC198
       try clear c221; try clear hcz228_0 hcz228_1 hcz228_2 hcz228_3 hcz228_4 hcz228_5; try clear hcz234_0 hcz234_1 hcz234_2 hcz234_3 hcz234_4 hcz234_5; try clear hcz242_0 hcz242_1 hcz242_2 hcz242_3 hcz242_4 hcz242_5; try clear hcz248_0 hcz248_1 hcz248_2 hcz248_3 hcz248_4 hcz248_5; try clear hfz228_0 hfz228_1 hfz228_2 hfz228_3 hfz228_4 hfz228_5; try clear hfz234_0 hfz234_1 hfz234_2 hfz234_3 hfz234_4 hfz234_5; try clear hfz242_0 hfz242_1 hfz242_2 hfz242_3 hfz242_4 hfz242_5; try clear hfz248_0 hfz248_1 hfz248_2 hfz248_3 hfz248_4 hfz248_5
       obtain ⟨kq, x115_197, rfl, HA, HJ197, HO_303003, HO_303004, HO_303005, HO_316003, HO_316004, HO_316005, HO_329003, HO_329004, HO_329005, HO_343003, HO_343004, HO_343005, HO_422003, HO_422004, HO_422005, BK261, BK262, BK302, BK315, BK328, BK342, BK421, HB⟩ := hcut
       cases kq with
       | zero => exact absurd HA.out (by simp [laws_FnExactMixModels.j5])
       | succ kj197 =>
        have H := HA.out
        clear HA
        simp only [laws_FnExactMixModels.j5] at H
        by_cases c250 : x115_197 = true
        ·subst c250
         have H1 : (some false) = some r := by rw [if_pos rfl] at H; exact H
         clear H
         have H := H1
         clear H1
         obtain rfl := Option.some.inj H
         go_wp2
         go_ret
         exact ⟨by first | rfl | (simp [errW_none, errW_some] <;> rfl) | (simp [*, errW_none, errW_some] <;> rfl), be7x9 HB.out GE261.out GE262.out GE302.out GE315.out GE328.out GE342.out GE421.out⟩
        ·replace c250 := Bool.eq_false_iff.mpr c250
         subst c250
         have H1 : ((laws_heldModel.f kj197 t329 t330 t331 t380 t381 t382 1).bind fun t423 => (if t423 < 0 then (some false) else (if t423 = t379 then (some true) else (some false)))) = some r := by rw [if_neg (show ¬ (false = true) by decide)] at H; exact H
         clear H
         have H := H1
         clear H1
         replace H := Option.bind_eq_some_iff.mp H
         obtain ⟨t423, A2510, H⟩ := H
         have A251 := Aside0.mk A2510
         clear A2510
         by_cases c252 : t423 < 0
         ·rw [if_pos c252] at H
          have c252b0 : decide (t423 < 0) = true := decide_eq_true c252
          clear c252
          obtain rfl := Option.some.inj H
          have hnb253 := NB342_261.out
          have hnc253 := NB261_342.out
          have hnb254 := NB342_262.out
          have hnc254 := NB262_342.out
          have hnb255 := NB342_302.out
          have hnc255 := NB302_342.out
          have hnb256 := NB342_315.out
          have hnc256 := NB315_342.out
          have hnb257 := NB342_328.out
          have hnc257 := NB328_342.out
          have hnb258 := NB342_421.out
          have hnc258 := NB421_342.out
          obtain ⟨hcz259_0, hcz259_1, hcz259_2, hcz259_3, hcz259_4, hcz259_5, hfz259_0, hfz259_1, hfz259_2, hfz259_3, hfz259_4, hfz259_5⟩ := cf6x9 BK342.out
          go_wp2_with (first | ((with_reducible refine gate_callee (f := 42) rfl ?_); refine goesL_ (some 118) rfl rfl Try.func42 (by kernel_rfl) rfl #[.agg #[.int .i64 t329, .int .i64 t330, .int .i64 t331, .slice Ao87 t380.length co87, .slice Ao88 t381.length co88, .slice Ao89 t382.length co89], .int .i64 1] rfl mpx9 ?_; (with_reducible refine (laws_heldModel.calls kj197 t329 t330 t331 _ _ t380 _ _ t381 _ _ t382 1 t423 _ ?side1 ?side2 ?side3 ?side4 ?side5 ?side6 A251.out).mono ?_); (case side1 => exact cRx9 HO_343003.out); (case side2 => exact (Kd.R_reads' HO_343003.out).2.1); (case side3 => exact cRx9 HO_343004.out); (case side4 => exact (Kd.R_reads' HO_343004.out).2.1); (case side5 => exact cRx9 HO_343005.out); (case side6 => exact (Kd.R_reads' HO_343005.out).2.1); rintro e w260 ⟨rfl, hb⟩; refine ⟨_, rfl, ?_⟩; replace HO_303003 := Aside0.mk (Kd.R_below (rRx9 HO_303003.out) hb); replace HO_303004 := Aside0.mk (Kd.R_below (rRx9 HO_303004.out) hb); replace HO_303005 := Aside0.mk (Kd.R_below (rRx9 HO_303005.out) hb); replace HO_316003 := Aside0.mk (Kd.R_below (rRx9 HO_316003.out) hb); replace HO_316004 := Aside0.mk (Kd.R_below (rRx9 HO_316004.out) hb); replace HO_316005 := Aside0.mk (Kd.R_below (rRx9 HO_316005.out) hb); replace HO_329003 := Aside0.mk (Kd.R_below (rRx9 HO_329003.out) hb); replace HO_329004 := Aside0.mk (Kd.R_below (rRx9 HO_329004.out) hb); replace HO_329005 := Aside0.mk (Kd.R_below (rRx9 HO_329005.out) hb); replace HO_343003 := Aside0.mk (Kd.R_below (rRx9 HO_343003.out) hb); replace HO_343004 := Aside0.mk (Kd.R_below (rRx9 HO_343004.out) hb); replace HO_343005 := Aside0.mk (Kd.R_below (rRx9 HO_343005.out) hb); replace HO_422003 := Aside0.mk (Kd.R_below (rRx9 HO_422003.out) hb); replace HO_422004 := Aside0.mk (Kd.R_below (rRx9 HO_422004.out) hb); replace HO_422005 := Aside0.mk (Kd.R_below (rRx9 HO_422005.out) hb); replace BK261 := Aside0.mk (blk_below (rBx9 BK261.out) hb); replace BK262 := Aside0.mk (blk_below (rBx9 BK262.out) hb); replace BK302 := Aside0.mk (blk_below (rBx9 BK302.out) hb); replace BK315 := Aside0.mk (blk_below (rBx9 BK315.out) hb); replace BK328 := Aside0.mk (blk_below (rBx9 BK328.out) hb); replace BK342 := Aside0.mk (blk_below (rBx9 BK342.out) hb); replace BK421 := Aside0.mk (blk_below (rBx9 BK421.out) hb); replace HB := Aside0.mk (below_step (be7x9 HB.out GE261.out GE262.out GE302.out GE315.out GE328.out GE342.out GE421.out) hb); (try clear hb); (try clear hb2); (try clear hk); (try clear hi)))
          go_ret
          exact ⟨by first | rfl | (simp [errW_none, errW_some] <;> rfl) | (simp [*, errW_none, errW_some] <;> rfl), be7x9 HB.out GE261.out GE262.out GE302.out GE315.out GE328.out GE342.out GE421.out⟩
         ·rw [if_neg c252] at H
          have c252b0 : decide (t423 < 0) = false := decide_eq_false c252
          clear c252
          by_cases c261 : t423 = t379
          ·rw [if_pos c261] at H
           have c261b0 : (t423 == t379) = true := beq_iff_eq.mpr c261
           have c261b1 : (t423 != t379) = false := bne_eq_false_iff_eq.mpr c261
           clear c261
           obtain rfl := Option.some.inj H
           have hnb262 := NB342_261.out
           have hnc262 := NB261_342.out
           have hnb263 := NB342_262.out
           have hnc263 := NB262_342.out
           have hnb264 := NB342_302.out
           have hnc264 := NB302_342.out
           have hnb265 := NB342_315.out
           have hnc265 := NB315_342.out
           have hnb266 := NB342_328.out
           have hnc266 := NB328_342.out
           have hnb267 := NB342_421.out
           have hnc267 := NB421_342.out
           obtain ⟨hcz268_0, hcz268_1, hcz268_2, hcz268_3, hcz268_4, hcz268_5, hfz268_0, hfz268_1, hfz268_2, hfz268_3, hfz268_4, hfz268_5⟩ := cf6x9 BK342.out
           go_wp2_with (first | ((with_reducible refine gate_callee (f := 42) rfl ?_); refine goesL_ (some 118) rfl rfl Try.func42 (by kernel_rfl) rfl #[.agg #[.int .i64 t329, .int .i64 t330, .int .i64 t331, .slice Ao87 t380.length co87, .slice Ao88 t381.length co88, .slice Ao89 t382.length co89], .int .i64 1] rfl mpx9 ?_; (with_reducible refine (laws_heldModel.calls kj197 t329 t330 t331 _ _ t380 _ _ t381 _ _ t382 1 t423 _ ?side1 ?side2 ?side3 ?side4 ?side5 ?side6 A251.out).mono ?_); (case side1 => exact cRx9 HO_343003.out); (case side2 => exact (Kd.R_reads' HO_343003.out).2.1); (case side3 => exact cRx9 HO_343004.out); (case side4 => exact (Kd.R_reads' HO_343004.out).2.1); (case side5 => exact cRx9 HO_343005.out); (case side6 => exact (Kd.R_reads' HO_343005.out).2.1); rintro e w269 ⟨rfl, hb⟩; refine ⟨_, rfl, ?_⟩; replace HO_303003 := Aside0.mk (Kd.R_below (rRx9 HO_303003.out) hb); replace HO_303004 := Aside0.mk (Kd.R_below (rRx9 HO_303004.out) hb); replace HO_303005 := Aside0.mk (Kd.R_below (rRx9 HO_303005.out) hb); replace HO_316003 := Aside0.mk (Kd.R_below (rRx9 HO_316003.out) hb); replace HO_316004 := Aside0.mk (Kd.R_below (rRx9 HO_316004.out) hb); replace HO_316005 := Aside0.mk (Kd.R_below (rRx9 HO_316005.out) hb); replace HO_329003 := Aside0.mk (Kd.R_below (rRx9 HO_329003.out) hb); replace HO_329004 := Aside0.mk (Kd.R_below (rRx9 HO_329004.out) hb); replace HO_329005 := Aside0.mk (Kd.R_below (rRx9 HO_329005.out) hb); replace HO_343003 := Aside0.mk (Kd.R_below (rRx9 HO_343003.out) hb); replace HO_343004 := Aside0.mk (Kd.R_below (rRx9 HO_343004.out) hb); replace HO_343005 := Aside0.mk (Kd.R_below (rRx9 HO_343005.out) hb); replace HO_422003 := Aside0.mk (Kd.R_below (rRx9 HO_422003.out) hb); replace HO_422004 := Aside0.mk (Kd.R_below (rRx9 HO_422004.out) hb); replace HO_422005 := Aside0.mk (Kd.R_below (rRx9 HO_422005.out) hb); replace BK261 := Aside0.mk (blk_below (rBx9 BK261.out) hb); replace BK262 := Aside0.mk (blk_below (rBx9 BK262.out) hb); replace BK302 := Aside0.mk (blk_below (rBx9 BK302.out) hb); replace BK315 := Aside0.mk (blk_below (rBx9 BK315.out) hb); replace BK328 := Aside0.mk (blk_below (rBx9 BK328.out) hb); replace BK342 := Aside0.mk (blk_below (rBx9 BK342.out) hb); replace BK421 := Aside0.mk (blk_below (rBx9 BK421.out) hb); replace HB := Aside0.mk (below_step (be7x9 HB.out GE261.out GE262.out GE302.out GE315.out GE328.out GE342.out GE421.out) hb); (try clear hb); (try clear hb2); (try clear hk); (try clear hi)))
           go_ret
           exact ⟨by first | rfl | (simp [errW_none, errW_some] <;> rfl) | (simp [*, errW_none, errW_some] <;> rfl), be7x9 HB.out GE261.out GE262.out GE302.out GE315.out GE328.out GE342.out GE421.out⟩
          ·rw [if_neg c261] at H
           have c261b0 : (t423 == t379) = false := beq_eq_false_iff_ne.mpr c261
           have c261b1 : (t423 != t379) = true := bne_iff_ne.mpr c261
           obtain rfl := Option.some.inj H
           have hnb270 := NB342_261.out
           have hnc270 := NB261_342.out
           have hnb271 := NB342_262.out
           have hnc271 := NB262_342.out
           have hnb272 := NB342_302.out
           have hnc272 := NB302_342.out
           have hnb273 := NB342_315.out
           have hnc273 := NB315_342.out
           have hnb274 := NB342_328.out
           have hnc274 := NB328_342.out
           have hnb275 := NB342_421.out
           have hnc275 := NB421_342.out
           obtain ⟨hcz276_0, hcz276_1, hcz276_2, hcz276_3, hcz276_4, hcz276_5, hfz276_0, hfz276_1, hfz276_2, hfz276_3, hfz276_4, hfz276_5⟩ := cf6x9 BK342.out
           go_wp2_with (first | ((with_reducible refine gate_callee (f := 42) rfl ?_); refine goesL_ (some 118) rfl rfl Try.func42 (by kernel_rfl) rfl #[.agg #[.int .i64 t329, .int .i64 t330, .int .i64 t331, .slice Ao87 t380.length co87, .slice Ao88 t381.length co88, .slice Ao89 t382.length co89], .int .i64 1] rfl mpx9 ?_; (with_reducible refine (laws_heldModel.calls kj197 t329 t330 t331 _ _ t380 _ _ t381 _ _ t382 1 t423 _ ?side1 ?side2 ?side3 ?side4 ?side5 ?side6 A251.out).mono ?_); (case side1 => exact cRx9 HO_343003.out); (case side2 => exact (Kd.R_reads' HO_343003.out).2.1); (case side3 => exact cRx9 HO_343004.out); (case side4 => exact (Kd.R_reads' HO_343004.out).2.1); (case side5 => exact cRx9 HO_343005.out); (case side6 => exact (Kd.R_reads' HO_343005.out).2.1); rintro e w277 ⟨rfl, hb⟩; refine ⟨_, rfl, ?_⟩; replace HO_303003 := Aside0.mk (Kd.R_below (rRx9 HO_303003.out) hb); replace HO_303004 := Aside0.mk (Kd.R_below (rRx9 HO_303004.out) hb); replace HO_303005 := Aside0.mk (Kd.R_below (rRx9 HO_303005.out) hb); replace HO_316003 := Aside0.mk (Kd.R_below (rRx9 HO_316003.out) hb); replace HO_316004 := Aside0.mk (Kd.R_below (rRx9 HO_316004.out) hb); replace HO_316005 := Aside0.mk (Kd.R_below (rRx9 HO_316005.out) hb); replace HO_329003 := Aside0.mk (Kd.R_below (rRx9 HO_329003.out) hb); replace HO_329004 := Aside0.mk (Kd.R_below (rRx9 HO_329004.out) hb); replace HO_329005 := Aside0.mk (Kd.R_below (rRx9 HO_329005.out) hb); replace HO_343003 := Aside0.mk (Kd.R_below (rRx9 HO_343003.out) hb); replace HO_343004 := Aside0.mk (Kd.R_below (rRx9 HO_343004.out) hb); replace HO_343005 := Aside0.mk (Kd.R_below (rRx9 HO_343005.out) hb); replace HO_422003 := Aside0.mk (Kd.R_below (rRx9 HO_422003.out) hb); replace HO_422004 := Aside0.mk (Kd.R_below (rRx9 HO_422004.out) hb); replace HO_422005 := Aside0.mk (Kd.R_below (rRx9 HO_422005.out) hb); replace BK261 := Aside0.mk (blk_below (rBx9 BK261.out) hb); replace BK262 := Aside0.mk (blk_below (rBx9 BK262.out) hb); replace BK302 := Aside0.mk (blk_below (rBx9 BK302.out) hb); replace BK315 := Aside0.mk (blk_below (rBx9 BK315.out) hb); replace BK328 := Aside0.mk (blk_below (rBx9 BK328.out) hb); replace BK342 := Aside0.mk (blk_below (rBx9 BK342.out) hb); replace BK421 := Aside0.mk (blk_below (rBx9 BK421.out) hb); replace HB := Aside0.mk (below_step (be7x9 HB.out GE261.out GE262.out GE302.out GE315.out GE328.out GE342.out GE421.out) hb); (try clear hb); (try clear hb2); (try clear hk); (try clear hi)))
           go_ret
           exact ⟨by first | rfl | (simp [errW_none, errW_some] <;> rfl) | (simp [*, errW_none, errW_some] <;> rfl), be7x9 HB.out GE261.out GE262.out GE302.out GE315.out GE328.out GE342.out GE421.out⟩
     ·rw [if_neg c194] at H
      have c194b0 : (t383 == t379) = false := beq_eq_false_iff_ne.mpr c194
      have c194b1 : (t383 != t379) = true := bne_iff_ne.mpr c194
      obtain rfl := Option.some.inj H
      go_wp2
      go_ret
      exact ⟨by first | rfl | (simp [errW_none, errW_some] <;> rfl) | (simp [*, errW_none, errW_some] <;> rfl), be6x9 HB.out GE261.out GE262.out GE302.out GE315.out GE328.out GE342.out⟩
 ) : P := h
end Go.Proofs.Ytagnldmaglbpaaa.PFnExactMixModels
