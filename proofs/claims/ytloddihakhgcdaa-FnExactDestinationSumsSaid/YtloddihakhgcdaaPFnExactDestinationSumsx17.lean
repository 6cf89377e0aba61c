/- This text is this session's own, not the print's: programs (wip/squeeze.py and others) made it out of what print.sh, or wip/ownprint.py, had written (BYTES set higher), its facts said by short words. -/
import Derived.Test.YtloddihakhgcdaaPFnExactDestinationSumsx0
import Derived.Test.YtloddihakhgcdaaPFnExactDestinationSumsx1
import Derived.Test.YtloddihakhgcdaaPFnExactDestinationSumsx6
import Derived.Test.YtloddihakhgcdaaPFnExactDestinationSumsx7
import Derived.Test.YtloddihakhgcdaaPFnExactDestinationSumsx14
import Derived.Test.YtloddihakhgcdaaPFnExactDestinationSumsx15
import Derived.Test.YtloddihakhgcdaaPFnExactDestinationSumsx16
import Derived.Test.YtloddihakhgcdaaPFnExactDestinationSumsrx0
import Derived.Test.YtloddihakhgcdaaPFnExactDestinationSumswx0
namespace Go.Proofs.Ytloddihakhgcdaa.PFnExactDestinationSums
open Go.RowKit Go.Proofs.YtloddihakhgcdaaW.PrintWords Go.Proofs.YtloddihakhgcdaaW.PrintLast Go.Proofs.YtloddihakhgcdaaW.PrintMore
attribute [local go_sem] max2_int min2_int max_two min_two max_three min_three max_four min_four   -- for this text's walks alone
set_option linter.unusedVariables false
set_option linter.unusedSimpArgs false

theorem kmR {α : Type} {d : Kd α} {e b : Nat} {ok S : Nat → Prop} {W W' w1 : World} {v : Value} {xs : List α} (h : Aside0 (d.R e W b ok v xs)) (hk : Kept W' w1 S) (k : d.R e W b ok v xs → d.R e W' b ok v xs := by intro h; (with_reducible repeat (first | apply Kd.R_alloc | apply Kd.R_drewN | apply Kd.R_drew)); exact h) (c : ∀ k, ok k → S k → False := by intro k h1 h2; simp only [h1, ne_eq, not_false_eq_true, true_and, and_true, or_false, false_or, or_self] at h2) : Aside0 (d.R e w1 b ok v xs) := ⟨Kd.R_mono (Kd.R_keptB (k h.out) hk (fun k h1 h2 => c k h1 h2)) (fun _ h => h.1)⟩
theorem kmS {α : Type} {d : Kd α} {e b : Nat} {ok S : Nat → Prop} {W W' w1 : World} {v : Value} {xs : List α} (h : Aside0 (Kd.S d e W b ok v xs)) (hk : Kept W' w1 S) (k : Kd.S d e W b ok v xs → Kd.S d e W' b ok v xs := by intro h; (with_reducible repeat (first | apply Kd.S_alloc | apply Kd.S_drewN | apply Kd.S_drew)); exact h) (c : ∀ k, ok k → S k → False := by intro k h1 h2; simp only [h1, ne_eq, not_false_eq_true, true_and, and_true, or_false, false_or, or_self] at h2) : Aside0 (Kd.S d e w1 b ok v xs) := ⟨Kd.S_mono (Kd.S_keptB (k h.out) hk (fun k h1 h2 => c k h1 h2)) (fun _ h => h.1)⟩
theorem kmT {α : Type} {d : Kd α} {e b : Nat} {ok S : Nat → Prop} {W W' w1 : World} {v : Value} {xs : List α} (h : Aside0 (d.R e W b ok v xs)) (hk : Kept W' w1 S) (hE : d.E = [] := by rfl) (k : d.R e W b ok v xs → d.R e W' b ok v xs := by intro h; (with_reducible repeat (first | apply Kd.R_alloc | apply Kd.R_drewN | apply Kd.R_drew)); exact h) (c : ∀ k, some k = v.ownBlock → ok k → S k → False := by intro k h0 h1 h2; simp only [h1, ne_eq, not_false_eq_true, true_and, and_true, or_false, false_or, or_self] at h2; exact absurd h0 (by simp only [h2, ne_eq, not_false_eq_true])) : Aside0 (d.R e w1 b ok v xs) := ⟨Kd.R_reok hE (Kd.R_step (Kd.R_tight hE (k h.out)) (fun q e_ hl => hk.2 q hl (fun hs => c q e_ (h.out.1 q e_.symm) hs))) (fun q e_ => h.out.1 q e_)⟩
theorem bk1 {W W' w1 : World} {g t : Nat} {cs : Array Value} {α0 : Type} {d0 : Kd α0} {e0 b0 : Nat} {o0 : Nat → Prop} {v0 : Value} {x0 : List α0} (h : Aside0 (W.heap[g]? = some (.cells cs t (0, 0)))) (hk : Kept W' w1 (fun k => some k = v0.ownBlock)) (r0 : Aside0 (d0.R e0 W b0 o0 v0 x0)) (t0 : e0 ≠ t := by decide) (k : W.heap[g]? = some (.cells cs t (0, 0)) → W'.heap[g]? = some (.cells cs t (0, 0)) := by intro h; (with_reducible repeat (first | refine blk_drewN ?_ _ | refine blk_drew ?_ | refine blk_alloc ?_ _)); exact h) : Aside0 (w1.heap[g]? = some (.cells cs t (0, 0))) := ⟨blk_kept (k h.out) hk (Kd.R_ne r0.out h.out t0)⟩
theorem bk3 {W W' w1 : World} {g t : Nat} {cs : Array Value} {α0 : Type} {d0 : Kd α0} {e0 b0 : Nat} {o0 : Nat → Prop} {v0 : Value} {x0 : List α0} {α1 : Type} {d1 : Kd α1} {e1 b1 : Nat} {o1 : Nat → Prop} {v1 : Value} {x1 : List α1} {α2 : Type} {d2 : Kd α2} {e2 b2 : Nat} {o2 : Nat → Prop} {v2 : Value} {x2 : List α2} (h : Aside0 (W.heap[g]? = some (.cells cs t (0, 0)))) (hk : Kept W' w1 (fun k => some k = v0.ownBlock ∨ some k = v1.ownBlock ∨ some k = v2.ownBlock)) (r0 : Aside0 (d0.R e0 W b0 o0 v0 x0)) (r1 : Aside0 (d1.R e1 W b1 o1 v1 x1)) (r2 : Aside0 (d2.R e2 W b2 o2 v2 x2)) (t0 : e0 ≠ t := by decide) (t1 : e1 ≠ t := by decide) (t2 : e2 ≠ t := by decide) (k : W.heap[g]? = some (.cells cs t (0, 0)) → W'.heap[g]? = some (.cells cs t (0, 0)) := by intro h; (with_reducible repeat (first | refine blk_drewN ?_ _ | refine blk_drew ?_ | refine blk_alloc ?_ _)); exact h) : Aside0 (w1.heap[g]? = some (.cells cs t (0, 0))) := ⟨blk_kept (k h.out) hk (fun s => s.elim (Kd.R_ne r0.out h.out t0) (fun s => s.elim (Kd.R_ne r1.out h.out t1) (Kd.R_ne r2.out h.out t2)))⟩
theorem bkJ {W W' w1 : World} {g t : Nat} {cs : Array Value} {P : Nat → Prop} {α0 : Type} {d0 : Kd α0} {e0 b0 : Nat} {o0 : Nat → Prop} {v0 : Value} {x0 : List α0} {α1 : Type} {d1 : Kd α1} {e1 b1 : Nat} {o1 : Nat → Prop} {v1 : Value} {x1 : List α1} (h : Aside0 (W.heap[g]? = some (.cells cs t (0, 0)))) (hk : Kept W' w1 (fun k => P k ∨ some k = v0.ownBlock ∨ some k = v1.ownBlock)) (r0 : Aside0 (d0.R e0 W b0 o0 v0 x0)) (r1 : Aside0 (d1.R e1 W b1 o1 v1 x1)) (t0 : e0 ≠ t := by decide) (t1 : e1 ≠ t := by decide) (c : P g → False := by intro h; simp only [ne_eq, not_true_eq_false, and_false, false_and] at h) (k : W.heap[g]? = some (.cells cs t (0, 0)) → W'.heap[g]? = some (.cells cs t (0, 0)) := by intro h; (with_reducible repeat (first | refine blk_drewN ?_ _ | refine blk_drew ?_ | refine blk_alloc ?_ _)); exact h) : Aside0 (w1.heap[g]? = some (.cells cs t (0, 0))) := ⟨blk_kept (k h.out) hk (fun s => s.elim c (fun s => s.elim (Kd.R_ne r0.out h.out t0) (Kd.R_ne r1.out h.out t1)))⟩
theorem dnR {α : Type} {d : Kd α} {e b : Nat} {ok : Nat → Prop} {W W' : World} {v : Value} {xs : List α} {n : Nat} (h : Aside0 (d.R e W b ok v xs)) (hq : W.drewN n = W') : Aside0 (d.R e W' b ok v xs) := ⟨hq ▸ Kd.R_drewN h.out n⟩
theorem dnB {W W' : World} {g n : Nat} {o : Obj} (h : Aside0 (W.heap[g]? = some o)) (hq : W.drewN n = W') : Aside0 (W'.heap[g]? = some o) := ⟨hq ▸ blk_drewN h.out n⟩
theorem dnH {w W W' : World} {b n : Nat} (h : Aside0 (Below b w W)) (hq : W.drewN n = W') : Aside0 (Below b w W') := ⟨hq ▸ pw_below_drewN h.out n⟩
/-! ### laws_FnExactDestinationSums: function 3 -/
mutual
def laws_FnExactDestinationSums.j0 : Nat → Int → Int → Int → Int → Int → List Int → List Int → List Int → List (List Int) → List Int → List Int → Int → Int → Int → Int → Int → Int → List Int → Option (Bool)
 | 0, _, _, _, _, _, _, _, _, _, _, _, _, _, _, _, _, _, _ => none
 | k + 1, x3, x9, x419000, x419001, x419002, x419003, x419004, x419005, x420000, x420001, x420002, x420003, x420004, x420005, x420006, x420007, x421000, x421001 => (laws_szJob.f k x420000 x420001 x420002 x420003 x420004 x420005 x420006 x420007 x9).bind fun t422 => (if t422 < 0 then (some true) else ((laws_szPlan.f x421000 x421001 t422).bind fun t423 => (if t423 < 0 then (some true) else ((laws_toModel.f k x419000 x419001 x419002 x419003 x419004 x419005).bind fun bt424 => ((laws_toJob.f k x420000 x420001 x420002 x420003 x420004 x420005 x420006 x420007).bind fun bt436 => ((laws_toPlan.f k x421000 x421001).bind fun bt450 => ((spec_DestinationSums.f k bt424.1 bt424.2.1 bt424.2.2.1 bt424.2.2.2.1 bt424.2.2.2.2.1 bt424.2.2.2.2.2 bt436.1 bt436.2.1 bt436.2.2.1 bt436.2.2.2.1 bt436.2.2.2.2.1 bt436.2.2.2.2.2.1 bt436.2.2.2.2.2.2.1 bt436.2.2.2.2.2.2.2 bt450.1 bt450.2 x3).bind fun bt454 => ((laws_toModel.f k x419000 x419001 x419002 x419003 x419004 x419005).bind fun bt458 => ((laws_toJob.f k x420000 x420001 x420002 x420003 x420004 x420005 x420006 x420007).bind fun bt471 => ((laws_toPlan.f k x421000 x421001).bind fun bt486 => ((impl_DestinationSums.f k bt458.1 bt458.2.1 bt458.2.2.1 bt458.2.2.2.1 bt458.2.2.2.2.1 bt458.2.2.2.2.2 bt471.1 bt471.2.1 bt471.2.2.1 bt471.2.2.2.1 bt471.2.2.2.2.1 bt471.2.2.2.2.2.1 bt471.2.2.2.2.2.2.1 bt471.2.2.2.2.2.2.2 bt486.1 bt486.2 x3).bind fun bt491 => ((laws_eqIntS.f k bt491.1 bt454.1).bind fun t495 => (if t495 = true then (laws_FnExactDestinationSums.j1 k x3 bt454.1 bt454.2 bt491.1 bt491.2 (bt491.2 != bt454.2) x419000 x419001 x419002 x419003 x419004 x419005 x420000 x420001 x420002 x420003 x420004 x420005 x420006 x420007 x421000 x421001 bt458.1 bt458.2.1 bt458.2.2.1 bt458.2.2.2.1 bt458.2.2.2.2.1 bt458.2.2.2.2.2 bt471.1 bt471.2.1 bt471.2.2.1 bt471.2.2.2.1 bt471.2.2.2.2.1 bt471.2.2.2.2.2.1 bt471.2.2.2.2.2.2.1 bt471.2.2.2.2.2.2.2 bt486.1 bt486.2) else (laws_FnExactDestinationSums.j1 k x3 bt454.1 bt454.2 bt491.1 bt491.2 true x419000 x419001 x419002 x419003 x419004 x419005 x420000 x420001 x420002 x420003 x420004 x420005 x420006 x420007 x421000 x421001 bt458.1 bt458.2.1 bt458.2.2.1 bt458.2.2.2.1 bt458.2.2.2.2.1 bt458.2.2.2.2.2 bt471.1 bt471.2.1 bt471.2.2.1 bt471.2.2.2.1 bt471.2.2.2.2.1 bt471.2.2.2.2.2.1 bt471.2.2.2.2.2.2.1 bt471.2.2.2.2.2.2.2 bt486.1 bt486.2))))))))))))))
def laws_FnExactDestinationSums.j1 : Nat → Int → List Int → Bool → List Int → Bool → Bool → Int → Int → Int → List Int → List Int → List Int → List (List Int) → List Int → List Int → Int → Int → Int → Int → Int → Int → List Int → Int → Int → Int → List Int → List Int → List Int → List (List Int) → List Int → List Int → Int → Int → Int → Int → Int → Int → List Int → Option (Bool)
 | 0, _, _, _, _, _, _, _, _, _, _, _, _, _, _, _, _, _, _, _, _, _, _, _, _, _, _, _, _, _, _, _, _, _, _, _, _, _, _ => none
 | k + 1, x3, x10, x11, x15, x16, x70, x419000, x419001, x419002, x419003, x419004, x419005, x420000, x420001, x420002, x420003, x420004, x420005, x420006, x420007, x421000, x421001, x471000, x471001, x471002, x471003, x471004, x471005, x486000, x486001, x486002, x486003, x486004, x486005, x486006, x486007, x491000, x491001 => if x70 = true then (some false) else ((laws_toModel.f k x419000 x419001 x419002 x419003 x419004 x419005).bind fun bt496 => ((laws_eqModel.f k x471000 x471001 x471002 x471003 x471004 x471005 bt496.1 bt496.2.1 bt496.2.2.1 bt496.2.2.2.1 bt496.2.2.2.2.1 bt496.2.2.2.2.2).bind fun t508 => (if t508 = true then ((laws_toJob.f k x420000 x420001 x420002 x420003 x420004 x420005 x420006 x420007).bind fun bt509 => ((laws_eqJob.f k x486000 x486001 x486002 x486003 x486004 x486005 x486006 x486007 bt509.1 bt509.2.1 bt509.2.2.1 bt509.2.2.2.1 bt509.2.2.2.2.1 bt509.2.2.2.2.2.1 bt509.2.2.2.2.2.2.1 bt509.2.2.2.2.2.2.2).bind fun t523 => (if t523 = true then ((laws_toPlan.f k x421000 x421001).bind fun bt524 => ((laws_eqPlan.f k x491000 x491001 bt524.1 bt524.2).bind fun t528 => (if t528 = true then (laws_FnExactDestinationSums.j2 k x3 x10 x11 x15 x16 x419000 x419001 x419002 x419003 x419004 x419005 x420000 x420001 x420002 x420003 x420004 x420005 x420006 x420007 x421000 x421001 x471000 x471001 x471002 x471003 x471004 x471005 x486000 x486001 x486002 x486003 x486004 x486005 x486006 x486007 x491000 x491001) else (some false)))) else (some false)))) else (some false))))
def laws_FnExactDestinationSums.j2 : Nat → Int → List Int → Bool → List Int → Bool → Int → Int → Int → List Int → List Int → List Int → List (List Int) → List Int → List Int → Int → Int → Int → Int → Int → Int → List Int → Int → Int → Int → List Int → List Int → List Int → List (List Int) → List Int → List Int → Int → Int → Int → Int → Int → Int → List Int → Option (Bool)
 | 0, _, _, _, _, _, _, _, _, _, _, _, _, _, _, _, _, _, _, _, _, _, _, _, _, _, _, _, _, _, _, _, _, _, _, _, _, _ => none
 | k + 1, x3, x10, x11, x15, x16, x419000, x419001, x419002, x419003, x419004, x419005, x420000, x420001, x420002, x420003, x420004, x420005, x420006, x420007, x421000, x421001, x471000, x471001, x471002, x471003, x471004, x471005, x486000, x486001, x486002, x486003, x486004, x486005, x486006, x486007, x491000, x491001 => (laws_markModel.f k x471000 x471001 x471002 x471003 x471004 x471005 1).bind fun bt529 => ((laws_markJob.f k x486000 x486001 x486002 x486003 x486004 x486005 x486006 x486007 bt529.1).bind fun bt533 => ((laws_markPlan.f k x491000 x491001 bt533.1).bind fun bt537 => (if bt537.1 < 0 then (laws_FnExactDestinationSums.j3 k x3 x10 x11 x15 true x419000 x419001 x419002 x419003 x419004 x419005 x420000 x420001 x420002 x420003 x420004 x420005 x420006 x420007 x421000 x421001) else ((laws_eqIntS.f k x15 x10).bind fun t539 => (if t539 = true then (laws_FnExactDestinationSums.j3 k x3 x10 x11 x15 (x16 != x11) x419000 x419001 x419002 x419003 x419004 x419005 x420000 x420001 x420002 x420003 x420004 x420005 x420006 x420007 x421000 x421001) else (laws_FnExactDestinationSums.j3 k x3 x10 x11 x15 true x419000 x419001 x419002 x419003 x419004 x419005 x420000 x420001 x420002 x420003 x420004 x420005 x420006 x420007 x421000 x421001))))))
def laws_FnExactDestinationSums.j3 : Nat → Int → List Int → Bool → List Int → Bool → Int → Int → Int → List Int → List Int → List Int → List (List Int) → List Int → List Int → Int → Int → Int → Int → Int → Int → List Int → Option (Bool)
 | 0, _, _, _, _, _, _, _, _, _, _, _, _, _, _, _, _, _, _, _, _, _ => none
 | k + 1, x3, x10, x11, x15, x107, x419000, x419001, x419002, x419003, x419004, x419005, x420000, x420001, x420002, x420003, x420004, x420005, x420006, x420007, x421000, x421001 => if x107 = true then (some false) else ((laws_markIntS.f k x15 1).bind fun bt540 => ((laws_heldIntS.f k bt540.2 1).bind fun t542 => (if t542 < 0 then (some false) else (if t542 = bt540.1 then ((laws_toModel.f k x419000 x419001 x419002 x419003 x419004 x419005).bind fun bt543 => ((laws_toJob.f k x420000 x420001 x420002 x420003 x420004 x420005 x420006 x420007).bind fun bt555 => ((laws_toPlan.f k x421000 x421001).bind fun bt569 => ((impl_DestinationSums.f k bt543.1 bt543.2.1 bt543.2.2.1 bt543.2.2.2.1 bt543.2.2.2.2.1 bt543.2.2.2.2.2 bt555.1 bt555.2.1 bt555.2.2.1 bt555.2.2.2.1 bt555.2.2.2.2.1 bt555.2.2.2.2.2.1 bt555.2.2.2.2.2.2.1 bt555.2.2.2.2.2.2.2 bt569.1 bt569.2 x3).bind fun bt573 => ((laws_eqIntS.f k bt573.1 x10).bind fun t577 => (if t577 = true then (laws_FnExactDestinationSums.j4 k bt540.2 bt540.1 (bt573.2 != x11)) else (laws_FnExactDestinationSums.j4 k bt540.2 bt540.1 true))))))) else (some false)))))
def laws_FnExactDestinationSums.j4 : Nat → List Int → Int → Bool → Option (Bool)
 | 0, _, _, _ => none
 | k + 1, x15, x18, x138 => if x138 = true then (some false) else ((laws_heldIntS.f k x15 1).bind fun t578 => (if t578 < 0 then (some false) else (if t578 = x18 then (some true) else (some false))))
end
def laws_FnExactDestinationSums.f (k : Nat) (a0_0 : Int) (a0_1 : Int) (a0_2 : Int) (l0_3 : List Int) (l0_4 : List Int) (l0_5 : List Int) (l1_0 : List (List Int)) (l1_1 : List Int) (l1_2 : List Int) (a1_3 : Int) (a1_4 : Int) (a1_5 : Int) (a1_6 : Int) (a1_7 : Int) (a2_0 : Int) (l2_1 : List Int) (a3 : Int) : Option (Bool) := (laws_szModel.f a0_0 a0_1 a0_2 l0_3 l0_4 l0_5 1048576).bind fun t421 => (if t421 < 0 then (some true) else (laws_FnExactDestinationSums.j0 k a3 t421 a0_0 a0_1 a0_2 l0_3 l0_4 l0_5 l1_0 l1_1 l1_2 a1_3 a1_4 a1_5 a1_6 a1_7 a2_0 l2_1))
def laws_FnExactDestinationSums.T11 : Bool × List (List Nat × List Nat) := (true, [([], []), ([0], [0]), ([], []), ([2, 1], [2]), ([], []), ([4, 3], [4]), ([], []), ([1, 3, 5, 6, 5], [1, 3, 5, 6]), ([7], [7]), ([8], [8]), ([8], [8]), ([9, 7, 0, 1, 2, 3, 4, 5, 6, 7, 8, 9], [9]), ([10, 11, 0, 1, 2, 3, 4, 5, 6, 7, 8, 9, 10, 11], [10])])
def laws_FnExactDestinationSums.B11 : List Nat := [0, 1, 0, 7, 0, 31, 0, 127, 255, 511, 511, 1023, 4095]
theorem laws_FnExactDestinationSums.tab11 : rtab .any (opsOf Try.f3 11) = laws_FnExactDestinationSums.T11 := by kernel_rfl
theorem laws_FnExactDestinationSums.bits11 : waitsOk laws_FnExactDestinationSums.T11.2 laws_FnExactDestinationSums.B11 = true := by kernel_rfl
def laws_FnExactDestinationSums.T38 : Bool × List (List Nat × List Nat) := (true, [([], []), ([0], [0]), ([], []), ([2, 1], [2]), ([], []), ([4, 3], [4]), ([], []), ([1, 3, 5, 6, 5], [1, 3, 5, 6]), ([7], [7]), ([8], [8]), ([8], [8]), ([9, 7, 0, 1, 2, 3, 4, 5, 6, 7, 8, 9], [9]), ([10, 11, 0, 1, 2, 3, 4, 5, 6, 7, 8, 9, 10, 11], [10])])
def laws_FnExactDestinationSums.B38 : List Nat := [0, 1, 0, 7, 0, 31, 0, 127, 255, 511, 511, 1023, 4095]
theorem laws_FnExactDestinationSums.tab38 : rtab .any (opsOf Try.f3 38) = laws_FnExactDestinationSums.T38 := by kernel_rfl
theorem laws_FnExactDestinationSums.bits38 : waitsOk laws_FnExactDestinationSums.T38.2 laws_FnExactDestinationSums.B38 = true := by kernel_rfl
set_option maxHeartbeats 8000000 in
set_option maxRecDepth 100000 in
theorem laws_FnExactDestinationSums.calls (k : Nat) (a0_0 : Int) (a0_1 : Int) (a0_2 : Int) (A0_3 : Option Addr) (c0_3 : Nat) (l0_3 : List Int) (A0_4 : Option Addr) (c0_4 : Nat) (l0_4 : List Int) (A0_5 : Option Addr) (c0_5 : Nat) (l0_5 : List Int) (A1_0 : Option Addr) (c1_0 : Nat) (l1_0 : List (List Int)) (A1_1 : Option Addr) (c1_1 : Nat) (l1_1 : List Int) (A1_2 : Option Addr) (c1_2 : Nat) (l1_2 : List Int) (a1_3 : Int) (a1_4 : Int) (a1_5 : Int) (a1_6 : Int) (a1_7 : Int) (a2_0 : Int) (A2_1 : Option Addr) (c2_1 : Nat) (l2_1 : List Int) (a3 : Int) (r : Bool) (w : World) (hr0_3 : Kd.C (Kd.int .i64) w A0_3 l0_3.length l0_3) (hc0_3 : l0_3.length ≤ c0_3) (hr0_4 : Kd.C (Kd.int .i64) w A0_4 l0_4.length l0_4) (hc0_4 : l0_4.length ≤ c0_4) (hr0_5 : Kd.C (Kd.int .i64) w A0_5 l0_5.length l0_5) (hc0_5 : l0_5.length ≤ c0_5) (hr1_0 : Kd.C (Kd.slice 3 (Kd.int .i64)) w A1_0 l1_0.length l1_0) (hc1_0 : l1_0.length ≤ c1_0) (hr1_1 : Kd.C (Kd.int .i64) w A1_1 l1_1.length l1_1) (hc1_1 : l1_1.length ≤ c1_1) (hr1_2 : Kd.C (Kd.int .i64) w A1_2 l1_2.length l1_2) (hc1_2 : l1_2.length ≤ c1_2) (hr2_1 : Kd.C (Kd.int .i64) w A2_1 l2_1.length l2_1) (hc2_1 : l2_1.length ≤ c2_1) (h : laws_FnExactDestinationSums.f k a0_0 a0_1 a0_2 l0_3 l0_4 l0_5 l1_0 l1_1 l1_2 a1_3 a1_4 a1_5 a1_6 a1_7 a2_0 l2_1 a3 = some r) (hrt : Aside0 (r = true)) :
  Calls Try.prog 3 #[.agg #[.int .i64 a0_0, .int .i64 a0_1, .int .i64 a0_2, .slice A0_3 l0_3.length c0_3, .slice A0_4 l0_4.length c0_4, .slice A0_5 l0_5.length c0_5], .agg #[.slice A1_0 l1_0.length c1_0, .slice A1_1 l1_1.length c1_1, .slice A1_2 l1_2.length c1_2, .int .i64 a1_3, .int .i64 a1_4, .int .i64 a1_5, .int .i64 a1_6, .int .i64 a1_7], .agg #[.int .i64 a2_0, .slice A2_1 l2_1.length c2_1], .int .i64 a3] w fun e w' => e = .returned (.bool r) ∧ Below w.heap.size w w' := by
 have hu26 := Try.underlying26
 have hu31 := Try.underlying31
 have hu33 := Try.underlying33
 have hu41 := Try.underlying41
 have hu45 := Try.underlying45
 have hu47 := Try.underlying47
 have HR0_3 := m_ hr0_3
 have HC0_3 := m_ hc0_3
 clear hr0_3 hc0_3
 have HR0_4 := m_ hr0_4
 have HC0_4 := m_ hc0_4
 clear hr0_4 hc0_4
 have HR0_5 := m_ hr0_5
 have HC0_5 := m_ hc0_5
 clear hr0_5 hc0_5
 have HR1_0 := m_ hr1_0
 have HC1_0 := m_ hc1_0
 clear hr1_0 hc1_0
 have HR1_1 := m_ hr1_1
 have HC1_1 := m_ hc1_1
 clear hr1_1 hc1_1
 have HR1_2 := m_ hr1_2
 have HC1_2 := m_ hc1_2
 clear hr1_2 hc1_2
 have HR2_1 := m_ hr2_1
 have HC2_1 := m_ hc2_1
 clear hr2_1 hc2_1
 have HB := m_ (Below.refl w.heap.size w)
 have H : ((laws_szModel.f a0_0 a0_1 a0_2 l0_3 l0_4 l0_5 1048576).bind fun t421 => (if t421 < 0 then (some true) else (laws_FnExactDestinationSums.j0 k a3 t421 a0_0 a0_1 a0_2 l0_3 l0_4 l0_5 l1_0 l1_1 l1_2 a1_3 a1_4 a1_5 a1_6 a1_7 a2_0 l2_1))) = some r := h
 clear h
 replace H := Option.bind_eq_some_iff.mp H
 obtain ⟨t421, A50, H⟩ := H
 have A5 := m_ A50
 clear A50
 have HC6 := m_ H
 clear H
 go_enter Try.func3, Try.ntmps3
 go_upto_if 26 with (first | ((with_reducible refine gate_dst (N := 4) rfl ?_); refine bxx0 4 26 #[.int .i64 a0_0, .int .i64 a0_1, .int .i64 a0_2, .slice A0_3 l0_3.length c0_3, .slice A0_4 l0_4.length c0_4, .slice A0_5 l0_5.length c0_5] (be0x0 HB.out) (below_size (be0x0 HB.out)) ?_; clear HB; intro gb418 w7 BK418 HB GE418 hb hg; clear hb hg) | ((with_reducible refine gate_dst (N := 5) rfl ?_); refine bxx0 5 31 #[.slice A1_0 l1_0.length c1_0, .slice A1_1 l1_1.length c1_1, .slice A1_2 l1_2.length c1_2, .int .i64 a1_3, .int .i64 a1_4, .int .i64 a1_5, .int .i64 a1_6, .int .i64 a1_7] (be1x0 HB.out GE418.out) (below_size (be1x0 HB.out GE418.out)) ?_; clear HB; intro gb419 w8 BK419 HB GE419 hb hg; have NB418_419 := nbx0 BK418 hg; have NB419_418 := ncx0 BK418 hg; replace BK418 := kbx0 BK418 hb; clear hb hg) | ((with_reducible refine gate_dst (N := 6) rfl ?_); refine bxx0 6 33 #[.int .i64 a2_0, .slice A2_1 l2_1.length c2_1] (be2x0 HB.out GE418.out GE419.out) (below_size (be2x0 HB.out GE418.out GE419.out)) ?_; clear HB; intro gb420 w9 BK420 HB GE420 hb hg; have NB418_420 := nbx0 BK418 hg; have NB420_418 := ncx0 BK418 hg; replace BK418 := kbx0 BK418 hb; have NB419_420 := nbx0 BK419 hg; have NB420_419 := ncx0 BK419 hg; replace BK419 := kbx0 BK419 hb; clear hb hg; have hnb10 := NB418_419.out; have hnc10 := NB419_418.out; have hnb11 := NB418_420.out; have hnc11 := NB420_418.out; obtain ⟨hcz12_0, hcz12_1, hcz12_2, hcz12_3, hcz12_4, hcz12_5, hfz12_0, hfz12_1, hfz12_2, hfz12_3, hfz12_4, hfz12_5⟩ := cf6x0 BK418.out) | ((with_reducible refine gate_callee (f := 5) rfl ?_); refine gLx0 (some 24) Try.func5 #[.agg #[.int .i64 a0_0, .int .i64 a0_1, .int .i64 a0_2, .slice A0_3 l0_3.length c0_3, .slice A0_4 l0_4.length c0_4, .slice A0_5 l0_5.length c0_5], .int .i64 1048576] ?_; (with_reducible refine (laws_szModel.calls a0_0 a0_1 a0_2 _ _ l0_3 _ _ l0_4 _ _ l0_5 1048576 t421 _ ?side1 ?side2 ?side3 ?side4 ?side5 ?side6 A5.out).mono ?_); (case side1 => exact rCx0 (Kd.C_below HR0_3.out HB.out)); (case side2 => exact HC0_3.out); (case side3 => exact rCx0 (Kd.C_below HR0_4.out HB.out)); (case side4 => exact HC0_4.out); (case side5 => exact rCx0 (Kd.C_below HR0_5.out HB.out)); (case side6 => exact HC0_5.out); rintro e w13 ⟨rfl, hb⟩; refine ⟨_, rfl, ?_⟩; replace BK418 := kbx0 BK418 hb; replace BK419 := kbx0 BK419 hb; replace BK420 := kbx0 BK420 hb; replace HB := m_ (below_step (be3x0 HB.out GE418.out GE419.out GE420.out) hb); (try clear hb); (try clear hb2); (try clear hk); (try clear hi)))
 (try simp only [Act.put, List.setIfInBounds_toArray, List.set_cons_zero, List.set_cons_succ])
 go_cut [] (fun wc => ∃ (kq : Nat), Aside0 (laws_FnExactDestinationSums.j0 kq a3 t421 a0_0 a0_1 a0_2 l0_3 l0_4 l0_5 l1_0 l1_1 l1_2 a1_3 a1_4 a1_5 a1_6 a1_7 a2_0 l2_1 = some r) ∧ Aside0 (kq ≤ k) ∧ Aside0 (wc.heap[gb418]? = some (.cells #[.int .i64 a0_0, .int .i64 a0_1, .int .i64 a0_2, (.slice A0_3 l0_3.length c0_3), (.slice A0_4 l0_4.length c0_4), (.slice A0_5 l0_5.length c0_5)] 26 (0, 0))) ∧ Aside0 (wc.heap[gb419]? = some (.cells #[(.slice A1_0 l1_0.length c1_0), (.slice A1_1 l1_1.length c1_1), (.slice A1_2 l1_2.length c1_2), .int .i64 a1_3, .int .i64 a1_4, .int .i64 a1_5, .int .i64 a1_6, .int .i64 a1_7] 31 (0, 0))) ∧ Aside0 (wc.heap[gb420]? = some (.cells #[.int .i64 a2_0, (.slice A2_1 l2_1.length c2_1)] 33 (0, 0))) ∧ Aside0 (Below w.heap.size w wc))
 case first =>
  have H := HC6.out
  clear HC6
  by_cases c14 : t421 < 0
  ·rw [if_pos c14] at H
   have c14b0 := decide_eq_true c14
   clear c14
   (first | rw [c14b0] | (simp only [i64_w, i32_w]; rw [c14b0]) | skip)
   obtain rfl := Option.some.inj H
   go_wp2
   go_ret
   exact ⟨by first | rfl | (simp [errW_none, errW_some] <;> rfl) | (simp [*, errW_none, errW_some] <;> rfl), be3x0 HB.out GE418.out GE419.out GE420.out⟩
  ·rw [if_neg c14] at H
   have c14b0 := decide_eq_false c14
   clear c14
   (first | rw [c14b0] | (simp only [i64_w, i32_w]; rw [c14b0]) | skip)
   have H' := m_ H
   clear H
   go_wp2
   go_meet
   case rel => exact ⟨_, H', ⟨by first | omega | exact Nat.le_refl _⟩, ⟨rBx0 BK418.out⟩, ⟨rBx0 BK419.out⟩, ⟨rBx0 BK420.out⟩, ⟨be3x0 HB.out GE418.out GE419.out GE420.out⟩⟩
 case rest =>
  clear HC6
  try clear c14; try clear c14b0; try clear hcz12_0 hcz12_1 hcz12_2 hcz12_3 hcz12_4 hcz12_5 hfz12_0 hfz12_1 hfz12_2 hfz12_3 hfz12_4 hfz12_5
  obtain ⟨kq, HA, HJ5, BK418, BK419, BK420, HB⟩ := hcut
  cases kq with
  | zero => exact absurd HA.out (by simp [laws_FnExactDestinationSums.j0])
  | succ kj5 =>
   have H := HA.out
   clear HA
   simp only [laws_FnExactDestinationSums.j0] at H
   replace H := Option.bind_eq_some_iff.mp H
   obtain ⟨t422, A150, H⟩ := H
   have A15 := m_ A150
   clear A150
   by_cases c16 : t422 < 0
   ·rw [if_pos c16] at H
    have c16b0 := decide_eq_true c16
    clear c16
    obtain rfl := Option.some.inj H
    have hnb17 := NB419_418.out
    have hnc17 := NB418_419.out
    have hnb18 := NB419_420.out
    have hnc18 := NB420_419.out
    obtain ⟨hcz19_0, hcz19_1, hcz19_2, hcz19_3, hcz19_4, hcz19_5, hcz19_6, hcz19_7, hfz19_0, hfz19_1, hfz19_2, hfz19_3, hfz19_4, hfz19_5, hfz19_6, hfz19_7⟩ := cf8x0 BK419.out
    go_wp2_with (first | ((with_reducible refine gate_callee (f := 6) rfl ?_); refine gLx0 (some 29) Try.func6 #[.agg #[.slice A1_0 l1_0.length c1_0, .slice A1_1 l1_1.length c1_1, .slice A1_2 l1_2.length c1_2, .int .i64 a1_3, .int .i64 a1_4, .int .i64 a1_5, .int .i64 a1_6, .int .i64 a1_7], .int .i64 t421] ?_; (with_reducible refine (laws_szJob.calls kj5 _ _ l1_0 _ _ l1_1 _ _ l1_2 a1_3 a1_4 a1_5 a1_6 a1_7 t421 t422 _ ?side1 ?side2 ?side3 ?side4 ?side5 ?side6 A15.out).mono ?_); (case side1 => exact rCx0 (Kd.C_below HR1_0.out HB.out)); (case side2 => exact HC1_0.out); (case side3 => exact rCx0 (Kd.C_below HR1_1.out HB.out)); (case side4 => exact HC1_1.out); (case side5 => exact rCx0 (Kd.C_below HR1_2.out HB.out)); (case side6 => exact HC1_2.out); rintro e w20 ⟨rfl, hb⟩; refine ⟨_, rfl, ?_⟩; replace BK418 := kbx0 BK418 hb; replace BK419 := kbx0 BK419 hb; replace BK420 := kbx0 BK420 hb; replace HB := m_ (below_step (be3x0 HB.out GE418.out GE419.out GE420.out) hb); (try clear hb); (try clear hb2); (try clear hk); (try clear hi)))
    go_ret
    exact ⟨by first | rfl | (simp [errW_none, errW_some] <;> rfl) | (simp [*, errW_none, errW_some] <;> rfl), be3x0 HB.out GE418.out GE419.out GE420.out⟩
   ·rw [if_neg c16] at H
    have c16b0 := decide_eq_false c16
    clear c16
    replace H := Option.bind_eq_some_iff.mp H
    obtain ⟨t423, A210, H⟩ := H
    have A21 := m_ A210
    clear A210
    by_cases c22 : t423 < 0
    ·rw [if_pos c22] at H
     have c22b0 := decide_eq_true c22
     clear c22
     obtain rfl := Option.some.inj H
     have hnb23 := NB419_418.out
     have hnc23 := NB418_419.out
     have hnb24 := NB419_420.out
     have hnc24 := NB420_419.out
     obtain ⟨hcz25_0, hcz25_1, hcz25_2, hcz25_3, hcz25_4, hcz25_5, hcz25_6, hcz25_7, hfz25_0, hfz25_1, hfz25_2, hfz25_3, hfz25_4, hfz25_5, hfz25_6, hfz25_7⟩ := cf8x0 BK419.out
     go_wp2_with (first | ((with_reducible refine gate_callee (f := 6) rfl ?_); refine gLx0 (some 29) Try.func6 #[.agg #[.slice A1_0 l1_0.length c1_0, .slice A1_1 l1_1.length c1_1, .slice A1_2 l1_2.length c1_2, .int .i64 a1_3, .int .i64 a1_4, .int .i64 a1_5, .int .i64 a1_6, .int .i64 a1_7], .int .i64 t421] ?_; (with_reducible refine (laws_szJob.calls kj5 _ _ l1_0 _ _ l1_1 _ _ l1_2 a1_3 a1_4 a1_5 a1_6 a1_7 t421 t422 _ ?side1 ?side2 ?side3 ?side4 ?side5 ?side6 A15.out).mono ?_); (case side1 => exact rCx0 (Kd.C_below HR1_0.out HB.out)); (case side2 => exact HC1_0.out); (case side3 => exact rCx0 (Kd.C_below HR1_1.out HB.out)); (case side4 => exact HC1_1.out); (case side5 => exact rCx0 (Kd.C_below HR1_2.out HB.out)); (case side6 => exact HC1_2.out); rintro e w26 ⟨rfl, hb⟩; refine ⟨_, rfl, ?_⟩; replace BK418 := kbx0 BK418 hb; replace BK419 := kbx0 BK419 hb; replace BK420 := kbx0 BK420 hb; replace HB := m_ (below_step (be3x0 HB.out GE418.out GE419.out GE420.out) hb); (try clear hb); (try clear hb2); (try clear hk); (try clear hi); have hnb27 := NB420_418.out; have hnc27 := NB418_420.out; obtain ⟨hcz28_0, hcz28_1, hfz28_0, hfz28_1⟩ := cf2x0 BK420.out) | ((with_reducible refine gate_callee (f := 7) rfl ?_); refine gLx0 (some 34) Try.func7 #[.agg #[.int .i64 a2_0, .slice A2_1 l2_1.length c2_1], .int .i64 t422] ?_; (with_reducible refine (laws_szPlan.calls a2_0 _ _ l2_1 t422 t423 _ ?side1 ?side2 A21.out).mono ?_); (case side1 => exact rCx0 (Kd.C_below HR2_1.out HB.out)); (case side2 => exact HC2_1.out); rintro e w29 ⟨rfl, hb⟩; refine ⟨_, rfl, ?_⟩; replace BK418 := kbx0 BK418 hb; replace BK419 := kbx0 BK419 hb; replace BK420 := kbx0 BK420 hb; replace HB := m_ (below_step (be3x0 HB.out GE418.out GE419.out GE420.out) hb); (try clear hb); (try clear hb2); (try clear hk); (try clear hi)))
     go_ret
     exact ⟨by first | rfl | (simp [errW_none, errW_some] <;> rfl) | (simp [*, errW_none, errW_some] <;> rfl), be3x0 HB.out GE418.out GE419.out GE420.out⟩
    ·rw [if_neg c22] at H
     have c22b0 := decide_eq_false c22
     clear c22
     replace H := Option.bind_eq_some_iff.mp H
     obtain ⟨⟨t424, t425, t426, t427, t430, t433⟩, A300, H⟩ := H
     (try dsimp only at H)
     have A30 := m_ A300
     clear A300
     replace H := Option.bind_eq_some_iff.mp H
     obtain ⟨⟨t436, t439, t442, t445, t446, t447, t448, t449⟩, A310, H⟩ := H
     (try dsimp only at H)
     have A31 := m_ A310
     clear A310
     replace H := Option.bind_eq_some_iff.mp H
     obtain ⟨⟨t450, t451⟩, A320, H⟩ := H
     (try dsimp only at H)
     have A32 := m_ A320
     clear A320
     replace H := Option.bind_eq_some_iff.mp H
     obtain ⟨⟨t454, t457⟩, A330, H⟩ := H
     (try dsimp only at H)
     have A33 := m_ A330
     clear A330
     replace H := Option.bind_eq_some_iff.mp H
     obtain ⟨⟨t458, t459, t460, t461, t464, t467⟩, A340, H⟩ := H
     (try dsimp only at H)
     have A34 := m_ A340
     clear A340
     replace H := Option.bind_eq_some_iff.mp H
     obtain ⟨⟨t471, t474, t477, t480, t481, t482, t483, t484⟩, A350, H⟩ := H
     (try dsimp only at H)
     have A35 := m_ A350
     clear A350
     replace H := Option.bind_eq_some_iff.mp H
     obtain ⟨⟨t486, t487⟩, A360, H⟩ := H
     (try dsimp only at H)
     have A36 := m_ A360
     clear A360
     replace H := Option.bind_eq_some_iff.mp H
     obtain ⟨⟨t491, t494⟩, A370, H⟩ := H
     (try dsimp only at H)
     have A37 := m_ A370
     clear A370
     have HC38 := m_ H
     clear H
     have hnb39 := NB419_418.out
     have hnc39 := NB418_419.out
     have hnb40 := NB419_420.out
     have hnc40 := NB420_419.out
     obtain ⟨hcz41_0, hcz41_1, hcz41_2, hcz41_3, hcz41_4, hcz41_5, hcz41_6, hcz41_7, hfz41_0, hfz41_1, hfz41_2, hfz41_3, hfz41_4, hfz41_5, hfz41_6, hfz41_7⟩ := cf8x0 BK419.out
     try go_wp2_with (first | ((with_reducible refine gate_callee (f := 6) rfl ?_); refine gLx0 (some 29) Try.func6 #[.agg #[.slice A1_0 l1_0.length c1_0, .slice A1_1 l1_1.length c1_1, .slice A1_2 l1_2.length c1_2, .int .i64 a1_3, .int .i64 a1_4, .int .i64 a1_5, .int .i64 a1_6, .int .i64 a1_7], .int .i64 t421] ?_; (with_reducible refine (laws_szJob.calls kj5 _ _ l1_0 _ _ l1_1 _ _ l1_2 a1_3 a1_4 a1_5 a1_6 a1_7 t421 t422 _ ?side1 ?side2 ?side3 ?side4 ?side5 ?side6 A15.out).mono ?_); (case side1 => exact rCx0 (Kd.C_below HR1_0.out HB.out)); (case side2 => exact HC1_0.out); (case side3 => exact rCx0 (Kd.C_below HR1_1.out HB.out)); (case side4 => exact HC1_1.out); (case side5 => exact rCx0 (Kd.C_below HR1_2.out HB.out)); (case side6 => exact HC1_2.out); rintro e w42 ⟨rfl, hb⟩; refine ⟨_, rfl, ?_⟩; replace BK418 := kbx0 BK418 hb; replace BK419 := kbx0 BK419 hb; replace BK420 := kbx0 BK420 hb; replace HB := m_ (below_step (be3x0 HB.out GE418.out GE419.out GE420.out) hb); (try clear hb); (try clear hb2); (try clear hk); (try clear hi); have hnb43 := NB420_418.out; have hnc43 := NB418_420.out; obtain ⟨hcz44_0, hcz44_1, hfz44_0, hfz44_1⟩ := cf2x0 BK420.out) | ((with_reducible refine gate_callee (f := 7) rfl ?_); refine gLx0 (some 34) Try.func7 #[.agg #[.int .i64 a2_0, .slice A2_1 l2_1.length c2_1], .int .i64 t422] ?_; (with_reducible refine (laws_szPlan.calls a2_0 _ _ l2_1 t422 t423 _ ?side1 ?side2 A21.out).mono ?_); (case side1 => exact rCx0 (Kd.C_below HR2_1.out HB.out)); (case side2 => exact HC2_1.out); rintro e w45 ⟨rfl, hb⟩; refine ⟨_, rfl, ?_⟩; replace BK418 := kbx0 BK418 hb; replace BK419 := kbx0 BK419 hb; replace BK420 := kbx0 BK420 hb; replace HB := m_ (below_step (be3x0 HB.out GE418.out GE419.out GE420.out) hb); (try clear hb); (try clear hb2); (try clear hk); (try clear hi)))
     replace BK418 := m_ (blk_drew BK418.out)
     replace BK419 := m_ (blk_drew BK419.out)
     replace BK420 := m_ (blk_drew BK420.out)
     replace HB := m_ (below_drew1 HB.out)
     refine start_ (n := 13) (S := fun w' => w'.cell? ⟨gb418, 0, none⟩ = some (.int .i64 a0_0) ∧ w'.cell? ⟨gb418, 1, none⟩ = some (.int .i64 a0_1) ∧ w'.cell? ⟨gb418, 2, none⟩ = some (.int .i64 a0_2) ∧ w'.cell? ⟨gb418, 3, none⟩ = some (.slice A0_3 l0_3.length c0_3) ∧ w'.cell? ⟨gb418, 4, none⟩ = some (.slice A0_4 l0_4.length c0_4) ∧ w'.cell? ⟨gb418, 5, none⟩ = some (.slice A0_5 l0_5.length c0_5) ∧ w'.cell? ⟨gb419, 0, none⟩ = some (.slice A1_0 l1_0.length c1_0) ∧ w'.cell? ⟨gb419, 1, none⟩ = some (.slice A1_1 l1_1.length c1_1) ∧ w'.cell? ⟨gb419, 2, none⟩ = some (.slice A1_2 l1_2.length c1_2) ∧ w'.cell? ⟨gb419, 3, none⟩ = some (.int .i64 a1_3) ∧ w'.cell? ⟨gb419, 4, none⟩ = some (.int .i64 a1_4) ∧ w'.cell? ⟨gb419, 5, none⟩ = some (.int .i64 a1_5) ∧ w'.cell? ⟨gb419, 6, none⟩ = some (.int .i64 a1_6) ∧ w'.cell? ⟨gb419, 7, none⟩ = some (.int .i64 a1_7) ∧ w'.cell? ⟨gb420, 0, none⟩ = some (.int .i64 a2_0) ∧ w'.cell? ⟨gb420, 1, none⟩ = some (.slice A2_1 l2_1.length c2_1)) (ds := []) (tf_ 0 13) (by kernel_rfl) rfl rfl (ca6x0 BK418.out (ca8x0 BK419.out (cc2x0 BK420.out))) (fun hHeld => ?_); refine with_tabW laws_FnExactDestinationSums.tab11 laws_FnExactDestinationSums.bits11 (fun HT_ HW_ => ?_)
     generalize w45.drew = w46 at BK418 BK419 BK420 HB hHeld ⊢
     refine pv_ 6 44 #[false, false, false, false, false, false, true, false, false, false, false, false, false] HT_ ?_
     refine take_ (i := 0) (N := some 38) (v := ?_) (a' := ?_) #[true, false, false, false, false, false, true, false, false, false, false, false, false] rfl rfl (take_ofW HT_.out HW_.out (by kernel_rfl)) (fun _ _ _ h => h) (Or.inl ⟨by rfl, ?_⟩) hHeld ?_ ?_
     rotate_left
     ·rintro w' ⟨s0, s1, s2, s3, s4, s5, s6, s7, s8, s9, s10, s11, s12, s13, s14, s15⟩
      go_simp
      with_reducible rfl
     rotate_left
     ·simp only [Act.put, List.setIfInBounds_toArray, List.set_cons_zero, List.set_cons_succ, i64_w, i32_w]
      rfl
     refine take_ (i := 2) (N := some 40) (v := ?_) (a' := ?_) #[true, false, true, false, false, false, true, false, false, false, false, false, false] rfl rfl (take_ofW HT_.out HW_.out (by kernel_rfl)) (fun _ _ _ h => h) (Or.inl ⟨by rfl, ?_⟩) hHeld ?_ ?_
     rotate_left
     ·rintro w' ⟨s0, s1, s2, s3, s4, s5, s6, s7, s8, s9, s10, s11, s12, s13, s14, s15⟩
      go_simp
      with_reducible rfl
     rotate_left
     ·simp only [Act.put, List.setIfInBounds_toArray, List.set_cons_zero, List.set_cons_succ, i64_w, i32_w]
      rfl
     refine take_ (i := 4) (N := some 42) (v := ?_) (a' := ?_) #[true, false, true, false, true, false, true, false, false, false, false, false, false] rfl rfl (take_ofW HT_.out HW_.out (by kernel_rfl)) (fun _ _ _ h => h) (Or.inl ⟨by rfl, ?_⟩) hHeld ?_ ?_
     rotate_left
     ·rintro w' ⟨s0, s1, s2, s3, s4, s5, s6, s7, s8, s9, s10, s11, s12, s13, s14, s15⟩
      go_simp
      with_reducible rfl
     rotate_left
     ·simp only [Act.put, List.setIfInBounds_toArray, List.set_cons_zero, List.set_cons_succ, i64_w, i32_w]
      rfl
     refine one_ (i := 1) (N := some 39) #[true, true, true, false, true, false, true, false, false, false, false, false, false] rfl rfl (one_of HT_.out (by kernel_rfl)) (by decide) (fun K hK => ?_)
     refine goes_ Try.func9 (by kernel_rfl) rfl #[.agg #[.int .i64 a0_0, .int .i64 a0_1, .int .i64 a0_2, .slice A0_3 l0_3.length c0_3, .slice A0_4 l0_4.length c0_4, .slice A0_5 l0_5.length c0_5]] (by rfl) rfl rfl mpx0 ?_
     with_reducible refine (laws_toModel.calls kj5 a0_0 a0_1 a0_2 _ _ l0_3 _ _ l0_4 _ _ l0_5 t424 t425 t426 t427 t430 t433 _ ?side1 ?side2 ?side3 ?side4 ?side5 ?side6 A30.out).mono ?_
     (case side1 => exact rCx0 (Kd.C_below HR0_3.out HB.out))
     (case side2 => exact HC0_3.out)
     (case side3 => exact rCx0 (Kd.C_below HR0_4.out HB.out))
     (case side4 => exact HC0_4.out)
     (case side5 => exact rCx0 (Kd.C_below HR0_5.out HB.out))
     (case side6 => exact HC0_5.out)
     rintro e w47 ⟨v428, v431, v434, rfl, ho0, ho1, ho2, hb⟩
     refine ⟨_, rfl, ?_⟩
     have HO429 := m_ (Kd.R_lower ho0 (below_size (be3x0 HB.out GE418.out GE419.out GE420.out)))
     have HO432 := m_ (Kd.R_lower ho1 (below_size (be3x0 HB.out GE418.out GE419.out GE420.out)))
     have HO435 := m_ (Kd.R_lower ho2 (below_size (be3x0 HB.out GE418.out GE419.out GE420.out)))
     replace BK418 := kbx0 BK418 hb
     replace BK419 := kbx0 BK419 hb
     replace BK420 := kbx0 BK420 hb
     replace HB := m_ (below_step (be3x0 HB.out GE418.out GE419.out GE420.out) hb)
     (try clear hb)
     (try clear hb2)
     (try clear hk)
     (try clear hi)
     (try clear ho0)
     (try clear ho1)
     (try clear ho2)
     refine hK.out _ _ (ca6x0 BK418.out (ca8x0 BK419.out (cc2x0 BK420.out))) (fun hHeld => ?_)
     clear hK K
     refine norm_ (a' := ?_) ?_ ?_
     rotate_left
     ·show Act.put _ (some 39) _ = _
      simp only [Act.put, List.setIfInBounds_toArray, List.set_cons_zero, List.set_cons_succ, i64_w, i32_w]
      rfl
     refine one_ (i := 3) (N := some 41) #[true, true, true, true, true, false, true, false, false, false, false, false, false] rfl rfl (one_of HT_.out (by kernel_rfl)) (by decide) (fun K hK => ?_)
     refine goes_ Try.func10 (by kernel_rfl) rfl #[.agg #[.slice A1_0 l1_0.length c1_0, .slice A1_1 l1_1.length c1_1, .slice A1_2 l1_2.length c1_2, .int .i64 a1_3, .int .i64 a1_4, .int .i64 a1_5, .int .i64 a1_6, .int .i64 a1_7]] (by rfl) rfl rfl mpx0 ?_
     with_reducible refine (laws_toJob.calls kj5 _ _ l1_0 _ _ l1_1 _ _ l1_2 a1_3 a1_4 a1_5 a1_6 a1_7 t436 t439 t442 t445 t446 t447 t448 t449 _ ?side1 ?side2 ?side3 ?side4 ?side5 ?side6 A31.out).mono ?_
     (case side1 => exact rCx0 (Kd.C_below HR1_0.out HB.out))
     (case side2 => exact HC1_0.out)
     (case side3 => exact rCx0 (Kd.C_below HR1_1.out HB.out))
     (case side4 => exact HC1_1.out)
     (case side5 => exact rCx0 (Kd.C_below HR1_2.out HB.out))
     (case side6 => exact HC1_2.out)
     rintro e w48 ⟨v437, v440, v443, rfl, ho0, ho1, ho2, hb⟩
     refine ⟨_, rfl, ?_⟩
     have HO438 := m_ (Kd.S_lower (Kd.S_new' (Kd.S_new' (Kd.S_new' ho0 (Kd.R_lt (rRx0 HO429.out))) (Kd.R_lt (rRx0 HO432.out))) (Kd.R_lt (rRx0 HO435.out))) (below_size (be3x0 HB.out GE418.out GE419.out GE420.out)))
     have HO441 := m_ (Kd.R_lower (nwx0 (nwx0 (nwx0 ho1 (rRx0 HO429.out)) (rRx0 HO432.out)) (rRx0 HO435.out)) (below_size (be3x0 HB.out GE418.out GE419.out GE420.out)))
     have HO444 := m_ (Kd.R_lower (nwx0 (nwx0 (nwx0 ho2 (rRx0 HO429.out)) (rRx0 HO432.out)) (rRx0 HO435.out)) (below_size (be3x0 HB.out GE418.out GE419.out GE420.out)))
     replace HO429 := m_ (Kd.R_mono (Kd.R_told (Kd.R_told (Kd.R_old (rRx0 HO429.out) hb) (Kd.R_base ho1)) (Kd.R_base ho2)) (fun _ h_ => h_.1))
     replace HO432 := m_ (Kd.R_mono (Kd.R_told (Kd.R_told (Kd.R_old (rRx0 HO432.out) hb) (Kd.R_base ho1)) (Kd.R_base ho2)) (fun _ h_ => h_.1))
     replace HO435 := m_ (Kd.R_mono (Kd.R_told (Kd.R_told (Kd.R_old (rRx0 HO435.out) hb) (Kd.R_base ho1)) (Kd.R_base ho2)) (fun _ h_ => h_.1))
     replace BK418 := kbx0 BK418 hb
     replace BK419 := kbx0 BK419 hb
     replace BK420 := kbx0 BK420 hb
     replace HB := m_ (below_step (be3x0 HB.out GE418.out GE419.out GE420.out) hb)
     (try clear hb)
     (try clear hb2)
     (try clear hk)
     (try clear hi)
     (try clear ho0)
     (try clear ho1)
     (try clear ho2)
     refine hK.out _ _ (ca6x0 BK418.out (ca8x0 BK419.out (cc2x0 BK420.out))) (fun hHeld => ?_)
     clear hK K
     refine norm_ (a' := ?_) ?_ ?_
     rotate_left
     ·show Act.put _ (some 41) _ = _
      simp only [Act.put, List.setIfInBounds_toArray, List.set_cons_zero, List.set_cons_succ, i64_w, i32_w]
      rfl
     refine one_ (i := 5) (N := some 43) (tf_ 7 13) rfl rfl (one_of HT_.out (by kernel_rfl)) (by decide) (fun K hK => ?_)
     refine goes_ Try.func11 (by kernel_rfl) rfl #[.agg #[.int .i64 a2_0, .slice A2_1 l2_1.length c2_1]] (by rfl) rfl rfl mpx0 ?_
     with_reducible refine (laws_toPlan.calls kj5 a2_0 _ _ l2_1 t450 t451 _ ?side1 ?side2 A32.out).mono ?_
     (case side1 => exact rCx0 (Kd.C_below HR2_1.out HB.out))
     (case side2 => exact HC2_1.out)
     rintro e w49 ⟨v452, rfl, ho0, hb⟩
     refine ⟨_, rfl, ?_⟩
     replace HO438 := m_ (Kd.S_elder' (rSx0 HO438.out) (Kd.R_base ho0) hb)
     have HO453 := m_ (Kd.R_lower (nwx0 (nwx0 (nwx0 (nwx0 (nwx0 ho0 (rRx0 HO429.out)) (rRx0 HO432.out)) (rRx0 HO435.out)) (rRx0 HO441.out)) (rRx0 HO444.out)) (below_size (be3x0 HB.out GE418.out GE419.out GE420.out)))
     replace HO429 := m_ (Kd.R_elder' (rRx0 HO429.out) (Kd.R_base ho0) hb)
     replace HO432 := m_ (Kd.R_elder' (rRx0 HO432.out) (Kd.R_base ho0) hb)
     replace HO435 := m_ (Kd.R_elder' (rRx0 HO435.out) (Kd.R_base ho0) hb)
     replace HO441 := m_ (Kd.R_elder' (rRx0 HO441.out) (Kd.R_base ho0) hb)
     replace HO444 := m_ (Kd.R_elder' (rRx0 HO444.out) (Kd.R_base ho0) hb)
     replace BK418 := kbx0 BK418 hb
     replace BK419 := kbx0 BK419 hb
     replace BK420 := kbx0 BK420 hb
     replace HB := m_ (below_step (be3x0 HB.out GE418.out GE419.out GE420.out) hb)
     (try clear hb)
     (try clear hb2)
     (try clear hk)
     (try clear hi)
     (try clear ho0)
     obtain ⟨Ao50, co50, eo50⟩ := Kd.R_slice HO429.out
     (first | subst eo50 | (injection eo50 with f1_ f2_ f3_; have f4_ := f1_.symm; have f5_ := f3_.symm; clear f1_ f2_ f3_; subst f4_; subst f5_))
     obtain ⟨Ao51, co51, eo51⟩ := Kd.R_slice HO432.out
     (first | subst eo51 | (injection eo51 with f1_ f2_ f3_; have f4_ := f1_.symm; have f5_ := f3_.symm; clear f1_ f2_ f3_; subst f4_; subst f5_))
     obtain ⟨Ao52, co52, eo52⟩ := Kd.R_slice HO435.out
     (first | subst eo52 | (injection eo52 with f1_ f2_ f3_; have f4_ := f1_.symm; have f5_ := f3_.symm; clear f1_ f2_ f3_; subst f4_; subst f5_))
     obtain ⟨Ao53, co53, eo53⟩ := Kd.S_slice HO438.out
     (first | subst eo53 | (injection eo53 with f1_ f2_ f3_; have f4_ := f1_.symm; have f5_ := f3_.symm; clear f1_ f2_ f3_; subst f4_; subst f5_))
     obtain ⟨Ao54, co54, eo54⟩ := Kd.R_slice HO441.out
     (first | subst eo54 | (injection eo54 with f1_ f2_ f3_; have f4_ := f1_.symm; have f5_ := f3_.symm; clear f1_ f2_ f3_; subst f4_; subst f5_))
     obtain ⟨Ao55, co55, eo55⟩ := Kd.R_slice HO444.out
     (first | subst eo55 | (injection eo55 with f1_ f2_ f3_; have f4_ := f1_.symm; have f5_ := f3_.symm; clear f1_ f2_ f3_; subst f4_; subst f5_))
     obtain ⟨Ao56, co56, eo56⟩ := Kd.R_slice HO453.out
     (first | subst eo56 | (injection eo56 with f1_ f2_ f3_; have f4_ := f1_.symm; have f5_ := f3_.symm; clear f1_ f2_ f3_; subst f4_; subst f5_))
     refine hK.out _ _ (ca6x0 BK418.out (ca8x0 BK419.out (cc2x0 BK420.out))) (fun hHeld => ?_)
     clear hK K
     refine norm_ (a' := ?_) ?_ ?_
     rotate_left
     ·show Act.put _ (some 43) _ = _
      simp only [Act.put, List.setIfInBounds_toArray, List.set_cons_zero, List.set_cons_succ, i64_w, i32_w]
      rfl
     refine one_ (i := 7) (N := some 45) (tf_ 8 13) rfl rfl (one_of HT_.out (by kernel_rfl)) (by decide) (fun K hK => ?_)
     refine goes_ Try.func8 (by kernel_rfl) rfl #[.agg #[.int .i64 t424, .int .i64 t425, .int .i64 t426, .slice Ao50 t427.length co50, .slice Ao51 t430.length co51, .slice Ao52 t433.length co52], .agg #[.slice Ao53 t436.length co53, .slice Ao54 t439.length co54, .slice Ao55 t442.length co55, .int .i64 t445, .int .i64 t446, .int .i64 t447, .int .i64 t448, .int .i64 t449], .agg #[.int .i64 t450, .slice Ao56 t451.length co56], .int .i64 a3] (by rfl) rfl rfl mpx0 ?_
     with_reducible refine (spec_DestinationSums.calls kj5 t424 t425 t426 _ _ t427 _ _ t430 _ _ t433 _ _ t436 _ _ t439 _ _ t442 t445 t446 t447 t448 t449 t450 _ _ t451 a3 t454 t457 _ ?side1 ?side2 ?side3 ?side4 ?side5 ?side6 ?side7 ?side8 ?side9 ?side10 ?side11 ?side12 ?side13 ?side14 A33.out).mono ?_
     (case side1 => exact cRx0 HO429.out)
     (case side2 => exact (Kd.R_reads' HO429.out).2.1)
     (case side3 => exact cRx0 HO432.out)
     (case side4 => exact (Kd.R_reads' HO432.out).2.1)
     (case side5 => exact cRx0 HO435.out)
     (case side6 => exact (Kd.R_reads' HO435.out).2.1)
     (case side7 => repeat (first | exact (Kd.S_reads' HO438.out).2.2 | (with_reducible refine Kd.C_alloc ?_ _) | (with_reducible refine Kd.C_drewN ?_ _) | (with_reducible refine Kd.C_drew ?_)))
     (case side8 => exact (Kd.S_reads' HO438.out).2.1)
     (case side9 => exact cRx0 HO441.out)
     (case side10 => exact (Kd.R_reads' HO441.out).2.1)
     (case side11 => exact cRx0 HO444.out)
     (case side12 => exact (Kd.R_reads' HO444.out).2.1)
     (case side13 => exact cRx0 HO453.out)
     (case side14 => exact (Kd.R_reads' HO453.out).2.1)
     rintro e w57 ⟨v455, rfl, ho0, hb⟩
     refine ⟨_, rfl, ?_⟩
     replace HO438 := m_ (Kd.S_elder' (rSx0 HO438.out) (Kd.R_base ho0) hb)
     have HO456 := m_ (Kd.R_lower (nwx0 (nwx0 (nwx0 (nwx0 (nwx0 (nwx0 ho0 (rRx0 HO429.out)) (rRx0 HO432.out)) (rRx0 HO435.out)) (rRx0 HO441.out)) (rRx0 HO444.out)) (rRx0 HO453.out)) (below_size (be3x0 HB.out GE418.out GE419.out GE420.out)))
     replace HO429 := m_ (Kd.R_elder' (rRx0 HO429.out) (Kd.R_base ho0) hb)
     replace HO432 := m_ (Kd.R_elder' (rRx0 HO432.out) (Kd.R_base ho0) hb)
     replace HO435 := m_ (Kd.R_elder' (rRx0 HO435.out) (Kd.R_base ho0) hb)
     replace HO441 := m_ (Kd.R_elder' (rRx0 HO441.out) (Kd.R_base ho0) hb)
     replace HO444 := m_ (Kd.R_elder' (rRx0 HO444.out) (Kd.R_base ho0) hb)
     replace HO453 := m_ (Kd.R_elder' (rRx0 HO453.out) (Kd.R_base ho0) hb)
     replace BK418 := kbx0 BK418 hb
     replace BK419 := kbx0 BK419 hb
     replace BK420 := kbx0 BK420 hb
     replace HB := m_ (below_step (be3x0 HB.out GE418.out GE419.out GE420.out) hb)
     (try clear hb)
     (try clear hb2)
     (try clear hk)
     (try clear hi)
     (try clear ho0)
     refine hK.out _ _ (ca6x0 BK418.out (ca8x0 BK419.out (cc2x0 BK420.out))) (fun hHeld => ?_)
     clear hK K
     refine norm_ (a' := ?_) ?_ ?_
     rotate_left
     ·show Act.put _ (some 45) _ = _
      simp only [Act.put, List.setIfInBounds_toArray, List.set_cons_zero, List.set_cons_succ, i64_w, i32_w]
      rfl
     refine pv_ 8 37 (tf_ 9 13) HT_ ?_
     refine pv_ 9 46 (tf_ 10 13) HT_ ?_
     refine pv_ 10 47 (tf_ 11 13) HT_ ?_
     refine pv_ 11 10 (tf_ 12 13) HT_ ?_
     refine pv_ 12 11 (tf_ 13 13) HT_ ?_
     refine done_ (done_of HT_.out (by kernel_rfl)) ?_
     obtain ⟨hcz58_0, hcz58_1, hcz58_2, hcz58_3, hcz58_4, hcz58_5, hfz58_0, hfz58_1, hfz58_2, hfz58_3, hfz58_4, hfz58_5⟩ := cf6x0 BK418.out
     go_upto_region 16 with (first | ((with_reducible refine gate_callee (f := 9) rfl ?_); refine gLx0 (some 49) Try.func9 #[.agg #[.int .i64 a0_0, .int .i64 a0_1, .int .i64 a0_2, .slice A0_3 l0_3.length c0_3, .slice A0_4 l0_4.length c0_4, .slice A0_5 l0_5.length c0_5]] ?_; (with_reducible refine (laws_toModel.calls kj5 a0_0 a0_1 a0_2 _ _ l0_3 _ _ l0_4 _ _ l0_5 t458 t459 t460 t461 t464 t467 _ ?side1 ?side2 ?side3 ?side4 ?side5 ?side6 A34.out).mono ?_); (case side1 => exact rCx0 (Kd.C_below HR0_3.out HB.out)); (case side2 => exact HC0_3.out); (case side3 => exact rCx0 (Kd.C_below HR0_4.out HB.out)); (case side4 => exact HC0_4.out); (case side5 => exact rCx0 (Kd.C_below HR0_5.out HB.out)); (case side6 => exact HC0_5.out); rintro e w59 ⟨v462, v465, v468, rfl, ho0, ho1, ho2, hb⟩; refine ⟨_, rfl, ?_⟩; replace HO438 := m_ (Kd.S_mono (Kd.S_told (Kd.S_told (Kd.S_told (Kd.S_old (rSx0 HO438.out) hb) (Kd.R_base ho0)) (Kd.R_base ho1)) (Kd.R_base ho2)) (fun _ h_ => h_.1)); have HO463 := m_ (Kd.R_lower (nwx0 (nwx0 (nwx0 (nwx0 (nwx0 (nwx0 (nwx0 ho0 (rRx0 HO429.out)) (rRx0 HO432.out)) (rRx0 HO435.out)) (rRx0 HO441.out)) (rRx0 HO444.out)) (rRx0 HO453.out)) (rRx0 HO456.out)) (below_size (be3x0 HB.out GE418.out GE419.out GE420.out))); have HO466 := m_ (Kd.R_lower (nwx0 (nwx0 (nwx0 (nwx0 (nwx0 (nwx0 (nwx0 ho1 (rRx0 HO429.out)) (rRx0 HO432.out)) (rRx0 HO435.out)) (rRx0 HO441.out)) (rRx0 HO444.out)) (rRx0 HO453.out)) (rRx0 HO456.out)) (below_size (be3x0 HB.out GE418.out GE419.out GE420.out))); have HO469 := m_ (Kd.R_lower (nwx0 (nwx0 (nwx0 (nwx0 (nwx0 (nwx0 (nwx0 ho2 (rRx0 HO429.out)) (rRx0 HO432.out)) (rRx0 HO435.out)) (rRx0 HO441.out)) (rRx0 HO444.out)) (rRx0 HO453.out)) (rRx0 HO456.out)) (below_size (be3x0 HB.out GE418.out GE419.out GE420.out))); replace HO429 := m_ (kp3x0 (rRx0 HO429.out) hb ho0 ho1 ho2); replace HO432 := m_ (kp3x0 (rRx0 HO432.out) hb ho0 ho1 ho2); replace HO435 := m_ (kp3x0 (rRx0 HO435.out) hb ho0 ho1 ho2); replace HO441 := m_ (kp3x0 (rRx0 HO441.out) hb ho0 ho1 ho2); replace HO444 := m_ (kp3x0 (rRx0 HO444.out) hb ho0 ho1 ho2); replace HO453 := m_ (kp3x0 (rRx0 HO453.out) hb ho0 ho1 ho2); replace HO456 := m_ (kp3x0 (rRx0 HO456.out) hb ho0 ho1 ho2); replace BK418 := kbx0 BK418 hb; replace BK419 := kbx0 BK419 hb; replace BK420 := kbx0 BK420 hb; replace HB := m_ (below_step (be3x0 HB.out GE418.out GE419.out GE420.out) hb); (try clear hb); (try clear hb2); (try clear hk); (try clear hi); (try clear ho0); (try clear ho1); (try clear ho2)) | ((with_reducible refine gate_dst (N := 12) rfl ?_); refine box_event ?hg (N := 12) ?hd (cs := #[.int .i64 0, .int .i64 0, .int .i64 0, .slice none 0 0, .slice none 0 0, .slice none 0 0]) (t := 41) ?hr ?_; (case hd => rfl); (case hg => rfl); (case hr => first | (go_simp; done) | (go_simp; rfl)); intro gb470 hg w60 hbox hb; replace HO429 := m_ (Kd.R_below (rRx0 HO429.out) hb); replace HO432 := m_ (Kd.R_below (rRx0 HO432.out) hb); replace HO435 := m_ (Kd.R_below (rRx0 HO435.out) hb); replace HO438 := m_ (Kd.S_below (rSx0 HO438.out) hb); replace HO441 := m_ (Kd.R_below (rRx0 HO441.out) hb); replace HO444 := m_ (Kd.R_below (rRx0 HO444.out) hb); replace HO453 := m_ (Kd.R_below (rRx0 HO453.out) hb); replace HO456 := m_ (Kd.R_below (rRx0 HO456.out) hb); replace HO463 := m_ (Kd.R_below (rRx0 HO463.out) hb); replace HO466 := m_ (Kd.R_below (rRx0 HO466.out) hb); replace HO469 := m_ (Kd.R_below (rRx0 HO469.out) hb); have BK470 := m_ (hbox); have GW470 := m_ ((by rw [hg]; exact (below_size (be3x0 HB.out GE418.out GE419.out GE420.out)) : w.heap.size ≤ gb470)); have GE470 := m_ ((by rw [hg]; exact (below_size (be3x0 HB.out GE418.out GE419.out GE420.out)) : w.heap.size ≤ gb470)); replace HB := m_ (below_step (be3x0 HB.out GE418.out GE419.out GE420.out) hb); have NB418_470 := nbx0 BK418 hg; have NB470_418 := ncx0 BK418 hg; replace BK418 := kbx0 BK418 hb; have NB419_470 := nbx0 BK419 hg; have NB470_419 := ncx0 BK419 hg; replace BK419 := kbx0 BK419 hb; have NB420_470 := nbx0 BK420 hg; have NB470_420 := ncx0 BK420 hg; replace BK420 := kbx0 BK420 hb; clear hb hbox hg; have hnb61 := NB470_418.out; have hnc61 := NB418_470.out; have hnb62 := NB470_419.out; have hnc62 := NB419_470.out; have hnb63 := NB470_420.out; have hnc63 := NB420_470.out; obtain ⟨hcz64_0, hcz64_1, hcz64_2, hcz64_3, hcz64_4, hcz64_5, hfz64_0, hfz64_1, hfz64_2, hfz64_3, hfz64_4, hfz64_5⟩ := cf6x0 BK470.out; obtain ⟨Ao65, co65, eo65⟩ := Kd.R_slice HO463.out; subst eo65; obtain ⟨Ao66, co66, eo66⟩ := Kd.R_slice HO466.out; subst eo66; obtain ⟨Ao67, co67, eo67⟩ := Kd.R_slice HO469.out; subst eo67; obtain ⟨hcz68_0, hcz68_1, hcz68_2, hcz68_3, hcz68_4, hcz68_5, hcz68_6, hcz68_7, hfz68_0, hfz68_1, hfz68_2, hfz68_3, hfz68_4, hfz68_5, hfz68_6, hfz68_7⟩ := cf8x0 BK419.out) | ((with_reducible refine gate_callee (f := 10) rfl ?_); refine gLx0 (some 51) Try.func10 #[.agg #[.slice A1_0 l1_0.length c1_0, .slice A1_1 l1_1.length c1_1, .slice A1_2 l1_2.length c1_2, .int .i64 a1_3, .int .i64 a1_4, .int .i64 a1_5, .int .i64 a1_6, .int .i64 a1_7]] ?_; (with_reducible refine (laws_toJob.calls kj5 _ _ l1_0 _ _ l1_1 _ _ l1_2 a1_3 a1_4 a1_5 a1_6 a1_7 t471 t474 t477 t480 t481 t482 t483 t484 _ ?side1 ?side2 ?side3 ?side4 ?side5 ?side6 A35.out).mono ?_); (case side1 => exact Kd.C_below HR1_0.out (be4x0 HB.out GE418.out GE419.out GE420.out GE470.out)); (case side2 => exact HC1_0.out); (case side3 => exact Kd.C_below HR1_1.out (be4x0 HB.out GE418.out GE419.out GE420.out GE470.out)); (case side4 => exact HC1_1.out); (case side5 => exact Kd.C_below HR1_2.out (be4x0 HB.out GE418.out GE419.out GE420.out GE470.out)); (case side6 => exact HC1_2.out); rintro e w69 ⟨v472, v475, v478, rfl, ho0, ho1, ho2, hb⟩; refine ⟨_, rfl, ?_⟩; have HO473 := m_ (Kd.S_lower (Kd.S_new' (Kd.S_new' (Kd.S_new' (Kd.S_new' (Kd.S_new' (Kd.S_new' (Kd.S_new' (Kd.S_new' (Kd.S_new' (Kd.S_new' (Kd.S_new' ho0 (Kd.R_lt (sR6x0 HO429.out BK470.out))) (Kd.R_lt (sR6x0 HO432.out BK470.out))) (Kd.R_lt (sR6x0 HO435.out BK470.out))) (Kd.S_lt (by (with_reducible repeat (first | apply Kd.S_alloc | apply Kd.S_drewN | apply Kd.S_drew)); exact (Kd.S_mono (Kd.S_far (p := ⟨gb470, 5, none⟩) (Kd.S_far (p := ⟨gb470, 4, none⟩) (Kd.S_far (p := ⟨gb470, 3, none⟩) (Kd.S_far (p := ⟨gb470, 2, none⟩) (Kd.S_far (p := ⟨gb470, 1, none⟩) (Kd.S_far (p := ⟨gb470, 0, none⟩) (Kd.S_types HO438.out BK470.out (by decide)) (fun _ hk => hk.2) (.int .i64 t458)) (fun _ hk => hk.2) (.int .i64 t459)) (fun _ hk => hk.2) (.int .i64 t460)) (fun _ hk => hk.2) (.slice Ao65 t461.length co65)) (fun _ hk => hk.2) (.slice Ao66 t464.length co66)) (fun _ hk => hk.2) (.slice Ao67 t467.length co67)) (fun _ h_ => h_.1))))) (Kd.R_lt (sR6x0 HO441.out BK470.out))) (Kd.R_lt (sR6x0 HO444.out BK470.out))) (Kd.R_lt (sR6x0 HO453.out BK470.out))) (Kd.R_lt (sR6x0 HO456.out BK470.out))) (Kd.R_lt (sR6x0 HO463.out BK470.out))) (Kd.R_lt (sR6x0 HO466.out BK470.out))) (Kd.R_lt (sR6x0 HO469.out BK470.out))) (below_size (be4x0 HB.out GE418.out GE419.out GE420.out GE470.out))); replace HO438 := m_ (Kd.S_mono (Kd.S_told (Kd.S_told (Kd.S_told (Kd.S_old (by (with_reducible repeat (first | apply Kd.S_alloc | apply Kd.S_drewN | apply Kd.S_drew)); exact (Kd.S_mono (Kd.S_far (p := ⟨gb470, 5, none⟩) (Kd.S_far (p := ⟨gb470, 4, none⟩) (Kd.S_far (p := ⟨gb470, 3, none⟩) (Kd.S_far (p := ⟨gb470, 2, none⟩) (Kd.S_far (p := ⟨gb470, 1, none⟩) (Kd.S_far (p := ⟨gb470, 0, none⟩) (Kd.S_types HO438.out BK470.out (by decide)) (fun _ hk => hk.2) (.int .i64 t458)) (fun _ hk => hk.2) (.int .i64 t459)) (fun _ hk => hk.2) (.int .i64 t460)) (fun _ hk => hk.2) (.slice Ao65 t461.length co65)) (fun _ hk => hk.2) (.slice Ao66 t464.length co66)) (fun _ hk => hk.2) (.slice Ao67 t467.length co67)) (fun _ h_ => h_.1))) hb) (Kd.S_base ho0)) (Kd.R_base ho1)) (Kd.R_base ho2)) (fun _ h_ => h_.1)); have HO476 := m_ (Kd.R_lower (nwx0 (nwx0 (nwx0 (nwx0 (nwx0 (nwx0 (nwx0 (nwx0 (nwx0 (nwx0 ho1 (sR6x0 HO429.out BK470.out)) (sR6x0 HO432.out BK470.out)) (sR6x0 HO435.out BK470.out)) (sR6x0 HO441.out BK470.out)) (sR6x0 HO444.out BK470.out)) (sR6x0 HO453.out BK470.out)) (sR6x0 HO456.out BK470.out)) (sR6x0 HO463.out BK470.out)) (sR6x0 HO466.out BK470.out)) (sR6x0 HO469.out BK470.out)) (below_size (be4x0 HB.out GE418.out GE419.out GE420.out GE470.out))); have HO479 := m_ (Kd.R_lower (nwx0 (nwx0 (nwx0 (nwx0 (nwx0 (nwx0 (nwx0 (nwx0 (nwx0 (nwx0 ho2 (sR6x0 HO429.out BK470.out)) (sR6x0 HO432.out BK470.out)) (sR6x0 HO435.out BK470.out)) (sR6x0 HO441.out BK470.out)) (sR6x0 HO444.out BK470.out)) (sR6x0 HO453.out BK470.out)) (sR6x0 HO456.out BK470.out)) (sR6x0 HO463.out BK470.out)) (sR6x0 HO466.out BK470.out)) (sR6x0 HO469.out BK470.out)) (below_size (be4x0 HB.out GE418.out GE419.out GE420.out GE470.out))); replace HO429 := m_ (Kd.R_mono (Kd.R_told (Kd.R_told (Kd.R_old (sR6x0 HO429.out BK470.out) hb) (Kd.R_base ho1)) (Kd.R_base ho2)) (fun _ h_ => h_.1)); replace HO432 := m_ (Kd.R_mono (Kd.R_told (Kd.R_told (Kd.R_old (sR6x0 HO432.out BK470.out) hb) (Kd.R_base ho1)) (Kd.R_base ho2)) (fun _ h_ => h_.1)); replace HO435 := m_ (Kd.R_mono (Kd.R_told (Kd.R_told (Kd.R_old (sR6x0 HO435.out BK470.out) hb) (Kd.R_base ho1)) (Kd.R_base ho2)) (fun _ h_ => h_.1)); replace HO441 := m_ (Kd.R_mono (Kd.R_told (Kd.R_told (Kd.R_old (sR6x0 HO441.out BK470.out) hb) (Kd.R_base ho1)) (Kd.R_base ho2)) (fun _ h_ => h_.1)); replace HO444 := m_ (Kd.R_mono (Kd.R_told (Kd.R_told (Kd.R_old (sR6x0 HO444.out BK470.out) hb) (Kd.R_base ho1)) (Kd.R_base ho2)) (fun _ h_ => h_.1)); replace HO453 := m_ (Kd.R_mono (Kd.R_told (Kd.R_told (Kd.R_old (sR6x0 HO453.out BK470.out) hb) (Kd.R_base ho1)) (Kd.R_base ho2)) (fun _ h_ => h_.1)); replace HO456 := m_ (Kd.R_mono (Kd.R_told (Kd.R_told (Kd.R_old (sR6x0 HO456.out BK470.out) hb) (Kd.R_base ho1)) (Kd.R_base ho2)) (fun _ h_ => h_.1)); replace HO463 := m_ (Kd.R_mono (Kd.R_told (Kd.R_told (Kd.R_old (sR6x0 HO463.out BK470.out) hb) (Kd.R_base ho1)) (Kd.R_base ho2)) (fun _ h_ => h_.1)); replace HO466 := m_ (Kd.R_mono (Kd.R_told (Kd.R_told (Kd.R_old (sR6x0 HO466.out BK470.out) hb) (Kd.R_base ho1)) (Kd.R_base ho2)) (fun _ h_ => h_.1)); replace HO469 := m_ (Kd.R_mono (Kd.R_told (Kd.R_told (Kd.R_old (sR6x0 HO469.out BK470.out) hb) (Kd.R_base ho1)) (Kd.R_base ho2)) (fun _ h_ => h_.1)); replace BK418 := m_ (blk_below (bb6x0 BK418.out NB418_470.out) hb); replace BK419 := m_ (blk_below (bb6x0 BK419.out NB419_470.out) hb); replace BK420 := m_ (blk_below (bb6x0 BK420.out NB420_470.out) hb); replace BK470 := m_ (blk_below (g := gb470) (o := .cells #[.int .i64 t458, .int .i64 t459, .int .i64 t460, .slice Ao65 t461.length co65, .slice Ao66 t464.length co66, .slice Ao67 t467.length co67] 41 (0, 0)) (by (with_reducible repeat (first | refine blk_drewN ?_ _ | refine blk_drew ?_ | refine blk_alloc ?_ _)); refine blk_put (cs := #[.int .i64 t458, .int .i64 t459, .int .i64 t460, .slice Ao65 t461.length co65, .slice Ao66 t464.length co66, .slice none 0 0]) ?_ 5 _ rfl; (with_reducible repeat (first | refine blk_drewN ?_ _ | refine blk_drew ?_ | refine blk_alloc ?_ _)); refine blk_put (cs := #[.int .i64 t458, .int .i64 t459, .int .i64 t460, .slice Ao65 t461.length co65, .slice none 0 0, .slice none 0 0]) ?_ 4 _ rfl; (with_reducible repeat (first | refine blk_drewN ?_ _ | refine blk_drew ?_ | refine blk_alloc ?_ _)); refine blk_put (cs := #[.int .i64 t458, .int .i64 t459, .int .i64 t460, .slice none 0 0, .slice none 0 0, .slice none 0 0]) ?_ 3 _ rfl; (with_reducible repeat (first | refine blk_drewN ?_ _ | refine blk_drew ?_ | refine blk_alloc ?_ _)); refine blk_put (cs := #[.int .i64 t458, .int .i64 t459, .int .i64 0, .slice none 0 0, .slice none 0 0, .slice none 0 0]) ?_ 2 _ rfl; (with_reducible repeat (first | refine blk_drewN ?_ _ | refine blk_drew ?_ | refine blk_alloc ?_ _)); refine blk_put (cs := #[.int .i64 t458, .int .i64 0, .int .i64 0, .slice none 0 0, .slice none 0 0, .slice none 0 0]) ?_ 1 _ rfl; (with_reducible repeat (first | refine blk_drewN ?_ _ | refine blk_drew ?_ | refine blk_alloc ?_ _)); refine blk_put (cs := #[.int .i64 0, .int .i64 0, .int .i64 0, .slice none 0 0, .slice none 0 0, .slice none 0 0]) ?_ 0 _ rfl; (with_reducible repeat (first | refine blk_drewN ?_ _ | refine blk_drew ?_ | refine blk_alloc ?_ _)); exact BK470.out) hb); replace HB := m_ (below_step (be4x0 HB.out GE418.out GE419.out GE420.out GE470.out) hb); (try clear hb); (try clear hb2); (try clear hk); (try clear hi); (try clear ho0); (try clear ho1); (try clear ho2)) | ((with_reducible refine gate_dst (N := 13) rfl ?_); refine box_event ?hg (N := 13) ?hd (cs := #[.slice none 0 0, .slice none 0 0, .slice none 0 0, .int .i64 0, .int .i64 0, .int .i64 0, .int .i64 0, .int .i64 0]) (t := 45) ?hr ?_; (case hd => rfl); (case hg => rfl); (case hr => first | (go_simp; done) | (go_simp; rfl)); intro gb485 hg w70 hbox hb; replace HO429 := m_ (Kd.R_below (rRx0 HO429.out) hb); replace HO432 := m_ (Kd.R_below (rRx0 HO432.out) hb); replace HO435 := m_ (Kd.R_below (rRx0 HO435.out) hb); replace HO438 := m_ (Kd.S_below (rSx0 HO438.out) hb); replace HO441 := m_ (Kd.R_below (rRx0 HO441.out) hb); replace HO444 := m_ (Kd.R_below (rRx0 HO444.out) hb); replace HO453 := m_ (Kd.R_below (rRx0 HO453.out) hb); replace HO456 := m_ (Kd.R_below (rRx0 HO456.out) hb); replace HO463 := m_ (Kd.R_below (rRx0 HO463.out) hb); replace HO466 := m_ (Kd.R_below (rRx0 HO466.out) hb); replace HO469 := m_ (Kd.R_below (rRx0 HO469.out) hb); replace HO473 := m_ (Kd.S_below (rSx0 HO473.out) hb); replace HO476 := m_ (Kd.R_below (rRx0 HO476.out) hb); replace HO479 := m_ (Kd.R_below (rRx0 HO479.out) hb); have BK485 := m_ (hbox); have GW485 := m_ ((by rw [hg]; exact (below_size (be4x0 HB.out GE418.out GE419.out GE420.out GE470.out)) : w.heap.size ≤ gb485)); have GE485 := m_ ((by rw [hg]; exact (below_size (be4x0 HB.out GE418.out GE419.out GE420.out GE470.out)) : w.heap.size ≤ gb485)); replace HB := m_ (below_step (be4x0 HB.out GE418.out GE419.out GE420.out GE470.out) hb); have NB418_485 := nbx0 BK418 hg; have NB485_418 := ncx0 BK418 hg; replace BK418 := kbx0 BK418 hb; have NB419_485 := nbx0 BK419 hg; have NB485_419 := ncx0 BK419 hg; replace BK419 := kbx0 BK419 hb; have NB420_485 := nbx0 BK420 hg; have NB485_420 := ncx0 BK420 hg; replace BK420 := kbx0 BK420 hb; have NB470_485 := nbx0 BK470 hg; have NB485_470 := ncx0 BK470 hg; replace BK470 := kbx0 BK470 hb; clear hb hbox hg; obtain ⟨Ao71, co71, eo71⟩ := Kd.S_slice HO473.out; subst eo71; have hnb72 := NB485_418.out; have hnc72 := NB418_485.out; have hnb73 := NB485_419.out; have hnc73 := NB419_485.out; have hnb74 := NB485_420.out; have hnc74 := NB420_485.out; have hnb75 := NB485_470.out; have hnc75 := NB470_485.out; obtain ⟨hcz76_0, hcz76_1, hcz76_2, hcz76_3, hcz76_4, hcz76_5, hcz76_6, hcz76_7, hfz76_0, hfz76_1, hfz76_2, hfz76_3, hfz76_4, hfz76_5, hfz76_6, hfz76_7⟩ := cf8x0 BK485.out; obtain ⟨Ao77, co77, eo77⟩ := Kd.R_slice HO476.out; subst eo77; obtain ⟨Ao78, co78, eo78⟩ := Kd.R_slice HO479.out; subst eo78; obtain ⟨hcz79_0, hcz79_1, hfz79_0, hfz79_1⟩ := cf2x0 BK420.out) | ((with_reducible refine gate_callee (f := 11) rfl ?_); refine gLx0 (some 53) Try.func11 #[.agg #[.int .i64 a2_0, .slice A2_1 l2_1.length c2_1]] ?_; (with_reducible refine (laws_toPlan.calls kj5 a2_0 _ _ l2_1 t486 t487 _ ?side1 ?side2 A36.out).mono ?_); (case side1 => exact Kd.C_below HR2_1.out (be5x0 HB.out GE418.out GE419.out GE420.out GE470.out GE485.out)); (case side2 => exact HC2_1.out); rintro e w80 ⟨v488, rfl, ho0, hb⟩; refine ⟨_, rfl, ?_⟩; replace HO438 := m_ (Kd.S_elder' (by (with_reducible repeat (first | apply Kd.S_alloc | apply Kd.S_drewN | apply Kd.S_drew)); exact (Kd.S_mono (Kd.S_far (p := ⟨gb485, 7, none⟩) (Kd.S_far (p := ⟨gb485, 6, none⟩) (Kd.S_far (p := ⟨gb485, 5, none⟩) (Kd.S_far (p := ⟨gb485, 4, none⟩) (Kd.S_far (p := ⟨gb485, 3, none⟩) (Kd.S_far (p := ⟨gb485, 2, none⟩) (Kd.S_far (p := ⟨gb485, 1, none⟩) (Kd.S_far (p := ⟨gb485, 0, none⟩) (Kd.S_types HO438.out BK485.out (by decide)) (fun _ hk => hk.2) (.slice Ao71 t471.length co71)) (fun _ hk => hk.2) (.slice Ao77 t474.length co77)) (fun _ hk => hk.2) (.slice Ao78 t477.length co78)) (fun _ hk => hk.2) (.int .i64 t480)) (fun _ hk => hk.2) (.int .i64 t481)) (fun _ hk => hk.2) (.int .i64 t482)) (fun _ hk => hk.2) (.int .i64 t483)) (fun _ hk => hk.2) (.int .i64 t484)) (fun _ h_ => h_.1))) (Kd.R_base ho0) hb); replace HO473 := m_ (Kd.S_elder' (by (with_reducible repeat (first | apply Kd.S_alloc | apply Kd.S_drewN | apply Kd.S_drew)); exact (Kd.S_mono (Kd.S_far (p := ⟨gb485, 7, none⟩) (Kd.S_far (p := ⟨gb485, 6, none⟩) (Kd.S_far (p := ⟨gb485, 5, none⟩) (Kd.S_far (p := ⟨gb485, 4, none⟩) (Kd.S_far (p := ⟨gb485, 3, none⟩) (Kd.S_far (p := ⟨gb485, 2, none⟩) (Kd.S_far (p := ⟨gb485, 1, none⟩) (Kd.S_far (p := ⟨gb485, 0, none⟩) (Kd.S_types HO473.out BK485.out (by decide)) (fun _ hk => hk.2) (.slice Ao71 t471.length co71)) (fun _ hk => hk.2) (.slice Ao77 t474.length co77)) (fun _ hk => hk.2) (.slice Ao78 t477.length co78)) (fun _ hk => hk.2) (.int .i64 t480)) (fun _ hk => hk.2) (.int .i64 t481)) (fun _ hk => hk.2) (.int .i64 t482)) (fun _ hk => hk.2) (.int .i64 t483)) (fun _ hk => hk.2) (.int .i64 t484)) (fun _ h_ => h_.1))) (Kd.R_base ho0) hb); have HO489 := m_ (Kd.R_lower (nwx0 (nwx0 (nwx0 (nwx0 (nwx0 (nwx0 (nwx0 (nwx0 (nwx0 (nwx0 (nwx0 (nwx0 ho0 (sR8x0 HO429.out BK485.out)) (sR8x0 HO432.out BK485.out)) (sR8x0 HO435.out BK485.out)) (sR8x0 HO441.out BK485.out)) (sR8x0 HO444.out BK485.out)) (sR8x0 HO453.out BK485.out)) (sR8x0 HO456.out BK485.out)) (sR8x0 HO463.out BK485.out)) (sR8x0 HO466.out BK485.out)) (sR8x0 HO469.out BK485.out)) (sR8x0 HO476.out BK485.out)) (sR8x0 HO479.out BK485.out)) (below_size (be5x0 HB.out GE418.out GE419.out GE420.out GE470.out GE485.out))); replace HO429 := m_ (Kd.R_elder' (sR8x0 HO429.out BK485.out) (Kd.R_base ho0) hb); replace HO432 := m_ (Kd.R_elder' (sR8x0 HO432.out BK485.out) (Kd.R_base ho0) hb); replace HO435 := m_ (Kd.R_elder' (sR8x0 HO435.out BK485.out) (Kd.R_base ho0) hb); replace HO441 := m_ (Kd.R_elder' (sR8x0 HO441.out BK485.out) (Kd.R_base ho0) hb); replace HO444 := m_ (Kd.R_elder' (sR8x0 HO444.out BK485.out) (Kd.R_base ho0) hb); replace HO453 := m_ (Kd.R_elder' (sR8x0 HO453.out BK485.out) (Kd.R_base ho0) hb); replace HO456 := m_ (Kd.R_elder' (sR8x0 HO456.out BK485.out) (Kd.R_base ho0) hb); replace HO463 := m_ (Kd.R_elder' (sR8x0 HO463.out BK485.out) (Kd.R_base ho0) hb); replace HO466 := m_ (Kd.R_elder' (sR8x0 HO466.out BK485.out) (Kd.R_base ho0) hb); replace HO469 := m_ (Kd.R_elder' (sR8x0 HO469.out BK485.out) (Kd.R_base ho0) hb); replace HO476 := m_ (Kd.R_elder' (sR8x0 HO476.out BK485.out) (Kd.R_base ho0) hb); replace HO479 := m_ (Kd.R_elder' (sR8x0 HO479.out BK485.out) (Kd.R_base ho0) hb); replace BK418 := m_ (blk_below (bb8x0 BK418.out NB418_485.out) hb); replace BK419 := m_ (blk_below (bb8x0 BK419.out NB419_485.out) hb); replace BK420 := m_ (blk_below (bb8x0 BK420.out NB420_485.out) hb); replace BK470 := m_ (blk_below (bb8x0 BK470.out NB470_485.out) hb); replace BK485 := m_ (blk_below (g := gb485) (o := .cells #[.slice Ao71 t471.length co71, .slice Ao77 t474.length co77, .slice Ao78 t477.length co78, .int .i64 t480, .int .i64 t481, .int .i64 t482, .int .i64 t483, .int .i64 t484] 45 (0, 0)) (by (with_reducible repeat (first | refine blk_drewN ?_ _ | refine blk_drew ?_ | refine blk_alloc ?_ _)); refine blk_put (cs := #[.slice Ao71 t471.length co71, .slice Ao77 t474.length co77, .slice Ao78 t477.length co78, .int .i64 t480, .int .i64 t481, .int .i64 t482, .int .i64 t483, .int .i64 0]) ?_ 7 _ rfl; (with_reducible repeat (first | refine blk_drewN ?_ _ | refine blk_drew ?_ | refine blk_alloc ?_ _)); refine blk_put (cs := #[.slice Ao71 t471.length co71, .slice Ao77 t474.length co77, .slice Ao78 t477.length co78, .int .i64 t480, .int .i64 t481, .int .i64 t482, .int .i64 0, .int .i64 0]) ?_ 6 _ rfl; (with_reducible repeat (first | refine blk_drewN ?_ _ | refine blk_drew ?_ | refine blk_alloc ?_ _)); refine blk_put (cs := #[.slice Ao71 t471.length co71, .slice Ao77 t474.length co77, .slice Ao78 t477.length co78, .int .i64 t480, .int .i64 t481, .int .i64 0, .int .i64 0, .int .i64 0]) ?_ 5 _ rfl; (with_reducible repeat (first | refine blk_drewN ?_ _ | refine blk_drew ?_ | refine blk_alloc ?_ _)); refine blk_put (cs := #[.slice Ao71 t471.length co71, .slice Ao77 t474.length co77, .slice Ao78 t477.length co78, .int .i64 t480, .int .i64 0, .int .i64 0, .int .i64 0, .int .i64 0]) ?_ 4 _ rfl; (with_reducible repeat (first | refine blk_drewN ?_ _ | refine blk_drew ?_ | refine blk_alloc ?_ _)); refine blk_put (cs := #[.slice Ao71 t471.length co71, .slice Ao77 t474.length co77, .slice Ao78 t477.length co78, .int .i64 0, .int .i64 0, .int .i64 0, .int .i64 0, .int .i64 0]) ?_ 3 _ rfl; (with_reducible repeat (first | refine blk_drewN ?_ _ | refine blk_drew ?_ | refine blk_alloc ?_ _)); refine blk_put (cs := #[.slice Ao71 t471.length co71, .slice Ao77 t474.length co77, .slice none 0 0, .int .i64 0, .int .i64 0, .int .i64 0, .int .i64 0, .int .i64 0]) ?_ 2 _ rfl; (with_reducible repeat (first | refine blk_drewN ?_ _ | refine blk_drew ?_ | refine blk_alloc ?_ _)); refine blk_put (cs := #[.slice Ao71 t471.length co71, .slice none 0 0, .slice none 0 0, .int .i64 0, .int .i64 0, .int .i64 0, .int .i64 0, .int .i64 0]) ?_ 1 _ rfl; (with_reducible repeat (first | refine blk_drewN ?_ _ | refine blk_drew ?_ | refine blk_alloc ?_ _)); refine blk_put (cs := #[.slice none 0 0, .slice none 0 0, .slice none 0 0, .int .i64 0, .int .i64 0, .int .i64 0, .int .i64 0, .int .i64 0]) ?_ 0 _ rfl; (with_reducible repeat (first | refine blk_drewN ?_ _ | refine blk_drew ?_ | refine blk_alloc ?_ _)); exact BK485.out) hb); replace HB := m_ (below_step (be5x0 HB.out GE418.out GE419.out GE420.out GE470.out GE485.out) hb); (try clear hb); (try clear hb2); (try clear hk); (try clear hi); (try clear ho0)) | ((with_reducible refine gate_dst (N := 14) rfl ?_); refine box_event ?hg (N := 14) ?hd (cs := #[.int .i64 0, .slice none 0 0]) (t := 47) ?hr ?_; (case hd => rfl); (case hg => rfl); (case hr => first | (go_simp; done) | (go_simp; rfl)); intro gb490 hg w81 hbox hb; replace HO429 := m_ (Kd.R_below (rRx0 HO429.out) hb); replace HO432 := m_ (Kd.R_below (rRx0 HO432.out) hb); replace HO435 := m_ (Kd.R_below (rRx0 HO435.out) hb); replace HO438 := m_ (Kd.S_below (rSx0 HO438.out) hb); replace HO441 := m_ (Kd.R_below (rRx0 HO441.out) hb); replace HO444 := m_ (Kd.R_below (rRx0 HO444.out) hb); replace HO453 := m_ (Kd.R_below (rRx0 HO453.out) hb); replace HO456 := m_ (Kd.R_below (rRx0 HO456.out) hb); replace HO463 := m_ (Kd.R_below (rRx0 HO463.out) hb); replace HO466 := m_ (Kd.R_below (rRx0 HO466.out) hb); replace HO469 := m_ (Kd.R_below (rRx0 HO469.out) hb); replace HO473 := m_ (Kd.S_below (rSx0 HO473.out) hb); replace HO476 := m_ (Kd.R_below (rRx0 HO476.out) hb); replace HO479 := m_ (Kd.R_below (rRx0 HO479.out) hb); replace HO489 := m_ (Kd.R_below (rRx0 HO489.out) hb); have BK490 := m_ (hbox); have GW490 := m_ ((by rw [hg]; exact (below_size (be5x0 HB.out GE418.out GE419.out GE420.out GE470.out GE485.out)) : w.heap.size ≤ gb490)); have GE490 := m_ ((by rw [hg]; exact (below_size (be5x0 HB.out GE418.out GE419.out GE420.out GE470.out GE485.out)) : w.heap.size ≤ gb490)); replace HB := m_ (below_step (be5x0 HB.out GE418.out GE419.out GE420.out GE470.out GE485.out) hb); have NB418_490 := nbx0 BK418 hg; have NB490_418 := ncx0 BK418 hg; replace BK418 := kbx0 BK418 hb; have NB419_490 := nbx0 BK419 hg; have NB490_419 := ncx0 BK419 hg; replace BK419 := kbx0 BK419 hb; have NB420_490 := nbx0 BK420 hg; have NB490_420 := ncx0 BK420 hg; replace BK420 := kbx0 BK420 hb; have NB470_490 := nbx0 BK470 hg; have NB490_470 := ncx0 BK470 hg; replace BK470 := kbx0 BK470 hb; have NB485_490 := nbx0 BK485 hg; have NB490_485 := ncx0 BK485 hg; replace BK485 := kbx0 BK485 hb; clear hb hbox hg; have hnb82 := NB490_418.out; have hnc82 := NB418_490.out; have hnb83 := NB490_419.out; have hnc83 := NB419_490.out; have hnb84 := NB490_420.out; have hnc84 := NB420_490.out; have hnb85 := NB490_470.out; have hnc85 := NB470_490.out; have hnb86 := NB490_485.out; have hnc86 := NB485_490.out; obtain ⟨hcz87_0, hcz87_1, hfz87_0, hfz87_1⟩ := cf2x0 BK490.out; obtain ⟨Ao88, co88, eo88⟩ := Kd.R_slice HO489.out; subst eo88; obtain ⟨hcz89_0, hcz89_1, hcz89_2, hcz89_3, hcz89_4, hcz89_5, hfz89_0, hfz89_1, hfz89_2, hfz89_3, hfz89_4, hfz89_5⟩ := cf6x0 BK470.out; obtain ⟨hcz90_0, hcz90_1, hcz90_2, hcz90_3, hcz90_4, hcz90_5, hcz90_6, hcz90_7, hfz90_0, hfz90_1, hfz90_2, hfz90_3, hfz90_4, hfz90_5, hfz90_6, hfz90_7⟩ := cf8x0 BK485.out) | ((with_reducible refine gate_callee (f := 12) rfl ?_); refine gLx0 (some 59) Try.func12 #[.agg #[.int .i64 t458, .int .i64 t459, .int .i64 t460, .slice Ao65 t461.length co65, .slice Ao66 t464.length co66, .slice Ao67 t467.length co67], .agg #[.slice Ao71 t471.length co71, .slice Ao77 t474.length co77, .slice Ao78 t477.length co78, .int .i64 t480, .int .i64 t481, .int .i64 t482, .int .i64 t483, .int .i64 t484], .agg #[.int .i64 t486, .slice Ao88 t487.length co88], .int .i64 a3] ?_; (with_reducible refine (impl_DestinationSums.calls kj5 t458 t459 t460 _ _ t461 _ _ t464 _ _ t467 _ _ t471 _ _ t474 _ _ t477 t480 t481 t482 t483 t484 t486 _ _ t487 a3 t491 t494 _ ?side1 ?side2 ?side3 ?side4 ?side5 ?side6 ?side7 ?side8 ?side9 ?side10 ?side11 ?side12 ?side13 ?side14 A37.out).mono ?_); (case side1 => exact cS2x0 HO463.out BK490.out); (case side2 => exact (Kd.R_reads' HO463.out).2.1); (case side3 => exact cS2x0 HO466.out BK490.out); (case side4 => exact (Kd.R_reads' HO466.out).2.1); (case side5 => exact cS2x0 HO469.out BK490.out); (case side6 => exact (Kd.R_reads' HO469.out).2.1); (case side7 => refine (Kd.S_reads' (e := 24) (base := w.heap.size) (ok := fun k_ => (((((((((((((some k_ ≠ (.slice Ao77 t474.length co77 : Value).ownBlock ∧ some k_ ≠ (.slice Ao78 t477.length co78 : Value).ownBlock) ∧ some k_ ≠ (.slice Ao50 t427.length co50 : Value).ownBlock) ∧ some k_ ≠ (.slice Ao51 t430.length co51 : Value).ownBlock) ∧ some k_ ≠ (.slice Ao52 t433.length co52 : Value).ownBlock) ∧ some k_ ≠ (.slice Ao53 t436.length co53 : Value).ownBlock) ∧ some k_ ≠ (.slice Ao54 t439.length co54 : Value).ownBlock) ∧ some k_ ≠ (.slice Ao55 t442.length co55 : Value).ownBlock) ∧ some k_ ≠ (.slice Ao56 t451.length co56 : Value).ownBlock) ∧ some k_ ≠ (v455 : Value).ownBlock) ∧ some k_ ≠ (.slice Ao65 t461.length co65 : Value).ownBlock) ∧ some k_ ≠ (.slice Ao66 t464.length co66 : Value).ownBlock) ∧ some k_ ≠ (.slice Ao67 t467.length co67 : Value).ownBlock) ∧ some k_ ≠ (.slice Ao88 t487.length co88 : Value).ownBlock)) (n := t471.length) (c := co71) ?_).2.2; exact (by (with_reducible repeat (first | apply Kd.S_alloc | apply Kd.S_drewN | apply Kd.S_drew)); exact (Kd.S_mono (Kd.S_far (p := ⟨gb490, 1, none⟩) (Kd.S_far (p := ⟨gb490, 0, none⟩) (Kd.S_types HO473.out BK490.out (by decide)) (fun _ hk => hk.2) (.int .i64 t486)) (fun _ hk => hk.2) (.slice Ao88 t487.length co88)) (fun _ h_ => h_.1)))); (case side8 => exact (Kd.S_reads' HO473.out).2.1); (case side9 => exact cS2x0 HO476.out BK490.out); (case side10 => exact (Kd.R_reads' HO476.out).2.1); (case side11 => exact cS2x0 HO479.out BK490.out); (case side12 => exact (Kd.R_reads' HO479.out).2.1); (case side13 => exact cS2x0 HO489.out BK490.out); (case side14 => exact (Kd.R_reads' HO489.out).2.1); rintro e w91 ⟨v492, rfl, ho0, hb⟩; refine ⟨_, rfl, ?_⟩; replace HO438 := m_ (Kd.S_elder' (by (with_reducible repeat (first | apply Kd.S_alloc | apply Kd.S_drewN | apply Kd.S_drew)); exact (Kd.S_mono (Kd.S_far (p := ⟨gb490, 1, none⟩) (Kd.S_far (p := ⟨gb490, 0, none⟩) (Kd.S_types HO438.out BK490.out (by decide)) (fun _ hk => hk.2) (.int .i64 t486)) (fun _ hk => hk.2) (.slice Ao88 t487.length co88)) (fun _ h_ => h_.1))) (Kd.R_base ho0) hb); replace HO473 := m_ (Kd.S_elder' (by (with_reducible repeat (first | apply Kd.S_alloc | apply Kd.S_drewN | apply Kd.S_drew)); exact (Kd.S_mono (Kd.S_far (p := ⟨gb490, 1, none⟩) (Kd.S_far (p := ⟨gb490, 0, none⟩) (Kd.S_types HO473.out BK490.out (by decide)) (fun _ hk => hk.2) (.int .i64 t486)) (fun _ hk => hk.2) (.slice Ao88 t487.length co88)) (fun _ h_ => h_.1))) (Kd.R_base ho0) hb); have HO493 := m_ (Kd.R_lower (nwx0 (nwx0 (nwx0 (nwx0 (nwx0 (nwx0 (nwx0 (nwx0 (nwx0 (nwx0 (nwx0 (nwx0 (nwx0 ho0 (sR2x0 HO429.out BK490.out)) (sR2x0 HO432.out BK490.out)) (sR2x0 HO435.out BK490.out)) (sR2x0 HO441.out BK490.out)) (sR2x0 HO444.out BK490.out)) (sR2x0 HO453.out BK490.out)) (sR2x0 HO456.out BK490.out)) (sR2x0 HO463.out BK490.out)) (sR2x0 HO466.out BK490.out)) (sR2x0 HO469.out BK490.out)) (sR2x0 HO476.out BK490.out)) (sR2x0 HO479.out BK490.out)) (sR2x0 HO489.out BK490.out)) (below_size (be6x0 HB.out GE418.out GE419.out GE420.out GE470.out GE485.out GE490.out))); replace HO429 := m_ (Kd.R_elder' (sR2x0 HO429.out BK490.out) (Kd.R_base ho0) hb); replace HO432 := m_ (Kd.R_elder' (sR2x0 HO432.out BK490.out) (Kd.R_base ho0) hb); replace HO435 := m_ (Kd.R_elder' (sR2x0 HO435.out BK490.out) (Kd.R_base ho0) hb); replace HO441 := m_ (Kd.R_elder' (sR2x0 HO441.out BK490.out) (Kd.R_base ho0) hb); replace HO444 := m_ (Kd.R_elder' (sR2x0 HO444.out BK490.out) (Kd.R_base ho0) hb); replace HO453 := m_ (Kd.R_elder' (sR2x0 HO453.out BK490.out) (Kd.R_base ho0) hb); replace HO456 := m_ (Kd.R_elder' (sR2x0 HO456.out BK490.out) (Kd.R_base ho0) hb); replace HO463 := m_ (Kd.R_elder' (sR2x0 HO463.out BK490.out) (Kd.R_base ho0) hb); replace HO466 := m_ (Kd.R_elder' (sR2x0 HO466.out BK490.out) (Kd.R_base ho0) hb); replace HO469 := m_ (Kd.R_elder' (sR2x0 HO469.out BK490.out) (Kd.R_base ho0) hb); replace HO476 := m_ (Kd.R_elder' (sR2x0 HO476.out BK490.out) (Kd.R_base ho0) hb); replace HO479 := m_ (Kd.R_elder' (sR2x0 HO479.out BK490.out) (Kd.R_base ho0) hb); replace HO489 := m_ (Kd.R_elder' (sR2x0 HO489.out BK490.out) (Kd.R_base ho0) hb); replace BK418 := m_ (blk_below (bb2x0 BK418.out NB418_490.out) hb); replace BK419 := m_ (blk_below (bb2x0 BK419.out NB419_490.out) hb); replace BK420 := m_ (blk_below (bb2x0 BK420.out NB420_490.out) hb); replace BK470 := m_ (blk_below (bb2x0 BK470.out NB470_490.out) hb); replace BK485 := m_ (blk_below (bb2x0 BK485.out NB485_490.out) hb); replace BK490 := m_ (blk_below (g := gb490) (o := .cells #[.int .i64 t486, .slice Ao88 t487.length co88] 47 (0, 0)) (by (with_reducible repeat (first | refine blk_drewN ?_ _ | refine blk_drew ?_ | refine blk_alloc ?_ _)); refine blk_put (cs := #[.int .i64 t486, .slice none 0 0]) ?_ 1 _ rfl; (with_reducible repeat (first | refine blk_drewN ?_ _ | refine blk_drew ?_ | refine blk_alloc ?_ _)); refine blk_put (cs := #[.int .i64 0, .slice none 0 0]) ?_ 0 _ rfl; (with_reducible repeat (first | refine blk_drewN ?_ _ | refine blk_drew ?_ | refine blk_alloc ?_ _)); exact BK490.out) hb); replace HB := m_ (below_step (be6x0 HB.out GE418.out GE419.out GE420.out GE470.out GE485.out GE490.out) hb); (try clear hb); (try clear hb2); (try clear hk); (try clear hi); (try clear ho0)))
     (try simp only [Act.put, List.setIfInBounds_toArray, List.set_cons_zero, List.set_cons_succ])
     go_cut [70] (fun v70 wc => ∃ (kq : Nat) (x70_37 : Bool), v70 = .bool x70_37 ∧ Aside0 (laws_FnExactDestinationSums.j1 kq a3 t454 t457 t491 t494 x70_37 a0_0 a0_1 a0_2 l0_3 l0_4 l0_5 l1_0 l1_1 l1_2 a1_3 a1_4 a1_5 a1_6 a1_7 a2_0 l2_1 t458 t459 t460 t461 t464 t467 t471 t474 t477 t480 t481 t482 t483 t484 t486 t487 = some r) ∧ Aside0 (kq ≤ kj5) ∧ Aside0 (Kd.R (Kd.int .i64) 3 wc w.heap.size (fun k_ => some k_ ≠ (v492 : Value).ownBlock ∧ some k_ ≠ ((.slice Ao65 t461.length co65) : Value).ownBlock ∧ some k_ ≠ ((.slice Ao66 t464.length co66) : Value).ownBlock ∧ some k_ ≠ ((.slice Ao67 t467.length co67) : Value).ownBlock ∧ some k_ ≠ ((.slice Ao77 t474.length co77) : Value).ownBlock ∧ some k_ ≠ ((.slice Ao78 t477.length co78) : Value).ownBlock ∧ some k_ ≠ ((.slice Ao88 t487.length co88) : Value).ownBlock) v455 t454) ∧ Aside0 (Kd.R (Kd.int .i64) 3 wc w.heap.size (fun k_ => some k_ ≠ (v455 : Value).ownBlock ∧ some k_ ≠ ((.slice Ao65 t461.length co65) : Value).ownBlock ∧ some k_ ≠ ((.slice Ao66 t464.length co66) : Value).ownBlock ∧ some k_ ≠ ((.slice Ao67 t467.length co67) : Value).ownBlock ∧ some k_ ≠ ((.slice Ao77 t474.length co77) : Value).ownBlock ∧ some k_ ≠ ((.slice Ao78 t477.length co78) : Value).ownBlock ∧ some k_ ≠ ((.slice Ao88 t487.length co88) : Value).ownBlock) v492 t491) ∧ Aside0 (Kd.R (Kd.int .i64) 3 wc w.heap.size (fun k_ => some k_ ≠ (v455 : Value).ownBlock ∧ some k_ ≠ (v492 : Value).ownBlock ∧ some k_ ≠ ((.slice Ao66 t464.length co66) : Value).ownBlock ∧ some k_ ≠ ((.slice Ao67 t467.length co67) : Value).ownBlock ∧ some k_ ≠ ((.slice Ao77 t474.length co77) : Value).ownBlock ∧ some k_ ≠ ((.slice Ao78 t477.length co78) : Value).ownBlock ∧ some k_ ≠ ((.slice Ao88 t487.length co88) : Value).ownBlock) (.slice Ao65 t461.length co65) t461) ∧ Aside0 (Kd.R (Kd.int .i64) 3 wc w.heap.size (fun k_ => some k_ ≠ (v455 : Value).ownBlock ∧ some k_ ≠ (v492 : Value).ownBlock ∧ some k_ ≠ ((.slice Ao65 t461.length co65) : Value).ownBlock ∧ some k_ ≠ ((.slice Ao67 t467.length co67) : Value).ownBlock ∧ some k_ ≠ ((.slice Ao77 t474.length co77) : Value).ownBlock ∧ some k_ ≠ ((.slice Ao78 t477.length co78) : Value).ownBlock ∧ some k_ ≠ ((.slice Ao88 t487.length co88) : Value).ownBlock) (.slice Ao66 t464.length co66) t464) ∧ Aside0 (Kd.R (Kd.int .i64) 3 wc w.heap.size (fun k_ => some k_ ≠ (v455 : Value).ownBlock ∧ some k_ ≠ (v492 : Value).ownBlock ∧ some k_ ≠ ((.slice Ao65 t461.length co65) : Value).ownBlock ∧ some k_ ≠ ((.slice Ao66 t464.length co66) : Value).ownBlock ∧ some k_ ≠ ((.slice Ao77 t474.length co77) : Value).ownBlock ∧ some k_ ≠ ((.slice Ao78 t477.length co78) : Value).ownBlock ∧ some k_ ≠ ((.slice Ao88 t487.length co88) : Value).ownBlock) (.slice Ao67 t467.length co67) t467) ∧ Aside0 (Kd.S (Kd.slice 3 (Kd.int .i64)) 24 wc w.heap.size (fun k_ => some k_ ≠ (v455 : Value).ownBlock ∧ some k_ ≠ (v492 : Value).ownBlock ∧ some k_ ≠ ((.slice Ao65 t461.length co65) : Value).ownBlock ∧ some k_ ≠ ((.slice Ao66 t464.length co66) : Value).ownBlock ∧ some k_ ≠ ((.slice Ao67 t467.length co67) : Value).ownBlock ∧ some k_ ≠ ((.slice Ao77 t474.length co77) : Value).ownBlock ∧ some k_ ≠ ((.slice Ao78 t477.length co78) : Value).ownBlock ∧ some k_ ≠ ((.slice Ao88 t487.length co88) : Value).ownBlock) (.slice Ao71 t471.length co71) t471) ∧ Aside0 (Kd.R (Kd.int .i64) 3 wc w.heap.size (fun k_ => some k_ ≠ (v455 : Value).ownBlock ∧ some k_ ≠ (v492 : Value).ownBlock ∧ some k_ ≠ ((.slice Ao65 t461.length co65) : Value).ownBlock ∧ some k_ ≠ ((.slice Ao66 t464.length co66) : Value).ownBlock ∧ some k_ ≠ ((.slice Ao67 t467.length co67) : Value).ownBlock ∧ some k_ ≠ ((.slice Ao78 t477.length co78) : Value).ownBlock ∧ some k_ ≠ ((.slice Ao88 t487.length co88) : Value).ownBlock) (.slice Ao77 t474.length co77) t474) ∧ Aside0 (Kd.R (Kd.int .i64) 3 wc w.heap.size (fun k_ => some k_ ≠ (v455 : Value).ownBlock ∧ some k_ ≠ (v492 : Value).ownBlock ∧ some k_ ≠ ((.slice Ao65 t461.length co65) : Value).ownBlock ∧ some k_ ≠ ((.slice Ao66 t464.length co66) : Value).ownBlock ∧ some k_ ≠ ((.slice Ao67 t467.length co67) : Value).ownBlock ∧ some k_ ≠ ((.slice Ao77 t474.length co77) : Value).ownBlock ∧ some k_ ≠ ((.slice Ao88 t487.length co88) : Value).ownBlock) (.slice Ao78 t477.length co78) t477) ∧ Aside0 (Kd.R (Kd.int .i64) 3 wc w.heap.size (fun k_ => some k_ ≠ (v455 : Value).ownBlock ∧ some k_ ≠ (v492 : Value).ownBlock ∧ some k_ ≠ ((.slice Ao65 t461.length co65) : Value).ownBlock ∧ some k_ ≠ ((.slice Ao66 t464.length co66) : Value).ownBlock ∧ some k_ ≠ ((.slice Ao67 t467.length co67) : Value).ownBlock ∧ some k_ ≠ ((.slice Ao77 t474.length co77) : Value).ownBlock ∧ some k_ ≠ ((.slice Ao78 t477.length co78) : Value).ownBlock) (.slice Ao88 t487.length co88) t487) ∧ Aside0 (wc.heap[gb418]? = some (.cells #[.int .i64 a0_0, .int .i64 a0_1, .int .i64 a0_2, (.slice A0_3 l0_3.length c0_3), (.slice A0_4 l0_4.length c0_4), (.slice A0_5 l0_5.length c0_5)] 26 (0, 0))) ∧ Aside0 (wc.heap[gb419]? = some (.cells #[(.slice A1_0 l1_0.length c1_0), (.slice A1_1 l1_1.length c1_1), (.slice A1_2 l1_2.length c1_2), .int .i64 a1_3, .int .i64 a1_4, .int .i64 a1_5, .int .i64 a1_6, .int .i64 a1_7] 31 (0, 0))) ∧ Aside0 (wc.heap[gb420]? = some (.cells #[.int .i64 a2_0, (.slice A2_1 l2_1.length c2_1)] 33 (0, 0))) ∧ Aside0 (wc.heap[gb470]? = some (.cells #[.int .i64 t458, .int .i64 t459, .int .i64 t460, (.slice Ao65 t461.length co65), (.slice Ao66 t464.length co66), (.slice Ao67 t467.length co67)] 41 (0, 0))) ∧ Aside0 (wc.heap[gb485]? = some (.cells #[(.slice Ao71 t471.length co71), (.slice Ao77 t474.length co77), (.slice Ao78 t477.length co78), .int .i64 t480, .int .i64 t481, .int .i64 t482, .int .i64 t483, .int .i64 t484] 45 (0, 0))) ∧ Aside0 (wc.heap[gb490]? = some (.cells #[.int .i64 t486, (.slice Ao88 t487.length co88)] 47 (0, 0))) ∧ Aside0 (Below w.heap.size w wc))
     case first =>
      have H := HC38.out
      clear HC38
      replace H := Option.bind_eq_some_iff.mp H
      obtain ⟨t495, A920, H⟩ := H
      have A92 := m_ A920
      clear A920
      by_cases c93 : t495 = true
      ·subst c93
       have H1 : (laws_FnExactDestinationSums.j1 kj5 a3 t454 t457 t491 t494 (t494 != t457) a0_0 a0_1 a0_2 l0_3 l0_4 l0_5 l1_0 l1_1 l1_2 a1_3 a1_4 a1_5 a1_6 a1_7 a2_0 l2_1 t458 t459 t460 t461 t464 t467 t471 t474 t477 t480 t481 t482 t483 t484 t486 t487) = some r := by rw [if_pos rfl] at H; exact H
       clear H
       have H := H1
       clear H1
       have H' := m_ H
       clear H
       obtain ⟨Ao94, co94, eo94⟩ := Kd.R_slice HO493.out
       subst eo94
       obtain ⟨Ao95, co95, eo95⟩ := Kd.R_slice HO456.out
       subst eo95
       go_wp2_with (first | ((with_reducible refine gate_callee (f := 13) rfl ?_); refine gLx0 (some 64) Try.func13 #[.slice Ao94 t491.length co94, .slice Ao95 t454.length co95] ?_; (with_reducible refine (laws_eqIntS.calls kj5 _ _ t491 _ _ t454 true _ ?side1 ?side2 ?side3 ?side4 A92.out).mono ?_); (case side1 => exact cRx0 HO493.out); (case side2 => exact (Kd.R_reads' HO493.out).2.1); (case side3 => exact cRx0 HO456.out); (case side4 => exact (Kd.R_reads' HO456.out).2.1); rintro e w' ⟨rfl, ⟨nd, rfl⟩⟩; refine ⟨_, rfl, ?_⟩))
       go_meet
       case rel => exact ⟨_, ((t494 != t457)), frx0, H', ⟨by have := HJ5.out; first | omega | exact Nat.le_refl _⟩, ⟨by exact rRx0 (mox0 HO456.out)⟩, ⟨by exact rRx0 (mox0 HO493.out)⟩, ⟨by exact rRx0 (mox0 HO463.out)⟩, ⟨by exact rRx0 (mox0 HO466.out)⟩, ⟨by exact rRx0 (mox0 HO469.out)⟩, ⟨by (with_reducible repeat (first | apply Kd.S_alloc | apply Kd.S_drewN | apply Kd.S_drew)); exact Kd.S_mono HO473.out (fun _ hk => ⟨hk.1.1.1.1.1.2, ⟨hk.2, ⟨hk.1.1.1.1.2, ⟨hk.1.1.1.2, ⟨hk.1.1.2, ⟨hk.1.1.1.1.1.1.1.1.1.1.1.1.1.1, ⟨hk.1.1.1.1.1.1.1.1.1.1.1.1.1.2, hk.1.2⟩⟩⟩⟩⟩⟩⟩)⟩, ⟨by exact rRx0 (mox0 HO476.out)⟩, ⟨by exact rRx0 (mox0 HO479.out)⟩, ⟨by exact rRx0 (mox0 HO489.out)⟩, ⟨rBx0 BK418.out⟩, ⟨rBx0 BK419.out⟩, ⟨rBx0 BK420.out⟩, ⟨rBx0 BK470.out⟩, ⟨rBx0 BK485.out⟩, ⟨rBx0 BK490.out⟩, ⟨be6x0 HB.out GE418.out GE419.out GE420.out GE470.out GE485.out GE490.out⟩⟩
      ·replace c93 := Bool.eq_false_iff.mpr c93
       subst c93
       have H1 : (laws_FnExactDestinationSums.j1 kj5 a3 t454 t457 t491 t494 true a0_0 a0_1 a0_2 l0_3 l0_4 l0_5 l1_0 l1_1 l1_2 a1_3 a1_4 a1_5 a1_6 a1_7 a2_0 l2_1 t458 t459 t460 t461 t464 t467 t471 t474 t477 t480 t481 t482 t483 t484 t486 t487) = some r := by rw [if_neg (show ¬ (false = true) by decide)] at H; exact H
       clear H
       have H := H1
       clear H1
       exact absurd (H.trans (congrArg some hrt.out)) (by generalize kj5 = k_; cases k_ <;> simp [laws_FnExactDestinationSums.j1])
     case rest =>
      clear HC38
      try clear c16; try clear c16b0; try clear c22; try clear c22b0; try clear c93; try clear hcz19_0 hcz19_1 hcz19_2 hcz19_3 hcz19_4 hcz19_5 hcz19_6 hcz19_7; try clear hcz25_0 hcz25_1 hcz25_2 hcz25_3 hcz25_4 hcz25_5 hcz25_6 hcz25_7; try clear hcz28_0 hcz28_1; try clear hcz41_0 hcz41_1 hcz41_2 hcz41_3 hcz41_4 hcz41_5 hcz41_6 hcz41_7; try clear hcz44_0 hcz44_1; try clear hcz58_0 hcz58_1 hcz58_2 hcz58_3 hcz58_4 hcz58_5; try clear hcz64_0 hcz64_1 hcz64_2 hcz64_3 hcz64_4 hcz64_5; try clear hcz68_0 hcz68_1 hcz68_2 hcz68_3 hcz68_4 hcz68_5 hcz68_6 hcz68_7; try clear hcz76_0 hcz76_1 hcz76_2 hcz76_3 hcz76_4 hcz76_5 hcz76_6 hcz76_7; try clear hcz79_0 hcz79_1; try clear hcz87_0 hcz87_1; try clear hcz89_0 hcz89_1 hcz89_2 hcz89_3 hcz89_4 hcz89_5; try clear hcz90_0 hcz90_1 hcz90_2 hcz90_3 hcz90_4 hcz90_5 hcz90_6 hcz90_7; try clear hfz19_0 hfz19_1 hfz19_2 hfz19_3 hfz19_4 hfz19_5 hfz19_6 hfz19_7; try clear hfz25_0 hfz25_1 hfz25_2 hfz25_3 hfz25_4 hfz25_5 hfz25_6 hfz25_7; try clear hfz28_0 hfz28_1; try clear hfz41_0 hfz41_1 hfz41_2 hfz41_3 hfz41_4 hfz41_5 hfz41_6 hfz41_7; try clear hfz44_0 hfz44_1; try clear hfz58_0 hfz58_1 hfz58_2 hfz58_3 hfz58_4 hfz58_5; try clear hfz64_0 hfz64_1 hfz64_2 hfz64_3 hfz64_4 hfz64_5; try clear hfz68_0 hfz68_1 hfz68_2 hfz68_3 hfz68_4 hfz68_5 hfz68_6 hfz68_7; try clear hfz76_0 hfz76_1 hfz76_2 hfz76_3 hfz76_4 hfz76_5 hfz76_6 hfz76_7; try clear hfz79_0 hfz79_1; try clear hfz87_0 hfz87_1; try clear hfz89_0 hfz89_1 hfz89_2 hfz89_3 hfz89_4 hfz89_5; try clear hfz90_0 hfz90_1 hfz90_2 hfz90_3 hfz90_4 hfz90_5 hfz90_6 hfz90_7
      obtain ⟨kq, x70_37, rfl, HA, HJ37, HO_10, HO_15, HO_471003, HO_471004, HO_471005, HO_486000, HO_486001, HO_486002, HO_491001, BK418, BK419, BK420, BK470, BK485, BK490, HB⟩ := hcut
      cases kq with
      | zero => exact absurd HA.out (by simp [laws_FnExactDestinationSums.j1])
      | succ kj37 =>
       have H := HA.out
       clear HA
       simp only [laws_FnExactDestinationSums.j1] at H
       by_cases c96 : x70_37 = true
       ·subst c96
        have H1 : (some false) = some r := by rw [if_pos rfl] at H; exact H
        clear H
        have H := H1
        clear H1
        exact absurd (H.trans (congrArg some hrt.out)) (by simp)
       ·replace c96 := Bool.eq_false_iff.mpr c96
        subst c96
        have H1 : ((laws_toModel.f kj37 a0_0 a0_1 a0_2 l0_3 l0_4 l0_5).bind fun bt496 => ((laws_eqModel.f kj37 t458 t459 t460 t461 t464 t467 bt496.1 bt496.2.1 bt496.2.2.1 bt496.2.2.2.1 bt496.2.2.2.2.1 bt496.2.2.2.2.2).bind fun t508 => (if t508 = true then ((laws_toJob.f kj37 l1_0 l1_1 l1_2 a1_3 a1_4 a1_5 a1_6 a1_7).bind fun bt509 => ((laws_eqJob.f kj37 t471 t474 t477 t480 t481 t482 t483 t484 bt509.1 bt509.2.1 bt509.2.2.1 bt509.2.2.2.1 bt509.2.2.2.2.1 bt509.2.2.2.2.2.1 bt509.2.2.2.2.2.2.1 bt509.2.2.2.2.2.2.2).bind fun t523 => (if t523 = true then ((laws_toPlan.f kj37 a2_0 l2_1).bind fun bt524 => ((laws_eqPlan.f kj37 t486 t487 bt524.1 bt524.2).bind fun t528 => (if t528 = true then (laws_FnExactDestinationSums.j2 kj37 a3 t454 t457 t491 t494 a0_0 a0_1 a0_2 l0_3 l0_4 l0_5 l1_0 l1_1 l1_2 a1_3 a1_4 a1_5 a1_6 a1_7 a2_0 l2_1 t458 t459 t460 t461 t464 t467 t471 t474 t477 t480 t481 t482 t483 t484 t486 t487) else (some false)))) else (some false)))) else (some false)))) = some r := by rw [if_neg (show ¬ (false = true) by decide)] at H; exact H
        clear H
        have H := H1
        clear H1
        replace H := Option.bind_eq_some_iff.mp H
        obtain ⟨⟨t496, t497, t498, t499, t502, t505⟩, A970, H⟩ := H
        (try dsimp only at H)
        have A97 := m_ A970
        clear A970
        replace H := Option.bind_eq_some_iff.mp H
        obtain ⟨t508, A980, H⟩ := H
        have A98 := m_ A980
        clear A980
        by_cases c99 : t508 = true
        ·subst c99
         have H1 : ((laws_toJob.f kj37 l1_0 l1_1 l1_2 a1_3 a1_4 a1_5 a1_6 a1_7).bind fun bt509 => ((laws_eqJob.f kj37 t471 t474 t477 t480 t481 t482 t483 t484 bt509.1 bt509.2.1 bt509.2.2.1 bt509.2.2.2.1 bt509.2.2.2.2.1 bt509.2.2.2.2.2.1 bt509.2.2.2.2.2.2.1 bt509.2.2.2.2.2.2.2).bind fun t523 => (if t523 = true then ((laws_toPlan.f kj37 a2_0 l2_1).bind fun bt524 => ((laws_eqPlan.f kj37 t486 t487 bt524.1 bt524.2).bind fun t528 => (if t528 = true then (laws_FnExactDestinationSums.j2 kj37 a3 t454 t457 t491 t494 a0_0 a0_1 a0_2 l0_3 l0_4 l0_5 l1_0 l1_1 l1_2 a1_3 a1_4 a1_5 a1_6 a1_7 a2_0 l2_1 t458 t459 t460 t461 t464 t467 t471 t474 t477 t480 t481 t482 t483 t484 t486 t487) else (some false)))) else (some false)))) = some r := by rw [if_pos rfl] at H; exact H
         clear H
         have H := H1
         clear H1
         replace H := Option.bind_eq_some_iff.mp H
         obtain ⟨⟨t509, t512, t515, t518, t519, t520, t521, t522⟩, A1000, H⟩ := H
         (try dsimp only at H)
         have A100 := m_ A1000
         clear A1000
         replace H := Option.bind_eq_some_iff.mp H
         obtain ⟨t523, A1010, H⟩ := H
         have A101 := m_ A1010
         clear A1010
         by_cases c102 : t523 = true
         ·subst c102
          have H1 : ((laws_toPlan.f kj37 a2_0 l2_1).bind fun bt524 => ((laws_eqPlan.f kj37 t486 t487 bt524.1 bt524.2).bind fun t528 => (if t528 = true then (laws_FnExactDestinationSums.j2 kj37 a3 t454 t457 t491 t494 a0_0 a0_1 a0_2 l0_3 l0_4 l0_5 l1_0 l1_1 l1_2 a1_3 a1_4 a1_5 a1_6 a1_7 a2_0 l2_1 t458 t459 t460 t461 t464 t467 t471 t474 t477 t480 t481 t482 t483 t484 t486 t487) else (some false)))) = some r := by rw [if_pos rfl] at H; exact H
          clear H
          have H := H1
          clear H1
          replace H := Option.bind_eq_some_iff.mp H
          obtain ⟨⟨t524, t525⟩, A1030, H⟩ := H
          (try dsimp only at H)
          have A103 := m_ A1030
          clear A1030
          replace H := Option.bind_eq_some_iff.mp H
          obtain ⟨t528, A1040, H⟩ := H
          have A104 := m_ A1040
          clear A1040
          have HC105 := m_ H
          clear H
          try go_wp2
          replace HO_10 := m_ (Kd.R_drew HO_10.out)
          replace HO_15 := m_ (Kd.R_drew HO_15.out)
          replace HO_471003 := m_ (Kd.R_drew HO_471003.out)
          replace HO_471004 := m_ (Kd.R_drew HO_471004.out)
          replace HO_471005 := m_ (Kd.R_drew HO_471005.out)
          replace HO_486000 := m_ (Kd.S_drew HO_486000.out)
          replace HO_486001 := m_ (Kd.R_drew HO_486001.out)
          replace HO_486002 := m_ (Kd.R_drew HO_486002.out)
          replace HO_491001 := m_ (Kd.R_drew HO_491001.out)
          replace BK418 := m_ (blk_drew BK418.out)
          replace BK419 := m_ (blk_drew BK419.out)
          replace BK420 := m_ (blk_drew BK420.out)
          replace BK470 := m_ (blk_drew BK470.out)
          replace BK485 := m_ (blk_drew BK485.out)
          replace BK490 := m_ (blk_drew BK490.out)
          replace HB := m_ (below_drew1 HB.out)
          refine start_ (n := 5) (S := fun w' => w'.cell? ⟨gb470, 0, none⟩ = some (.int .i64 t458) ∧ w'.cell? ⟨gb470, 1, none⟩ = some (.int .i64 t459) ∧ w'.cell? ⟨gb470, 2, none⟩ = some (.int .i64 t460) ∧ w'.cell? ⟨gb470, 3, none⟩ = some (.slice Ao65 t461.length co65) ∧ w'.cell? ⟨gb470, 4, none⟩ = some (.slice Ao66 t464.length co66) ∧ w'.cell? ⟨gb470, 5, none⟩ = some (.slice Ao67 t467.length co67) ∧ w'.cell? ⟨gb418, 0, none⟩ = some (.int .i64 a0_0) ∧ w'.cell? ⟨gb418, 1, none⟩ = some (.int .i64 a0_1) ∧ w'.cell? ⟨gb418, 2, none⟩ = some (.int .i64 a0_2) ∧ w'.cell? ⟨gb418, 3, none⟩ = some (.slice A0_3 l0_3.length c0_3) ∧ w'.cell? ⟨gb418, 4, none⟩ = some (.slice A0_4 l0_4.length c0_4) ∧ w'.cell? ⟨gb418, 5, none⟩ = some (.slice A0_5 l0_5.length c0_5)) (ds := []) (tf_ 0 5) (by kernel_rfl) rfl rfl (ca6x0 BK470.out (cc6x0 BK418.out)) (fun hHeld => ?_)
          generalize wc.drew = w106 at HO_10 HO_15 HO_471003 HO_471004 HO_471005 HO_486000 HO_486001 HO_486002 HO_491001 BK418 BK419 BK420 BK470 BK485 BK490 HB hHeld ⊢
          refine take_ (i := 0) (N := some 71) (v := ?_) (a' := ?_) (tf_ 1 5) rfl rfl (by kernel_rfl) (fun _ _ _ h => h) (Or.inl ⟨by rfl, ?_⟩) hHeld ?_ ?_
          rotate_left
          ·rintro w' ⟨s0, s1, s2, s3, s4, s5, s6, s7, s8, s9, s10, s11⟩
           go_simp
           with_reducible rfl
          rotate_left
          ·simp only [Act.put, List.setIfInBounds_toArray, List.set_cons_zero, List.set_cons_succ, i64_w, i32_w]
           rfl
          refine take_ (i := 1) (N := some 72) (v := ?_) (a' := ?_) (tf_ 2 5) rfl rfl (by kernel_rfl) (fun _ _ _ h => h) (Or.inl ⟨by rfl, ?_⟩) hHeld ?_ ?_
          rotate_left
          ·rintro w' ⟨s0, s1, s2, s3, s4, s5, s6, s7, s8, s9, s10, s11⟩
           go_simp
           with_reducible rfl
          rotate_left
          ·simp only [Act.put, List.setIfInBounds_toArray, List.set_cons_zero, List.set_cons_succ, i64_w, i32_w]
           rfl
          refine one_ (i := 2) (N := some 73) (tf_ 3 5) rfl rfl (by kernel_rfl) (by decide) (fun K hK => ?_)
          refine goes_ Try.func9 (by kernel_rfl) rfl #[.agg #[.int .i64 a0_0, .int .i64 a0_1, .int .i64 a0_2, .slice A0_3 l0_3.length c0_3, .slice A0_4 l0_4.length c0_4, .slice A0_5 l0_5.length c0_5]] (by rfl) rfl rfl mpx0 ?_
          with_reducible refine (laws_toModel.calls kj37 a0_0 a0_1 a0_2 _ _ l0_3 _ _ l0_4 _ _ l0_5 t496 t497 t498 t499 t502 t505 _ ?side1 ?side2 ?side3 ?side4 ?side5 ?side6 A97.out).mono ?_
          (case side1 => exact rCx0 (Kd.C_below HR0_3.out HB.out))
          (case side2 => exact HC0_3.out)
          (case side3 => exact rCx0 (Kd.C_below HR0_4.out HB.out))
          (case side4 => exact HC0_4.out)
          (case side5 => exact rCx0 (Kd.C_below HR0_5.out HB.out))
          (case side6 => exact HC0_5.out)
          rintro e w107 ⟨v500, v503, v506, rfl, ho0, ho1, ho2, hb⟩
          refine ⟨_, rfl, ?_⟩
          replace HO_486000 := m_ (Kd.S_mono (Kd.S_told (Kd.S_told (Kd.S_told (Kd.S_old (rSx0 HO_486000.out) hb) (Kd.R_base ho0)) (Kd.R_base ho1)) (Kd.R_base ho2)) (fun _ h_ => h_.1))
          have HO501 := m_ (Kd.R_lower (nwx0 (nwx0 (nwx0 (nwx0 (nwx0 (nwx0 (nwx0 (nwx0 ho0 (rRx0 HO_10.out)) (rRx0 HO_15.out)) (rRx0 HO_471003.out)) (rRx0 HO_471004.out)) (rRx0 HO_471005.out)) (rRx0 HO_486001.out)) (rRx0 HO_486002.out)) (rRx0 HO_491001.out)) (below_size (be6x0 HB.out GE418.out GE419.out GE420.out GE470.out GE485.out GE490.out)))
          have HO504 := m_ (Kd.R_lower (nwx0 (nwx0 (nwx0 (nwx0 (nwx0 (nwx0 (nwx0 (nwx0 ho1 (rRx0 HO_10.out)) (rRx0 HO_15.out)) (rRx0 HO_471003.out)) (rRx0 HO_471004.out)) (rRx0 HO_471005.out)) (rRx0 HO_486001.out)) (rRx0 HO_486002.out)) (rRx0 HO_491001.out)) (below_size (be6x0 HB.out GE418.out GE419.out GE420.out GE470.out GE485.out GE490.out)))
          have HO507 := m_ (Kd.R_lower (nwx0 (nwx0 (nwx0 (nwx0 (nwx0 (nwx0 (nwx0 (nwx0 ho2 (rRx0 HO_10.out)) (rRx0 HO_15.out)) (rRx0 HO_471003.out)) (rRx0 HO_471004.out)) (rRx0 HO_471005.out)) (rRx0 HO_486001.out)) (rRx0 HO_486002.out)) (rRx0 HO_491001.out)) (below_size (be6x0 HB.out GE418.out GE419.out GE420.out GE470.out GE485.out GE490.out)))
          replace HO_10 := m_ (kp3x0 (rRx0 HO_10.out) hb ho0 ho1 ho2)
          replace HO_15 := m_ (kp3x0 (rRx0 HO_15.out) hb ho0 ho1 ho2)
          replace HO_471003 := m_ (kp3x0 (rRx0 HO_471003.out) hb ho0 ho1 ho2)
          replace HO_471004 := m_ (kp3x0 (rRx0 HO_471004.out) hb ho0 ho1 ho2)
          replace HO_471005 := m_ (kp3x0 (rRx0 HO_471005.out) hb ho0 ho1 ho2)
          replace HO_486001 := m_ (kp3x0 (rRx0 HO_486001.out) hb ho0 ho1 ho2)
          replace HO_486002 := m_ (kp3x0 (rRx0 HO_486002.out) hb ho0 ho1 ho2)
          replace HO_491001 := m_ (kp3x0 (rRx0 HO_491001.out) hb ho0 ho1 ho2)
          replace BK418 := kbx0 BK418 hb
          replace BK419 := kbx0 BK419 hb
          replace BK420 := kbx0 BK420 hb
          replace BK470 := kbx0 BK470 hb
          replace BK485 := kbx0 BK485 hb
          replace BK490 := kbx0 BK490 hb
          replace HB := m_ (below_step (be6x0 HB.out GE418.out GE419.out GE420.out GE470.out GE485.out GE490.out) hb)
          (try clear hb)
          (try clear hb2)
          (try clear hk)
          (try clear hi)
          (try clear ho0)
          (try clear ho1)
          (try clear ho2)
          obtain ⟨Ao108, co108, eo108⟩ := Kd.R_slice HO501.out
          (first | subst eo108 | (injection eo108 with f1_ f2_ f3_; have f4_ := f1_.symm; have f5_ := f3_.symm; clear f1_ f2_ f3_; subst f4_; subst f5_))
          obtain ⟨Ao109, co109, eo109⟩ := Kd.R_slice HO504.out
          (first | subst eo109 | (injection eo109 with f1_ f2_ f3_; have f4_ := f1_.symm; have f5_ := f3_.symm; clear f1_ f2_ f3_; subst f4_; subst f5_))
          obtain ⟨Ao110, co110, eo110⟩ := Kd.R_slice HO507.out
          (first | subst eo110 | (injection eo110 with f1_ f2_ f3_; have f4_ := f1_.symm; have f5_ := f3_.symm; clear f1_ f2_ f3_; subst f4_; subst f5_))
          refine hK.out _ _ (ca6x0 BK470.out (cc6x0 BK418.out)) (fun hHeld => ?_)
          clear hK K
          refine norm_ (a' := ?_) ?_ ?_
          rotate_left
          ·show Act.put _ (some 73) _ = _
           simp only [Act.put, List.setIfInBounds_toArray, List.set_cons_zero, List.set_cons_succ, i64_w, i32_w]
           rfl
          refine one_ (i := 3) (N := some 74) (tf_ 4 5) rfl rfl (by kernel_rfl) (by decide) (fun K hK => ?_)
          refine goes_ Try.func14 (by kernel_rfl) rfl #[.agg #[.int .i64 t458, .int .i64 t459, .int .i64 t460, .slice Ao65 t461.length co65, .slice Ao66 t464.length co66, .slice Ao67 t467.length co67], .agg #[.int .i64 t496, .int .i64 t497, .int .i64 t498, .slice Ao108 t499.length co108, .slice Ao109 t502.length co109, .slice Ao110 t505.length co110]] (by rfl) rfl rfl mpx0 ?_
          with_reducible refine (laws_eqModel.calls kj37 t458 t459 t460 _ _ t461 _ _ t464 _ _ t467 t496 t497 t498 _ _ t499 _ _ t502 _ _ t505 true _ ?side1 ?side2 ?side3 ?side4 ?side5 ?side6 ?side7 ?side8 ?side9 ?side10 ?side11 ?side12 A98.out).mono ?_
          (case side1 => exact cRx0 HO_471003.out)
          (case side2 => exact (Kd.R_reads' HO_471003.out).2.1)
          (case side3 => exact cRx0 HO_471004.out)
          (case side4 => exact (Kd.R_reads' HO_471004.out).2.1)
          (case side5 => exact cRx0 HO_471005.out)
          (case side6 => exact (Kd.R_reads' HO_471005.out).2.1)
          (case side7 => exact cRx0 HO501.out)
          (case side8 => exact (Kd.R_reads' HO501.out).2.1)
          (case side9 => exact cRx0 HO504.out)
          (case side10 => exact (Kd.R_reads' HO504.out).2.1)
          (case side11 => exact cRx0 HO507.out)
          (case side12 => exact (Kd.R_reads' HO507.out).2.1)
          rintro e w111 ⟨rfl, hb⟩
          refine ⟨_, rfl, ?_⟩
          replace HO_10 := m_ (Kd.R_below (rRx0 HO_10.out) hb)
          replace HO_15 := m_ (Kd.R_below (rRx0 HO_15.out) hb)
          replace HO_471003 := m_ (Kd.R_below (rRx0 HO_471003.out) hb)
          replace HO_471004 := m_ (Kd.R_below (rRx0 HO_471004.out) hb)
          replace HO_471005 := m_ (Kd.R_below (rRx0 HO_471005.out) hb)
          replace HO_486000 := m_ (Kd.S_below (rSx0 HO_486000.out) hb)
          replace HO_486001 := m_ (Kd.R_below (rRx0 HO_486001.out) hb)
          replace HO_486002 := m_ (Kd.R_below (rRx0 HO_486002.out) hb)
          replace HO_491001 := m_ (Kd.R_below (rRx0 HO_491001.out) hb)
          replace HO501 := m_ (Kd.R_below (rRx0 HO501.out) hb)
          replace HO504 := m_ (Kd.R_below (rRx0 HO504.out) hb)
          replace HO507 := m_ (Kd.R_below (rRx0 HO507.out) hb)
          replace BK418 := kbx0 BK418 hb
          replace BK419 := kbx0 BK419 hb
          replace BK420 := kbx0 BK420 hb
          replace BK470 := kbx0 BK470 hb
          replace BK485 := kbx0 BK485 hb
          replace BK490 := kbx0 BK490 hb
          replace HB := m_ (below_step (be6x0 HB.out GE418.out GE419.out GE420.out GE470.out GE485.out GE490.out) hb)
          (try clear hb)
          (try clear hb2)
          (try clear hk)
          (try clear hi)
          refine hK.out _ _ (ca6x0 BK470.out (cc6x0 BK418.out)) (fun hHeld => ?_)
          clear hK K
          refine norm_ (a' := ?_) ?_ ?_
          rotate_left
          ·show Act.put _ (some 74) _ = _
           simp only [Act.put, List.setIfInBounds_toArray, List.set_cons_zero, List.set_cons_succ, i64_w, i32_w]
           rfl
          refine pure_ (i := 4) (N := some 75) (v := ?_) (a' := ?_) (tf_ 5 5) rfl rfl (by kernel_rfl) (fun _ _ _ h => h) (Or.inl ⟨by rfl, ?_⟩) ?_ ?_
          rotate_left
          ·intro w'
           go_simp
           with_reducible rfl
          rotate_left
          ·simp only [Act.put, List.setIfInBounds_toArray, List.set_cons_zero, List.set_cons_succ, i64_w, i32_w]
           rfl
          refine done_ (by kernel_rfl) ?_
          try go_wp2
          replace HO_10 := m_ (Kd.R_drew HO_10.out)
          replace HO_15 := m_ (Kd.R_drew HO_15.out)
          replace HO_471003 := m_ (Kd.R_drew HO_471003.out)
          replace HO_471004 := m_ (Kd.R_drew HO_471004.out)
          replace HO_471005 := m_ (Kd.R_drew HO_471005.out)
          replace HO_486000 := m_ (Kd.S_drew HO_486000.out)
          replace HO_486001 := m_ (Kd.R_drew HO_486001.out)
          replace HO_486002 := m_ (Kd.R_drew HO_486002.out)
          replace HO_491001 := m_ (Kd.R_drew HO_491001.out)
          replace HO501 := m_ (Kd.R_drew HO501.out)
          replace HO504 := m_ (Kd.R_drew HO504.out)
          replace HO507 := m_ (Kd.R_drew HO507.out)
          replace BK418 := m_ (blk_drew BK418.out)
          replace BK419 := m_ (blk_drew BK419.out)
          replace BK420 := m_ (blk_drew BK420.out)
          replace BK470 := m_ (blk_drew BK470.out)
          replace BK485 := m_ (blk_drew BK485.out)
          replace BK490 := m_ (blk_drew BK490.out)
          replace HB := m_ (below_drew1 HB.out)
          refine start_ (n := 5) (S := fun w' => w'.cell? ⟨gb485, 0, none⟩ = some (.slice Ao71 t471.length co71) ∧ w'.cell? ⟨gb485, 1, none⟩ = some (.slice Ao77 t474.length co77) ∧ w'.cell? ⟨gb485, 2, none⟩ = some (.slice Ao78 t477.length co78) ∧ w'.cell? ⟨gb485, 3, none⟩ = some (.int .i64 t480) ∧ w'.cell? ⟨gb485, 4, none⟩ = some (.int .i64 t481) ∧ w'.cell? ⟨gb485, 5, none⟩ = some (.int .i64 t482) ∧ w'.cell? ⟨gb485, 6, none⟩ = some (.int .i64 t483) ∧ w'.cell? ⟨gb485, 7, none⟩ = some (.int .i64 t484) ∧ w'.cell? ⟨gb419, 0, none⟩ = some (.slice A1_0 l1_0.length c1_0) ∧ w'.cell? ⟨gb419, 1, none⟩ = some (.slice A1_1 l1_1.length c1_1) ∧ w'.cell? ⟨gb419, 2, none⟩ = some (.slice A1_2 l1_2.length c1_2) ∧ w'.cell? ⟨gb419, 3, none⟩ = some (.int .i64 a1_3) ∧ w'.cell? ⟨gb419, 4, none⟩ = some (.int .i64 a1_4) ∧ w'.cell? ⟨gb419, 5, none⟩ = some (.int .i64 a1_5) ∧ w'.cell? ⟨gb419, 6, none⟩ = some (.int .i64 a1_6) ∧ w'.cell? ⟨gb419, 7, none⟩ = some (.int .i64 a1_7)) (ds := []) (tf_ 0 5) (by kernel_rfl) rfl rfl (ca8x0 BK485.out (cc8x0 BK419.out)) (fun hHeld => ?_)
          generalize w111.drew = w112 at HO_10 HO_15 HO_471003 HO_471004 HO_471005 HO_486000 HO_486001 HO_486002 HO_491001 HO501 HO504 HO507 BK418 BK419 BK420 BK470 BK485 BK490 HB hHeld ⊢
          refine take_ (i := 0) (N := some 76) (v := ?_) (a' := ?_) (tf_ 1 5) rfl rfl (by kernel_rfl) (fun _ _ _ h => h) (Or.inl ⟨by rfl, ?_⟩) hHeld ?_ ?_
          rotate_left
          ·rintro w' ⟨s0, s1, s2, s3, s4, s5, s6, s7, s8, s9, s10, s11, s12, s13, s14, s15⟩
           go_simp
           with_reducible rfl
          rotate_left
          ·simp only [Act.put, List.setIfInBounds_toArray, List.set_cons_zero, List.set_cons_succ, i64_w, i32_w]
           rfl
          refine take_ (i := 1) (N := some 77) (v := ?_) (a' := ?_) (tf_ 2 5) rfl rfl (by kernel_rfl) (fun _ _ _ h => h) (Or.inl ⟨by rfl, ?_⟩) hHeld ?_ ?_
          rotate_left
          ·rintro w' ⟨s0, s1, s2, s3, s4, s5, s6, s7, s8, s9, s10, s11, s12, s13, s14, s15⟩
           go_simp
           with_reducible rfl
          rotate_left
          ·simp only [Act.put, List.setIfInBounds_toArray, List.set_cons_zero, List.set_cons_succ, i64_w, i32_w]
           rfl
          refine one_ (i := 2) (N := some 78) (tf_ 3 5) rfl rfl (by kernel_rfl) (by decide) (fun K hK => ?_)
          refine goes_ Try.func10 (by kernel_rfl) rfl #[.agg #[.slice A1_0 l1_0.length c1_0, .slice A1_1 l1_1.length c1_1, .slice A1_2 l1_2.length c1_2, .int .i64 a1_3, .int .i64 a1_4, .int .i64 a1_5, .int .i64 a1_6, .int .i64 a1_7]] (by rfl) rfl rfl mpx0 ?_
          with_reducible refine (laws_toJob.calls kj37 _ _ l1_0 _ _ l1_1 _ _ l1_2 a1_3 a1_4 a1_5 a1_6 a1_7 t509 t512 t515 t518 t519 t520 t521 t522 _ ?side1 ?side2 ?side3 ?side4 ?side5 ?side6 A100.out).mono ?_
          (case side1 => exact rCx0 (Kd.C_below HR1_0.out HB.out))
          (case side2 => exact HC1_0.out)
          (case side3 => exact rCx0 (Kd.C_below HR1_1.out HB.out))
          (case side4 => exact HC1_1.out)
          (case side5 => exact rCx0 (Kd.C_below HR1_2.out HB.out))
          (case side6 => exact HC1_2.out)
          rintro e w113 ⟨v510, v513, v516, rfl, ho0, ho1, ho2, hb⟩
          refine ⟨_, rfl, ?_⟩
          have HO511 := m_ (Kd.S_lower (Kd.S_new' (Kd.S_new' (Kd.S_new' (Kd.S_new' (Kd.S_new' (Kd.S_new' (Kd.S_new' (Kd.S_new' (Kd.S_new' (Kd.S_new' (Kd.S_new' (Kd.S_new' ho0 (Kd.R_lt (rRx0 HO_10.out))) (Kd.R_lt (rRx0 HO_15.out))) (Kd.R_lt (rRx0 HO_471003.out))) (Kd.R_lt (rRx0 HO_471004.out))) (Kd.R_lt (rRx0 HO_471005.out))) (Kd.S_lt (rSx0 HO_486000.out))) (Kd.R_lt (rRx0 HO_486001.out))) (Kd.R_lt (rRx0 HO_486002.out))) (Kd.R_lt (rRx0 HO_491001.out))) (Kd.R_lt (rRx0 HO501.out))) (Kd.R_lt (rRx0 HO504.out))) (Kd.R_lt (rRx0 HO507.out))) (below_size (be6x0 HB.out GE418.out GE419.out GE420.out GE470.out GE485.out GE490.out)))
          replace HO_486000 := m_ (Kd.S_mono (Kd.S_told (Kd.S_told (Kd.S_told (Kd.S_old (rSx0 HO_486000.out) hb) (Kd.S_base ho0)) (Kd.R_base ho1)) (Kd.R_base ho2)) (fun _ h_ => h_.1))
          have HO514 := m_ (Kd.R_lower (nwx0 (nwx0 (nwx0 (nwx0 (nwx0 (nwx0 (nwx0 (nwx0 (nwx0 (nwx0 (nwx0 ho1 (rRx0 HO_10.out)) (rRx0 HO_15.out)) (rRx0 HO_471003.out)) (rRx0 HO_471004.out)) (rRx0 HO_471005.out)) (rRx0 HO_486001.out)) (rRx0 HO_486002.out)) (rRx0 HO_491001.out)) (rRx0 HO501.out)) (rRx0 HO504.out)) (rRx0 HO507.out)) (below_size (be6x0 HB.out GE418.out GE419.out GE420.out GE470.out GE485.out GE490.out)))
          have HO517 := m_ (Kd.R_lower (nwx0 (nwx0 (nwx0 (nwx0 (nwx0 (nwx0 (nwx0 (nwx0 (nwx0 (nwx0 (nwx0 ho2 (rRx0 HO_10.out)) (rRx0 HO_15.out)) (rRx0 HO_471003.out)) (rRx0 HO_471004.out)) (rRx0 HO_471005.out)) (rRx0 HO_486001.out)) (rRx0 HO_486002.out)) (rRx0 HO_491001.out)) (rRx0 HO501.out)) (rRx0 HO504.out)) (rRx0 HO507.out)) (below_size (be6x0 HB.out GE418.out GE419.out GE420.out GE470.out GE485.out GE490.out)))
          replace HO_10 := m_ (Kd.R_mono (Kd.R_told (Kd.R_told (Kd.R_old (rRx0 HO_10.out) hb) (Kd.R_base ho1)) (Kd.R_base ho2)) (fun _ h_ => h_.1))
          replace HO_15 := m_ (Kd.R_mono (Kd.R_told (Kd.R_told (Kd.R_old (rRx0 HO_15.out) hb) (Kd.R_base ho1)) (Kd.R_base ho2)) (fun _ h_ => h_.1))
          replace HO_471003 := m_ (Kd.R_mono (Kd.R_told (Kd.R_told (Kd.R_old (rRx0 HO_471003.out) hb) (Kd.R_base ho1)) (Kd.R_base ho2)) (fun _ h_ => h_.1))
          replace HO_471004 := m_ (Kd.R_mono (Kd.R_told (Kd.R_told (Kd.R_old (rRx0 HO_471004.out) hb) (Kd.R_base ho1)) (Kd.R_base ho2)) (fun _ h_ => h_.1))
          replace HO_471005 := m_ (Kd.R_mono (Kd.R_told (Kd.R_told (Kd.R_old (rRx0 HO_471005.out) hb) (Kd.R_base ho1)) (Kd.R_base ho2)) (fun _ h_ => h_.1))
          replace HO_486001 := m_ (Kd.R_mono (Kd.R_told (Kd.R_told (Kd.R_old (rRx0 HO_486001.out) hb) (Kd.R_base ho1)) (Kd.R_base ho2)) (fun _ h_ => h_.1))
          replace HO_486002 := m_ (Kd.R_mono (Kd.R_told (Kd.R_told (Kd.R_old (rRx0 HO_486002.out) hb) (Kd.R_base ho1)) (Kd.R_base ho2)) (fun _ h_ => h_.1))
          replace HO_491001 := m_ (Kd.R_mono (Kd.R_told (Kd.R_told (Kd.R_old (rRx0 HO_491001.out) hb) (Kd.R_base ho1)) (Kd.R_base ho2)) (fun _ h_ => h_.1))
          replace HO501 := m_ (Kd.R_mono (Kd.R_told (Kd.R_told (Kd.R_old (rRx0 HO501.out) hb) (Kd.R_base ho1)) (Kd.R_base ho2)) (fun _ h_ => h_.1))
          replace HO504 := m_ (Kd.R_mono (Kd.R_told (Kd.R_told (Kd.R_old (rRx0 HO504.out) hb) (Kd.R_base ho1)) (Kd.R_base ho2)) (fun _ h_ => h_.1))
          replace HO507 := m_ (Kd.R_mono (Kd.R_told (Kd.R_told (Kd.R_old (rRx0 HO507.out) hb) (Kd.R_base ho1)) (Kd.R_base ho2)) (fun _ h_ => h_.1))
          replace BK418 := kbx0 BK418 hb
          replace BK419 := kbx0 BK419 hb
          replace BK420 := kbx0 BK420 hb
          replace BK470 := kbx0 BK470 hb
          replace BK485 := kbx0 BK485 hb
          replace BK490 := kbx0 BK490 hb
          replace HB := m_ (below_step (be6x0 HB.out GE418.out GE419.out GE420.out GE470.out GE485.out GE490.out) hb)
          (try clear hb)
          (try clear hb2)
          (try clear hk)
          (try clear hi)
          (try clear ho0)
          (try clear ho1)
          (try clear ho2)
          obtain ⟨Ao114, co114, eo114⟩ := Kd.S_slice HO511.out
          (first | subst eo114 | (injection eo114 with f1_ f2_ f3_; have f4_ := f1_.symm; have f5_ := f3_.symm; clear f1_ f2_ f3_; subst f4_; subst f5_))
          obtain ⟨Ao115, co115, eo115⟩ := Kd.R_slice HO514.out
          (first | subst eo115 | (injection eo115 with f1_ f2_ f3_; have f4_ := f1_.symm; have f5_ := f3_.symm; clear f1_ f2_ f3_; subst f4_; subst f5_))
          obtain ⟨Ao116, co116, eo116⟩ := Kd.R_slice HO517.out
          (first | subst eo116 | (injection eo116 with f1_ f2_ f3_; have f4_ := f1_.symm; have f5_ := f3_.symm; clear f1_ f2_ f3_; subst f4_; subst f5_))
          refine hK.out _ _ (ca8x0 BK485.out (cc8x0 BK419.out)) (fun hHeld => ?_)
          clear hK K
          refine norm_ (a' := ?_) ?_ ?_
          rotate_left
          ·show Act.put _ (some 78) _ = _
           simp only [Act.put, List.setIfInBounds_toArray, List.set_cons_zero, List.set_cons_succ, i64_w, i32_w]
           rfl
          refine one_ (i := 3) (N := some 79) (tf_ 4 5) rfl rfl (by kernel_rfl) (by decide) (fun K hK => ?_)
          refine goes_ Try.func15 (by kernel_rfl) rfl #[.agg #[.slice Ao71 t471.length co71, .slice Ao77 t474.length co77, .slice Ao78 t477.length co78, .int .i64 t480, .int .i64 t481, .int .i64 t482, .int .i64 t483, .int .i64 t484], .agg #[.slice Ao114 t509.length co114, .slice Ao115 t512.length co115, .slice Ao116 t515.length co116, .int .i64 t518, .int .i64 t519, .int .i64 t520, .int .i64 t521, .int .i64 t522]] (by rfl) rfl rfl mpx0 ?_
          with_reducible refine (laws_eqJob.calls kj37 _ _ t471 _ _ t474 _ _ t477 t480 t481 t482 t483 t484 _ _ t509 _ _ t512 _ _ t515 t518 t519 t520 t521 t522 true _ ?side1 ?side2 ?side3 ?side4 ?side5 ?side6 ?side7 ?side8 ?side9 ?side10 ?side11 ?side12 A101.out).mono ?_
          (case side1 => repeat (first | exact (Kd.S_reads' HO_486000.out).2.2 | (with_reducible refine Kd.C_alloc ?_ _) | (with_reducible refine Kd.C_drewN ?_ _) | (with_reducible refine Kd.C_drew ?_)))
          (case side2 => exact (Kd.S_reads' HO_486000.out).2.1)
          (case side3 => exact cRx0 HO_486001.out)
          (case side4 => exact (Kd.R_reads' HO_486001.out).2.1)
          (case side5 => exact cRx0 HO_486002.out)
          (case side6 => exact (Kd.R_reads' HO_486002.out).2.1)
          (case side7 => repeat (first | exact (Kd.S_reads' HO511.out).2.2 | (with_reducible refine Kd.C_alloc ?_ _) | (with_reducible refine Kd.C_drewN ?_ _) | (with_reducible refine Kd.C_drew ?_)))
          (case side8 => exact (Kd.S_reads' HO511.out).2.1)
          (case side9 => exact cRx0 HO514.out)
          (case side10 => exact (Kd.R_reads' HO514.out).2.1)
          (case side11 => exact cRx0 HO517.out)
          (case side12 => exact (Kd.R_reads' HO517.out).2.1)
          rintro e w117 ⟨rfl, hb⟩
          refine ⟨_, rfl, ?_⟩
          replace HO_10 := m_ (Kd.R_below (rRx0 HO_10.out) hb)
          replace HO_15 := m_ (Kd.R_below (rRx0 HO_15.out) hb)
          replace HO_471003 := m_ (Kd.R_below (rRx0 HO_471003.out) hb)
          replace HO_471004 := m_ (Kd.R_below (rRx0 HO_471004.out) hb)
          replace HO_471005 := m_ (Kd.R_below (rRx0 HO_471005.out) hb)
          replace HO_486000 := m_ (Kd.S_below (rSx0 HO_486000.out) hb)
          replace HO_486001 := m_ (Kd.R_below (rRx0 HO_486001.out) hb)
          replace HO_486002 := m_ (Kd.R_below (rRx0 HO_486002.out) hb)
          replace HO_491001 := m_ (Kd.R_below (rRx0 HO_491001.out) hb)
          replace HO501 := m_ (Kd.R_below (rRx0 HO501.out) hb)
          replace HO504 := m_ (Kd.R_below (rRx0 HO504.out) hb)
          replace HO507 := m_ (Kd.R_below (rRx0 HO507.out) hb)
          replace HO511 := m_ (Kd.S_below (rSx0 HO511.out) hb)
          replace HO514 := m_ (Kd.R_below (rRx0 HO514.out) hb)
          replace HO517 := m_ (Kd.R_below (rRx0 HO517.out) hb)
          replace BK418 := kbx0 BK418 hb
          replace BK419 := kbx0 BK419 hb
          replace BK420 := kbx0 BK420 hb
          replace BK470 := kbx0 BK470 hb
          replace BK485 := kbx0 BK485 hb
          replace BK490 := kbx0 BK490 hb
          replace HB := m_ (below_step (be6x0 HB.out GE418.out GE419.out GE420.out GE470.out GE485.out GE490.out) hb)
          (try clear hb)
          (try clear hb2)
          (try clear hk)
          (try clear hi)
          refine hK.out _ _ (ca8x0 BK485.out (cc8x0 BK419.out)) (fun hHeld => ?_)
          clear hK K
          refine norm_ (a' := ?_) ?_ ?_
          rotate_left
          ·show Act.put _ (some 79) _ = _
           simp only [Act.put, List.setIfInBounds_toArray, List.set_cons_zero, List.set_cons_succ, i64_w, i32_w]
           rfl
          refine pure_ (i := 4) (N := some 80) (v := ?_) (a' := ?_) (tf_ 5 5) rfl rfl (by kernel_rfl) (fun _ _ _ h => h) (Or.inl ⟨by rfl, ?_⟩) ?_ ?_
          rotate_left
          ·intro w'
           go_simp
           with_reducible rfl
          rotate_left
          ·simp only [Act.put, List.setIfInBounds_toArray, List.set_cons_zero, List.set_cons_succ, i64_w, i32_w]
           rfl
          refine done_ (by kernel_rfl) ?_
          try go_wp2
          replace HO_10 := m_ (Kd.R_drew HO_10.out)
          replace HO_15 := m_ (Kd.R_drew HO_15.out)
          replace HO_471003 := m_ (Kd.R_drew HO_471003.out)
          replace HO_471004 := m_ (Kd.R_drew HO_471004.out)
          replace HO_471005 := m_ (Kd.R_drew HO_471005.out)
          replace HO_486000 := m_ (Kd.S_drew HO_486000.out)
          replace HO_486001 := m_ (Kd.R_drew HO_486001.out)
          replace HO_486002 := m_ (Kd.R_drew HO_486002.out)
          replace HO_491001 := m_ (Kd.R_drew HO_491001.out)
          replace HO501 := m_ (Kd.R_drew HO501.out)
          replace HO504 := m_ (Kd.R_drew HO504.out)
          replace HO507 := m_ (Kd.R_drew HO507.out)
          replace HO511 := m_ (Kd.S_drew HO511.out)
          replace HO514 := m_ (Kd.R_drew HO514.out)
          replace HO517 := m_ (Kd.R_drew HO517.out)
          replace BK418 := m_ (blk_drew BK418.out)
          replace BK419 := m_ (blk_drew BK419.out)
          replace BK420 := m_ (blk_drew BK420.out)
          replace BK470 := m_ (blk_drew BK470.out)
          replace BK485 := m_ (blk_drew BK485.out)
          replace BK490 := m_ (blk_drew BK490.out)
          replace HB := m_ (below_drew1 HB.out)
          refine start_ (n := 5) (S := fun w' => w'.cell? ⟨gb490, 0, none⟩ = some (.int .i64 t486) ∧ w'.cell? ⟨gb490, 1, none⟩ = some (.slice Ao88 t487.length co88) ∧ w'.cell? ⟨gb420, 0, none⟩ = some (.int .i64 a2_0) ∧ w'.cell? ⟨gb420, 1, none⟩ = some (.slice A2_1 l2_1.length c2_1)) (ds := []) (tf_ 0 5) (by kernel_rfl) rfl rfl (ca2x0 BK490.out (cc2x0 BK420.out)) (fun hHeld => ?_)
          generalize w117.drew = w118 at HO_10 HO_15 HO_471003 HO_471004 HO_471005 HO_486000 HO_486001 HO_486002 HO_491001 HO501 HO504 HO507 HO511 HO514 HO517 BK418 BK419 BK420 BK470 BK485 BK490 HB hHeld ⊢
          refine take_ (i := 0) (N := some 81) (v := ?_) (a' := ?_) (tf_ 1 5) rfl rfl (by kernel_rfl) (fun _ _ _ h => h) (Or.inl ⟨by rfl, ?_⟩) hHeld ?_ ?_
          rotate_left
          ·rintro w' ⟨s0, s1, s2, s3⟩
           go_simp
           with_reducible rfl
          rotate_left
          ·simp only [Act.put, List.setIfInBounds_toArray, List.set_cons_zero, List.set_cons_succ, i64_w, i32_w]
           rfl
          refine take_ (i := 1) (N := some 82) (v := ?_) (a' := ?_) (tf_ 2 5) rfl rfl (by kernel_rfl) (fun _ _ _ h => h) (Or.inl ⟨by rfl, ?_⟩) hHeld ?_ ?_
          rotate_left
          ·rintro w' ⟨s0, s1, s2, s3⟩
           go_simp
           with_reducible rfl
          rotate_left
          ·simp only [Act.put, List.setIfInBounds_toArray, List.set_cons_zero, List.set_cons_succ, i64_w, i32_w]
           rfl
          refine one_ (i := 2) (N := some 83) (tf_ 3 5) rfl rfl (by kernel_rfl) (by decide) (fun K hK => ?_)
          refine goes_ Try.func11 (by kernel_rfl) rfl #[.agg #[.int .i64 a2_0, .slice A2_1 l2_1.length c2_1]] (by rfl) rfl rfl mpx0 ?_
          with_reducible refine (laws_toPlan.calls kj37 a2_0 _ _ l2_1 t524 t525 _ ?side1 ?side2 A103.out).mono ?_
          (case side1 => exact rCx0 (Kd.C_below HR2_1.out HB.out))
          (case side2 => exact HC2_1.out)
          rintro e w119 ⟨v526, rfl, ho0, hb⟩
          refine ⟨_, rfl, ?_⟩
          replace HO_486000 := m_ (Kd.S_elder' (rSx0 HO_486000.out) (Kd.R_base ho0) hb)
          replace HO511 := m_ (Kd.S_elder' (rSx0 HO511.out) (Kd.R_base ho0) hb)
          have HO527 := m_ (Kd.R_lower (nwx0 (nwx0 (nwx0 (nwx0 (nwx0 (nwx0 (nwx0 (nwx0 (nwx0 (nwx0 (nwx0 (nwx0 (nwx0 ho0 (rRx0 HO_10.out)) (rRx0 HO_15.out)) (rRx0 HO_471003.out)) (rRx0 HO_471004.out)) (rRx0 HO_471005.out)) (rRx0 HO_486001.out)) (rRx0 HO_486002.out)) (rRx0 HO_491001.out)) (rRx0 HO501.out)) (rRx0 HO504.out)) (rRx0 HO507.out)) (rRx0 HO514.out)) (rRx0 HO517.out)) (below_size (be6x0 HB.out GE418.out GE419.out GE420.out GE470.out GE485.out GE490.out)))
          replace HO_10 := m_ (Kd.R_elder' (rRx0 HO_10.out) (Kd.R_base ho0) hb)
          replace HO_15 := m_ (Kd.R_elder' (rRx0 HO_15.out) (Kd.R_base ho0) hb)
          replace HO_471003 := m_ (Kd.R_elder' (rRx0 HO_471003.out) (Kd.R_base ho0) hb)
          replace HO_471004 := m_ (Kd.R_elder' (rRx0 HO_471004.out) (Kd.R_base ho0) hb)
          replace HO_471005 := m_ (Kd.R_elder' (rRx0 HO_471005.out) (Kd.R_base ho0) hb)
          replace HO_486001 := m_ (Kd.R_elder' (rRx0 HO_486001.out) (Kd.R_base ho0) hb)
          replace HO_486002 := m_ (Kd.R_elder' (rRx0 HO_486002.out) (Kd.R_base ho0) hb)
          replace HO_491001 := m_ (Kd.R_elder' (rRx0 HO_491001.out) (Kd.R_base ho0) hb)
          replace HO501 := m_ (Kd.R_elder' (rRx0 HO501.out) (Kd.R_base ho0) hb)
          replace HO504 := m_ (Kd.R_elder' (rRx0 HO504.out) (Kd.R_base ho0) hb)
          replace HO507 := m_ (Kd.R_elder' (rRx0 HO507.out) (Kd.R_base ho0) hb)
          replace HO514 := m_ (Kd.R_elder' (rRx0 HO514.out) (Kd.R_base ho0) hb)
          replace HO517 := m_ (Kd.R_elder' (rRx0 HO517.out) (Kd.R_base ho0) hb)
          replace BK418 := kbx0 BK418 hb
          replace BK419 := kbx0 BK419 hb
          replace BK420 := kbx0 BK420 hb
          replace BK470 := kbx0 BK470 hb
          replace BK485 := kbx0 BK485 hb
          replace BK490 := kbx0 BK490 hb
          replace HB := m_ (below_step (be6x0 HB.out GE418.out GE419.out GE420.out GE470.out GE485.out GE490.out) hb)
          (try clear hb)
          (try clear hb2)
          (try clear hk)
          (try clear hi)
          (try clear ho0)
          obtain ⟨Ao120, co120, eo120⟩ := Kd.R_slice HO527.out
          (first | subst eo120 | (injection eo120 with f1_ f2_ f3_; have f4_ := f1_.symm; have f5_ := f3_.symm; clear f1_ f2_ f3_; subst f4_; subst f5_))
          refine hK.out _ _ (ca2x0 BK490.out (cc2x0 BK420.out)) (fun hHeld => ?_)
          clear hK K
          refine norm_ (a' := ?_) ?_ ?_
          rotate_left
          ·show Act.put _ (some 83) _ = _
           simp only [Act.put, List.setIfInBounds_toArray, List.set_cons_zero, List.set_cons_succ, i64_w, i32_w]
           rfl
          refine one_ (i := 3) (N := some 84) (tf_ 4 5) rfl rfl (by kernel_rfl) (by decide) (fun K hK => ?_)
          refine goes_ Try.func16 (by kernel_rfl) rfl #[.agg #[.int .i64 t486, .slice Ao88 t487.length co88], .agg #[.int .i64 t524, .slice Ao120 t525.length co120]] (by rfl) rfl rfl mpx0 ?_
          with_reducible refine (laws_eqPlan.calls kj37 t486 _ _ t487 t524 _ _ t525 t528 _ ?side1 ?side2 ?side3 ?side4 A104.out).mono ?_
          (case side1 => exact cRx0 HO_491001.out)
          (case side2 => exact (Kd.R_reads' HO_491001.out).2.1)
          (case side3 => exact cRx0 HO527.out)
          (case side4 => exact (Kd.R_reads' HO527.out).2.1)
          rintro e w121 ⟨rfl, hb⟩
          refine ⟨_, rfl, ?_⟩
          replace HO_10 := m_ (Kd.R_below (rRx0 HO_10.out) hb)
          replace HO_15 := m_ (Kd.R_below (rRx0 HO_15.out) hb)
          replace HO_471003 := m_ (Kd.R_below (rRx0 HO_471003.out) hb)
          replace HO_471004 := m_ (Kd.R_below (rRx0 HO_471004.out) hb)
          replace HO_471005 := m_ (Kd.R_below (rRx0 HO_471005.out) hb)
          replace HO_486000 := m_ (Kd.S_below (rSx0 HO_486000.out) hb)
          replace HO_486001 := m_ (Kd.R_below (rRx0 HO_486001.out) hb)
          replace HO_486002 := m_ (Kd.R_below (rRx0 HO_486002.out) hb)
          replace HO_491001 := m_ (Kd.R_below (rRx0 HO_491001.out) hb)
          replace HO501 := m_ (Kd.R_below (rRx0 HO501.out) hb)
          replace HO504 := m_ (Kd.R_below (rRx0 HO504.out) hb)
          replace HO507 := m_ (Kd.R_below (rRx0 HO507.out) hb)
          replace HO511 := m_ (Kd.S_below (rSx0 HO511.out) hb)
          replace HO514 := m_ (Kd.R_below (rRx0 HO514.out) hb)
          replace HO517 := m_ (Kd.R_below (rRx0 HO517.out) hb)
          replace HO527 := m_ (Kd.R_below (rRx0 HO527.out) hb)
          replace BK418 := kbx0 BK418 hb
          replace BK419 := kbx0 BK419 hb
          replace BK420 := kbx0 BK420 hb
          replace BK470 := kbx0 BK470 hb
          replace BK485 := kbx0 BK485 hb
          replace BK490 := kbx0 BK490 hb
          replace HB := m_ (below_step (be6x0 HB.out GE418.out GE419.out GE420.out GE470.out GE485.out GE490.out) hb)
          (try clear hb)
          (try clear hb2)
          (try clear hk)
          (try clear hi)
          refine hK.out _ _ (ca2x0 BK490.out (cc2x0 BK420.out)) (fun hHeld => ?_)
          clear hK K
          refine norm_ (a' := ?_) ?_ ?_
          rotate_left
          ·show Act.put _ (some 84) _ = _
           simp only [Act.put, List.setIfInBounds_toArray, List.set_cons_zero, List.set_cons_succ, i64_w, i32_w]
           rfl
          refine pure_ (i := 4) (N := some 85) (v := ?_) (a' := ?_) (tf_ 5 5) rfl rfl (by kernel_rfl) (fun _ _ _ h => h) (Or.inl ⟨by rfl, ?_⟩) ?_ ?_
          rotate_left
          ·intro w'
           go_simp
           with_reducible rfl
          rotate_left
          ·simp only [Act.put, List.setIfInBounds_toArray, List.set_cons_zero, List.set_cons_succ, i64_w, i32_w]
           rfl
          refine done_ (by kernel_rfl) ?_
          go_upto_if 85 with (fail)
          go_cut [] (fun wc => ∃ (kq : Nat), Aside0 (laws_FnExactDestinationSums.j2 kq a3 t454 t457 t491 t494 a0_0 a0_1 a0_2 l0_3 l0_4 l0_5 l1_0 l1_1 l1_2 a1_3 a1_4 a1_5 a1_6 a1_7 a2_0 l2_1 t458 t459 t460 t461 t464 t467 t471 t474 t477 t480 t481 t482 t483 t484 t486 t487 = some r) ∧ Aside0 (kq ≤ kj37) ∧ Aside0 (Kd.R (Kd.int .i64) 3 wc w.heap.size (fun k_ => some k_ ≠ (v492 : Value).ownBlock ∧ some k_ ≠ ((.slice Ao65 t461.length co65) : Value).ownBlock ∧ some k_ ≠ ((.slice Ao66 t464.length co66) : Value).ownBlock ∧ some k_ ≠ ((.slice Ao67 t467.length co67) : Value).ownBlock ∧ some k_ ≠ ((.slice Ao77 t474.length co77) : Value).ownBlock ∧ some k_ ≠ ((.slice Ao78 t477.length co78) : Value).ownBlock ∧ some k_ ≠ ((.slice Ao88 t487.length co88) : Value).ownBlock) v455 t454) ∧ Aside0 (Kd.R (Kd.int .i64) 3 wc w.heap.size (fun k_ => some k_ ≠ (v455 : Value).ownBlock ∧ some k_ ≠ ((.slice Ao65 t461.length co65) : Value).ownBlock ∧ some k_ ≠ ((.slice Ao66 t464.length co66) : Value).ownBlock ∧ some k_ ≠ ((.slice Ao67 t467.length co67) : Value).ownBlock ∧ some k_ ≠ ((.slice Ao77 t474.length co77) : Value).ownBlock ∧ some k_ ≠ ((.slice Ao78 t477.length co78) : Value).ownBlock ∧ some k_ ≠ ((.slice Ao88 t487.length co88) : Value).ownBlock) v492 t491) ∧ Aside0 (Kd.R (Kd.int .i64) 3 wc w.heap.size (fun k_ => some k_ ≠ (v455 : Value).ownBlock ∧ some k_ ≠ (v492 : Value).ownBlock ∧ some k_ ≠ ((.slice Ao66 t464.length co66) : Value).ownBlock ∧ some k_ ≠ ((.slice Ao67 t467.length co67) : Value).ownBlock ∧ some k_ ≠ ((.slice Ao77 t474.length co77) : Value).ownBlock ∧ some k_ ≠ ((.slice Ao78 t477.length co78) : Value).ownBlock ∧ some k_ ≠ ((.slice Ao88 t487.length co88) : Value).ownBlock) (.slice Ao65 t461.length co65) t461) ∧ Aside0 (Kd.R (Kd.int .i64) 3 wc w.heap.size (fun k_ => some k_ ≠ (v455 : Value).ownBlock ∧ some k_ ≠ (v492 : Value).ownBlock ∧ some k_ ≠ ((.slice Ao65 t461.length co65) : Value).ownBlock ∧ some k_ ≠ ((.slice Ao67 t467.length co67) : Value).ownBlock ∧ some k_ ≠ ((.slice Ao77 t474.length co77) : Value).ownBlock ∧ some k_ ≠ ((.slice Ao78 t477.length co78) : Value).ownBlock ∧ some k_ ≠ ((.slice Ao88 t487.length co88) : Value).ownBlock) (.slice Ao66 t464.length co66) t464) ∧ Aside0 (Kd.R (Kd.int .i64) 3 wc w.heap.size (fun k_ => some k_ ≠ (v455 : Value).ownBlock ∧ some k_ ≠ (v492 : Value).ownBlock ∧ some k_ ≠ ((.slice Ao65 t461.length co65) : Value).ownBlock ∧ some k_ ≠ ((.slice Ao66 t464.length co66) : Value).ownBlock ∧ some k_ ≠ ((.slice Ao77 t474.length co77) : Value).ownBlock ∧ some k_ ≠ ((.slice Ao78 t477.length co78) : Value).ownBlock ∧ some k_ ≠ ((.slice Ao88 t487.length co88) : Value).ownBlock) (.slice Ao67 t467.length co67) t467) ∧ Aside0 (Kd.S (Kd.slice 3 (Kd.int .i64)) 24 wc w.heap.size (fun k_ => some k_ ≠ (v455 : Value).ownBlock ∧ some k_ ≠ (v492 : Value).ownBlock ∧ some k_ ≠ ((.slice Ao65 t461.length co65) : Value).ownBlock ∧ some k_ ≠ ((.slice Ao66 t464.length co66) : Value).ownBlock ∧ some k_ ≠ ((.slice Ao67 t467.length co67) : Value).ownBlock ∧ some k_ ≠ ((.slice Ao77 t474.length co77) : Value).ownBlock ∧ some k_ ≠ ((.slice Ao78 t477.length co78) : Value).ownBlock ∧ some k_ ≠ ((.slice Ao88 t487.length co88) : Value).ownBlock) (.slice Ao71 t471.length co71) t471) ∧ Aside0 (Kd.R (Kd.int .i64) 3 wc w.heap.size (fun k_ => some k_ ≠ (v455 : Value).ownBlock ∧ some k_ ≠ (v492 : Value).ownBlock ∧ some k_ ≠ ((.slice Ao65 t461.length co65) : Value).ownBlock ∧ some k_ ≠ ((.slice Ao66 t464.length co66) : Value).ownBlock ∧ some k_ ≠ ((.slice Ao67 t467.length co67) : Value).ownBlock ∧ some k_ ≠ ((.slice Ao78 t477.length co78) : Value).ownBlock ∧ some k_ ≠ ((.slice Ao88 t487.length co88) : Value).ownBlock) (.slice Ao77 t474.length co77) t474) ∧ Aside0 (Kd.R (Kd.int .i64) 3 wc w.heap.size (fun k_ => some k_ ≠ (v455 : Value).ownBlock ∧ some k_ ≠ (v492 : Value).ownBlock ∧ some k_ ≠ ((.slice Ao65 t461.length co65) : Value).ownBlock ∧ some k_ ≠ ((.slice Ao66 t464.length co66) : Value).ownBlock ∧ some k_ ≠ ((.slice Ao67 t467.length co67) : Value).ownBlock ∧ some k_ ≠ ((.slice Ao77 t474.length co77) : Value).ownBlock ∧ some k_ ≠ ((.slice Ao88 t487.length co88) : Value).ownBlock) (.slice Ao78 t477.length co78) t477) ∧ Aside0 (Kd.R (Kd.int .i64) 3 wc w.heap.size (fun k_ => some k_ ≠ (v455 : Value).ownBlock ∧ some k_ ≠ (v492 : Value).ownBlock ∧ some k_ ≠ ((.slice Ao65 t461.length co65) : Value).ownBlock ∧ some k_ ≠ ((.slice Ao66 t464.length co66) : Value).ownBlock ∧ some k_ ≠ ((.slice Ao67 t467.length co67) : Value).ownBlock ∧ some k_ ≠ ((.slice Ao77 t474.length co77) : Value).ownBlock ∧ some k_ ≠ ((.slice Ao78 t477.length co78) : Value).ownBlock) (.slice Ao88 t487.length co88) t487) ∧ Aside0 (wc.heap[gb418]? = some (.cells #[.int .i64 a0_0, .int .i64 a0_1, .int .i64 a0_2, (.slice A0_3 l0_3.length c0_3), (.slice A0_4 l0_4.length c0_4), (.slice A0_5 l0_5.length c0_5)] 26 (0, 0))) ∧ Aside0 (wc.heap[gb419]? = some (.cells #[(.slice A1_0 l1_0.length c1_0), (.slice A1_1 l1_1.length c1_1), (.slice A1_2 l1_2.length c1_2), .int .i64 a1_3, .int .i64 a1_4, .int .i64 a1_5, .int .i64 a1_6, .int .i64 a1_7] 31 (0, 0))) ∧ Aside0 (wc.heap[gb420]? = some (.cells #[.int .i64 a2_0, (.slice A2_1 l2_1.length c2_1)] 33 (0, 0))) ∧ Aside0 (wc.heap[gb470]? = some (.cells #[.int .i64 t458, .int .i64 t459, .int .i64 t460, (.slice Ao65 t461.length co65), (.slice Ao66 t464.length co66), (.slice Ao67 t467.length co67)] 41 (0, 0))) ∧ Aside0 (wc.heap[gb485]? = some (.cells #[(.slice Ao71 t471.length co71), (.slice Ao77 t474.length co77), (.slice Ao78 t477.length co78), .int .i64 t480, .int .i64 t481, .int .i64 t482, .int .i64 t483, .int .i64 t484] 45 (0, 0))) ∧ Aside0 (wc.heap[gb490]? = some (.cells #[.int .i64 t486, (.slice Ao88 t487.length co88)] 47 (0, 0))) ∧ Aside0 (Below w.heap.size w wc))
          case first =>
           have H := HC105.out
           clear HC105
           by_cases c122 : t528 = true
           ·subst c122
            have H1 : (laws_FnExactDestinationSums.j2 kj37 a3 t454 t457 t491 t494 a0_0 a0_1 a0_2 l0_3 l0_4 l0_5 l1_0 l1_1 l1_2 a1_3 a1_4 a1_5 a1_6 a1_7 a2_0 l2_1 t458 t459 t460 t461 t464 t467 t471 t474 t477 t480 t481 t482 t483 t484 t486 t487) = some r := by rw [if_pos rfl] at H; exact H
            clear H
            have H := H1
            clear H1
            have H' := m_ H
            clear H
            go_wp2
            go_meet
            case rel => exact ⟨_, H', ⟨by have := HJ5.out; have := HJ37.out; first | omega | exact Nat.le_refl _⟩, ⟨by exact rRx0 (mox0 HO_10.out)⟩, ⟨by exact rRx0 (mox0 HO_15.out)⟩, ⟨by exact rRx0 (mox0 HO_471003.out)⟩, ⟨by exact rRx0 (mox0 HO_471004.out)⟩, ⟨by exact rRx0 (mox0 HO_471005.out)⟩, ⟨by (with_reducible repeat (first | apply Kd.S_alloc | apply Kd.S_drewN | apply Kd.S_drew)); exact Kd.S_mono HO_486000.out (fun _ hk => ⟨hk.1.1.1.1.1.1.1.1, ⟨hk.1.1.1.1.1.1.1.2.1, ⟨hk.1.1.1.1.1.1.1.2.2.1, ⟨hk.1.1.1.1.1.1.1.2.2.2.1, ⟨hk.1.1.1.1.1.1.1.2.2.2.2.1, ⟨hk.1.1.1.1.1.1.1.2.2.2.2.2.1, ⟨hk.1.1.1.1.1.1.1.2.2.2.2.2.2.1, hk.1.1.1.1.1.1.1.2.2.2.2.2.2.2⟩⟩⟩⟩⟩⟩⟩)⟩, ⟨by exact rRx0 (mox0 HO_486001.out)⟩, ⟨by exact rRx0 (mox0 HO_486002.out)⟩, ⟨by exact rRx0 (mox0 HO_491001.out)⟩, ⟨rBx0 BK418.out⟩, ⟨rBx0 BK419.out⟩, ⟨rBx0 BK420.out⟩, ⟨rBx0 BK470.out⟩, ⟨rBx0 BK485.out⟩, ⟨rBx0 BK490.out⟩, ⟨be6x0 HB.out GE418.out GE419.out GE420.out GE470.out GE485.out GE490.out⟩⟩
           ·replace c122 := Bool.eq_false_iff.mpr c122
            subst c122
            have H1 : (some false) = some r := by rw [if_neg (show ¬ (false = true) by decide)] at H; exact H
            clear H
            have H := H1
            clear H1
            exact absurd (H.trans (congrArg some hrt.out)) (by simp)
          case rest =>
           clear HC105
           try clear c122
           obtain ⟨kq, HA, HJ104, HO_10, HO_15, HO_471003, HO_471004, HO_471005, HO_486000, HO_486001, HO_486002, HO_491001, BK418, BK419, BK420, BK470, BK485, BK490, HB⟩ := hcut
           cases kq with
           | zero => exact absurd HA.out (by simp [laws_FnExactDestinationSums.j2])
           | succ kj104 =>
            have H := HA.out
            clear HA
            simp only [laws_FnExactDestinationSums.j2] at H
            replace H := Option.bind_eq_some_iff.mp H
            obtain ⟨⟨t529, t530, t531, t532⟩, A1230, H⟩ := H
            (try dsimp only at H)
            have A123 := m_ A1230
            clear A1230
            replace H := Option.bind_eq_some_iff.mp H
            obtain ⟨⟨t533, t534, t535, t536⟩, A1240, H⟩ := H
            (try dsimp only at H)
            have A124 := m_ A1240
            clear A1240
            replace H := Option.bind_eq_some_iff.mp H
            obtain ⟨⟨t537, t538⟩, A1250, H⟩ := H
            (try dsimp only at H)
            have A125 := m_ A1250
            clear A1250
            have HC126 := m_ H
            clear H
            have hnb127 := NB470_418.out
            have hnc127 := NB418_470.out
            have hnb128 := NB470_419.out
            have hnc128 := NB419_470.out
            have hnb129 := NB470_420.out
            have hnc129 := NB420_470.out
            have hnb130 := NB470_485.out
            have hnc130 := NB485_470.out
            have hnb131 := NB470_490.out
            have hnc131 := NB490_470.out
            obtain ⟨hcz132_0, hcz132_1, hcz132_2, hcz132_3, hcz132_4, hcz132_5, hfz132_0, hfz132_1, hfz132_2, hfz132_3, hfz132_4, hfz132_5⟩ := cf6x0 BK470.out
            go_upto_region 28 with (first | ((with_reducible refine gate_callee (f := 17) rfl ?_); refine gLx0 (some 88) Try.func17 #[.agg #[.int .i64 t458, .int .i64 t459, .int .i64 t460, .slice Ao65 t461.length co65, .slice Ao66 t464.length co66, .slice Ao67 t467.length co67], .int .i64 1] ?_; (with_reducible refine (laws_markModel.calls kj104 t458 t459 t460 (fun k_ => some k_ = (.slice Ao65 t461.length co65 : Value).ownBlock) (.slice Ao65 t461.length co65) t461 (fun k_ => some k_ = (.slice Ao66 t464.length co66 : Value).ownBlock) (.slice Ao66 t464.length co66) t464 (fun k_ => some k_ = (.slice Ao67 t467.length co67 : Value).ownBlock) (.slice Ao67 t467.length co67) t467 1 t529 t530 t531 t532 w _ ?side1 ?side2 ?side3 ?side4 ?side5 ?side6 ?side7 ?side8 ?side9 ?side10 A123.out).mono ?_); (case side1 => exact be6x0 HB.out GE418.out GE419.out GE420.out GE470.out GE485.out GE490.out); (case side2 => exact Kd.R_tight rfl HO_471003.out); (case side3 => exact fun k_ e_ => (HO_471003.out.1 k_ e_.symm).2.2.1); (case side4 => exact fun k_ e_ => (HO_471003.out.1 k_ e_.symm).2.2.2.1); (case side5 => exact Kd.R_tight rfl HO_471004.out); (case side6 => exact fun k_ e_ => (HO_471004.out.1 k_ e_.symm).2.2.1); (case side7 => exact fun k_ e_ => (HO_471004.out.1 k_ e_.symm).2.2.2.1); (case side8 => exact Kd.R_tight rfl HO_471005.out); (case side9 => exact fun k_ e_ => (HO_471005.out.1 k_ e_.symm).2.2.1); (case side10 => exact fun k_ e_ => (HO_471005.out.1 k_ e_.symm).2.2.2.1); rintro e w133 ⟨rfl, hy0, hy1, hy2, hb, hkp⟩; refine ⟨_, rfl, ?_⟩; replace HO_10 := kmR HO_10 hkp; replace HO_15 := kmR HO_15 hkp; replace HO_486001 := kmR HO_486001 hkp; replace HO_486002 := kmR HO_486002 hkp; replace HO_491001 := kmR HO_491001 hkp; replace HO_486000 := kmS HO_486000 hkp; replace BK418 := bk3 BK418 hkp HO_471003 HO_471004 HO_471005; replace BK419 := bk3 BK419 hkp HO_471003 HO_471004 HO_471005; replace BK420 := bk3 BK420 hkp HO_471003 HO_471004 HO_471005; replace BK485 := bk3 BK485 hkp HO_471003 HO_471004 HO_471005; replace BK490 := bk3 BK490 hkp HO_471003 HO_471004 HO_471005; clear HO_471003 HO_471004 HO_471005 BK470; replace HB := m_ hb; (try clear hb); (try clear hkp); (try clear hy0); (try clear hy1); (try clear hy2); have hnb134 := NB485_418.out; have hnc134 := NB418_485.out; have hnb135 := NB485_419.out; have hnc135 := NB419_485.out; have hnb136 := NB485_420.out; have hnc136 := NB420_485.out; have hnb137 := NB485_490.out; have hnc137 := NB490_485.out; obtain ⟨hcz138_0, hcz138_1, hcz138_2, hcz138_3, hcz138_4, hcz138_5, hcz138_6, hcz138_7, hfz138_0, hfz138_1, hfz138_2, hfz138_3, hfz138_4, hfz138_5, hfz138_6, hfz138_7⟩ := cf8x0 BK485.out) | ((with_reducible refine gate_callee (f := 18) rfl ?_); refine gLx0 (some 91) Try.func18 #[.agg #[.slice Ao71 t471.length co71, .slice Ao77 t474.length co77, .slice Ao78 t477.length co78, .int .i64 t480, .int .i64 t481, .int .i64 t482, .int .i64 t483, .int .i64 t484], .int .i64 t529] ?_; (with_reducible refine (laws_markJob.callsp kj104 (fun k_ => ((((some k_ ≠ (v455 : Value).ownBlock ∧ some k_ ≠ (v492 : Value).ownBlock ∧ some k_ ≠ (.slice Ao65 t461.length co65 : Value).ownBlock ∧ some k_ ≠ (.slice Ao66 t464.length co66 : Value).ownBlock ∧ some k_ ≠ (.slice Ao67 t467.length co67 : Value).ownBlock ∧ some k_ ≠ (.slice Ao77 t474.length co77 : Value).ownBlock ∧ some k_ ≠ (.slice Ao78 t477.length co78 : Value).ownBlock ∧ some k_ ≠ (.slice Ao88 t487.length co88 : Value).ownBlock) ∧ k_ ≠ gb418) ∧ k_ ≠ gb419) ∧ k_ ≠ gb420) ∧ k_ ≠ gb490) (fun k_ => some k_ = (.slice Ao77 t474.length co77 : Value).ownBlock) (fun k_ => some k_ = (.slice Ao78 t477.length co78 : Value).ownBlock) (.slice Ao71 t471.length co71) (.slice Ao77 t474.length co77) (.slice Ao78 t477.length co78) t471 t474 t477 t480 t481 t482 t483 t484 t529 t533 t534 t535 t536 w _ ?side1 ?side2 ?side3 ?side4 ?side5 ?side6 ?side7 A124.out).mono ?_); (case side1 => exact be6x0 HB.out GE418.out GE419.out GE420.out GE470.out GE485.out GE490.out); (case side2 => (with_reducible repeat (first | apply Kd.S_alloc | apply Kd.S_drewN | apply Kd.S_drew)); exact Kd.S_types (Kd.S_types (Kd.S_types (Kd.S_types HO_486000.out BK418.out (by decide)) BK419.out (by decide)) BK420.out (by decide)) BK490.out (by decide)); (case side3 => (with_reducible repeat (first | apply Kd.R_alloc | apply Kd.R_drewN | apply Kd.R_drew)); exact Kd.R_tight rfl HO_486001.out); (case side4 => (with_reducible repeat (first | apply Kd.R_alloc | apply Kd.R_drewN | apply Kd.R_drew)); exact Kd.R_tight rfl HO_486002.out); (case side5 => exact fun k_ e_ hp_ => hp_.1.1.1.1.2.2.2.2.2.1 e_); (case side6 => exact fun k_ e_ hp_ => hp_.1.1.1.1.2.2.2.2.2.2.1 e_); (case side7 => exact fun k_ e_ f_ => (HO_486001.out.1 k_ f_.symm).2.2.2.2.2.1 e_); rintro e w139 ⟨rfl, hy0, hy1, hy2, hb, hkp⟩; refine ⟨_, rfl, ?_⟩; replace HO_10 := kmT HO_10 hkp; replace HO_15 := kmT HO_15 hkp; replace HO_491001 := kmT HO_491001 hkp; replace BK418 := bkJ BK418 hkp HO_486001 HO_486002; replace BK419 := bkJ BK419 hkp HO_486001 HO_486002; replace BK420 := bkJ BK420 hkp HO_486001 HO_486002; replace BK490 := bkJ BK490 hkp HO_486001 HO_486002; clear HO_486000 HO_486001 HO_486002 BK485; replace HB := m_ hb; (try clear hb); (try clear hkp); (try clear hy0); (try clear hy1); (try clear hy2); have hnb140 := NB490_418.out; have hnc140 := NB418_490.out; have hnb141 := NB490_419.out; have hnc141 := NB419_490.out; have hnb142 := NB490_420.out; have hnc142 := NB420_490.out; obtain ⟨hcz143_0, hcz143_1, hfz143_0, hfz143_1⟩ := cf2x0 BK490.out) | ((with_reducible refine gate_callee (f := 19) rfl ?_); refine gLx0 (some 94) Try.func19 #[.agg #[.int .i64 t486, .slice Ao88 t487.length co88], .int .i64 t533] ?_; (with_reducible refine (laws_markPlan.calls kj104 t486 (fun k_ => some k_ = (.slice Ao88 t487.length co88 : Value).ownBlock) (.slice Ao88 t487.length co88) t487 t533 t537 t538 w _ ?side1 ?side2 A125.out).mono ?_); (case side1 => exact be6x0 HB.out GE418.out GE419.out GE420.out GE470.out GE485.out GE490.out); (case side2 => exact Kd.R_tight rfl HO_491001.out); rintro e w144 ⟨rfl, hy0, hb, hkp⟩; refine ⟨_, rfl, ?_⟩; replace HO_10 := kmR HO_10 hkp; replace HO_15 := kmR HO_15 hkp; replace BK418 := bk1 BK418 hkp HO_491001; replace BK419 := bk1 BK419 hkp HO_491001; replace BK420 := bk1 BK420 hkp HO_491001; clear HO_491001 BK490; replace HB := m_ hb; (try clear hb); (try clear hkp); (try clear hy0); (try clear hy1); (try clear hy2)))
            (try simp only [Act.put, List.setIfInBounds_toArray, List.set_cons_zero, List.set_cons_succ])
            go_cut [107] (fun v107 wc => ∃ (kq : Nat) (x107_125 : Bool), v107 = .bool x107_125 ∧ Aside0 (laws_FnExactDestinationSums.j3 kq a3 t454 t457 t491 x107_125 a0_0 a0_1 a0_2 l0_3 l0_4 l0_5 l1_0 l1_1 l1_2 a1_3 a1_4 a1_5 a1_6 a1_7 a2_0 l2_1 = some r) ∧ Aside0 (kq ≤ kj104) ∧ Aside0 (Kd.R (Kd.int .i64) 3 wc w.heap.size (fun k_ => some k_ ≠ (v492 : Value).ownBlock ∧ some k_ ≠ ((.slice Ao65 t461.length co65) : Value).ownBlock ∧ some k_ ≠ ((.slice Ao66 t464.length co66) : Value).ownBlock ∧ some k_ ≠ ((.slice Ao67 t467.length co67) : Value).ownBlock ∧ some k_ ≠ ((.slice Ao77 t474.length co77) : Value).ownBlock ∧ some k_ ≠ ((.slice Ao78 t477.length co78) : Value).ownBlock ∧ some k_ ≠ ((.slice Ao88 t487.length co88) : Value).ownBlock) v455 t454) ∧ Aside0 (Kd.R (Kd.int .i64) 3 wc w.heap.size (fun k_ => some k_ ≠ (v455 : Value).ownBlock ∧ some k_ ≠ ((.slice Ao65 t461.length co65) : Value).ownBlock ∧ some k_ ≠ ((.slice Ao66 t464.length co66) : Value).ownBlock ∧ some k_ ≠ ((.slice Ao67 t467.length co67) : Value).ownBlock ∧ some k_ ≠ ((.slice Ao77 t474.length co77) : Value).ownBlock ∧ some k_ ≠ ((.slice Ao78 t477.length co78) : Value).ownBlock ∧ some k_ ≠ ((.slice Ao88 t487.length co88) : Value).ownBlock) v492 t491) ∧ Aside0 (wc.heap[gb418]? = some (.cells #[.int .i64 a0_0, .int .i64 a0_1, .int .i64 a0_2, (.slice A0_3 l0_3.length c0_3), (.slice A0_4 l0_4.length c0_4), (.slice A0_5 l0_5.length c0_5)] 26 (0, 0))) ∧ Aside0 (wc.heap[gb419]? = some (.cells #[(.slice A1_0 l1_0.length c1_0), (.slice A1_1 l1_1.length c1_1), (.slice A1_2 l1_2.length c1_2), .int .i64 a1_3, .int .i64 a1_4, .int .i64 a1_5, .int .i64 a1_6, .int .i64 a1_7] 31 (0, 0))) ∧ Aside0 (wc.heap[gb420]? = some (.cells #[.int .i64 a2_0, (.slice A2_1 l2_1.length c2_1)] 33 (0, 0))) ∧ Aside0 (Below w.heap.size w wc))
            case first =>
             have H := HC126.out
             clear HC126
             by_cases c145 : t537 < 0
             ·rw [if_pos c145] at H
              have c145b0 := decide_eq_true c145
              clear c145
              (first | rw [c145b0] | (simp only [i64_w, i32_w]; rw [c145b0]) | skip)
              exact absurd (H.trans (congrArg some hrt.out)) (by generalize kj104 = k_; cases k_ <;> simp [laws_FnExactDestinationSums.j3])
             ·rw [if_neg c145] at H
              have c145b0 := decide_eq_false c145
              clear c145
              (first | rw [c145b0] | (simp only [i64_w, i32_w]; rw [c145b0]) | skip)
              replace H := Option.bind_eq_some_iff.mp H
              obtain ⟨t539, A1460, H⟩ := H
              have A146 := m_ A1460
              clear A1460
              by_cases c147 : t539 = true
              ·subst c147
               have H1 : (laws_FnExactDestinationSums.j3 kj104 a3 t454 t457 t491 (t494 != t457) a0_0 a0_1 a0_2 l0_3 l0_4 l0_5 l1_0 l1_1 l1_2 a1_3 a1_4 a1_5 a1_6 a1_7 a2_0 l2_1) = some r := by rw [if_pos rfl] at H; exact H
               clear H
               have H := H1
               clear H1
               have H' := m_ H
               clear H
               obtain ⟨Ao148, co148, eo148⟩ := Kd.R_slice HO_15.out
               subst eo148
               obtain ⟨Ao149, co149, eo149⟩ := Kd.R_slice HO_10.out
               subst eo149
               go_wp2_with (first | (go_at_call 13; (with_reducible refine (laws_eqIntS.calls kj104 _ _ t491 _ _ t454 true _ ?side1 ?side2 ?side3 ?side4 A146.out).mono ?_); (case side1 => exact cRx0 HO_15.out); (case side2 => exact (Kd.R_reads' HO_15.out).2.1); (case side3 => exact cRx0 HO_10.out); (case side4 => exact (Kd.R_reads' HO_10.out).2.1); rintro e w' ⟨rfl, ⟨nd, rfl⟩⟩))
               go_meet
               case rel => exact ⟨_, ((t494 != t457)), frx0, H', ⟨by have := HJ5.out; have := HJ37.out; have := HJ104.out; first | omega | exact Nat.le_refl _⟩, ⟨rRx0 HO_10.out⟩, ⟨rRx0 HO_15.out⟩, ⟨rBx0 BK418.out⟩, ⟨rBx0 BK419.out⟩, ⟨rBx0 BK420.out⟩, ⟨be6x0 HB.out GE418.out GE419.out GE420.out GE470.out GE485.out GE490.out⟩⟩
              ·replace c147 := Bool.eq_false_iff.mpr c147
               subst c147
               have H1 : (laws_FnExactDestinationSums.j3 kj104 a3 t454 t457 t491 true a0_0 a0_1 a0_2 l0_3 l0_4 l0_5 l1_0 l1_1 l1_2 a1_3 a1_4 a1_5 a1_6 a1_7 a2_0 l2_1) = some r := by rw [if_neg (show ¬ (false = true) by decide)] at H; exact H
               clear H
               have H := H1
               clear H1
               exact absurd (H.trans (congrArg some hrt.out)) (by generalize kj104 = k_; cases k_ <;> simp [laws_FnExactDestinationSums.j3])
            case rest =>
             clear HC126
             try clear c145; try clear c145b0; try clear c147; try clear hcz132_0 hcz132_1 hcz132_2 hcz132_3 hcz132_4 hcz132_5; try clear hcz138_0 hcz138_1 hcz138_2 hcz138_3 hcz138_4 hcz138_5 hcz138_6 hcz138_7; try clear hcz143_0 hcz143_1; try clear hfz132_0 hfz132_1 hfz132_2 hfz132_3 hfz132_4 hfz132_5; try clear hfz138_0 hfz138_1 hfz138_2 hfz138_3 hfz138_4 hfz138_5 hfz138_6 hfz138_7; try clear hfz143_0 hfz143_1
             obtain ⟨kq, x107_125, rfl, HA, HJ125, HO_10, HO_15, BK418, BK419, BK420, HB⟩ := hcut
             cases kq with
             | zero => exact absurd HA.out (by simp [laws_FnExactDestinationSums.j3])
             | succ kj125 =>
              have H := HA.out
              clear HA
              simp only [laws_FnExactDestinationSums.j3] at H
              by_cases c150 : x107_125 = true
              ·subst c150
               have H1 : (some false) = some r := by rw [if_pos rfl] at H; exact H
               clear H
               have H := H1
               clear H1
               exact absurd (H.trans (congrArg some hrt.out)) (by simp)
              ·replace c150 := Bool.eq_false_iff.mpr c150
               subst c150
               have H1 : ((laws_markIntS.f kj125 t491 1).bind fun bt540 => ((laws_heldIntS.f kj125 bt540.2 1).bind fun t542 => (if t542 < 0 then (some false) else (if t542 = bt540.1 then ((laws_toModel.f kj125 a0_0 a0_1 a0_2 l0_3 l0_4 l0_5).bind fun bt543 => ((laws_toJob.f kj125 l1_0 l1_1 l1_2 a1_3 a1_4 a1_5 a1_6 a1_7).bind fun bt555 => ((laws_toPlan.f kj125 a2_0 l2_1).bind fun bt569 => ((impl_DestinationSums.f kj125 bt543.1 bt543.2.1 bt543.2.2.1 bt543.2.2.2.1 bt543.2.2.2.2.1 bt543.2.2.2.2.2 bt555.1 bt555.2.1 bt555.2.2.1 bt555.2.2.2.1 bt555.2.2.2.2.1 bt555.2.2.2.2.2.1 bt555.2.2.2.2.2.2.1 bt555.2.2.2.2.2.2.2 bt569.1 bt569.2 a3).bind fun bt573 => ((laws_eqIntS.f kj125 bt573.1 t454).bind fun t577 => (if t577 = true then (laws_FnExactDestinationSums.j4 kj125 bt540.2 bt540.1 (bt573.2 != t457)) else (laws_FnExactDestinationSums.j4 kj125 bt540.2 bt540.1 true))))))) else (some false))))) = some r := by rw [if_neg (show ¬ (false = true) by decide)] at H; exact H
               clear H
               have H := H1
               clear H1
               replace H := Option.bind_eq_some_iff.mp H
               obtain ⟨⟨t540, t541⟩, A1510, H⟩ := H
               (try dsimp only at H)
               have A151 := m_ A1510
               clear A1510
               replace H := Option.bind_eq_some_iff.mp H
               obtain ⟨t542, A1520, H⟩ := H
               have A152 := m_ A1520
               clear A1520
               by_cases c153 : t542 < 0
               ·rw [if_pos c153] at H
                have c153b0 := decide_eq_true c153
                clear c153
                exact absurd (H.trans (congrArg some hrt.out)) (by simp)
               ·rw [if_neg c153] at H
                have c153b0 := decide_eq_false c153
                clear c153
                by_cases c154 : t542 = t540
                ·rw [if_pos c154] at H
                 have c154b0 : (t542 == t540) = true := beq_iff_eq.mpr c154
                 have c154b1 : (t542 != t540) = false := bne_eq_false_iff_eq.mpr c154
                 clear c154
                 replace H := Option.bind_eq_some_iff.mp H
                 obtain ⟨⟨t543, t544, t545, t546, t549, t552⟩, A1550, H⟩ := H
                 (try dsimp only at H)
                 have A155 := m_ A1550
                 clear A1550
                 replace H := Option.bind_eq_some_iff.mp H
                 obtain ⟨⟨t555, t558, t561, t564, t565, t566, t567, t568⟩, A1560, H⟩ := H
                 (try dsimp only at H)
                 have A156 := m_ A1560
                 clear A1560
                 replace H := Option.bind_eq_some_iff.mp H
                 obtain ⟨⟨t569, t570⟩, A1570, H⟩ := H
                 (try dsimp only at H)
                 have A157 := m_ A1570
                 clear A1570
                 replace H := Option.bind_eq_some_iff.mp H
                 obtain ⟨⟨t573, t576⟩, A1580, H⟩ := H
                 (try dsimp only at H)
                 have A158 := m_ A1580
                 clear A1580
                 have HC159 := m_ H
                 clear H
                 obtain ⟨Ao160, co160, eo160⟩ := Kd.R_slice HO_15.out
                 subst eo160
                 try go_wp2_with (first | ((with_reducible refine gate_callee (f := 20) rfl ?_); refine gLx0 (some 110) Try.func20 #[.slice Ao160 t491.length co160, .int .i64 1] ?_; (with_reducible refine (laws_markIntS.calls kj125 (fun k_ => some k_ = (.slice Ao160 t491.length co160 : Value).ownBlock) (.slice Ao160 t491.length co160) t491 1 t540 t541 w _ ?side1 ?side2 A151.out).mono ?_); (case side1 => exact be6x0 HB.out GE418.out GE419.out GE420.out GE470.out GE485.out GE490.out); (case side2 => exact Kd.R_tight rfl HO_15.out); rintro e w161 ⟨rfl, hy0, hb, hkp⟩; refine ⟨_, rfl, ?_⟩; replace HO_10 := kmR HO_10 hkp; replace BK418 := bk1 BK418 hkp HO_15; replace BK419 := bk1 BK419 hkp HO_15; replace BK420 := bk1 BK420 hkp HO_15; replace HO_15 := m_ (Kd.R_reok rfl hy0 (fun k_ e_ => HO_15.out.1 k_ e_)); replace HB := m_ hb; (try clear hb); (try clear hkp); (try clear hy0); (try clear hy1); (try clear hy2)) | ((with_reducible refine gate_callee (f := 21) rfl ?_); refine goesL_ (some 113) rfl rfl Try.func21 (by kernel_rfl) rfl #[.slice Ao160 t541.length co160, .int .i64 1] rfl (by (try simp only [List.map_toArray, List.map_cons, List.map_nil]); first | done | (rw [show t541.length = t491.length from (Kd.R_reads' HO_15.out).1.symm] <;> rfl) | rfl | (simp only [List.length_drop, List.length_take]; rfl)) ?_; (with_reducible refine (laws_heldIntS.calls kj125 _ _ t541 1 t542 _ ?side1 ?side2 A152.out).mono ?_); (case side1 => exact cRx0 HO_15.out); (case side2 => rw [show t541.length = t491.length from (Kd.R_reads' HO_15.out).1.symm]; exact (Kd.R_reads' HO_15.out).2.1); rintro e w' ⟨rfl, ⟨nd, rfl⟩⟩; refine ⟨_, rfl, ?_⟩))
                 (try (rw [drewN_self w161]; generalize hq_ : World.drewN w161 _ = w161; replace HO_10 := dnR HO_10 hq_; replace HO_15 := dnR HO_15 hq_; replace BK418 := dnB BK418 hq_; replace BK419 := dnB BK419 hq_; replace BK420 := dnB BK420 hq_; replace HB := dnH HB hq_; clear hq_))
                 replace HO_10 := m_ (Kd.R_drew HO_10.out)
                 replace HO_15 := m_ (Kd.R_drew HO_15.out)
                 replace BK418 := m_ (blk_drew BK418.out)
                 replace BK419 := m_ (blk_drew BK419.out)
                 replace BK420 := m_ (blk_drew BK420.out)
                 replace HB := m_ (below_drew1 HB.out)
                 refine start_ (n := 13) (S := fun w' => w'.cell? ⟨gb418, 0, none⟩ = some (.int .i64 a0_0) ∧ w'.cell? ⟨gb418, 1, none⟩ = some (.int .i64 a0_1) ∧ w'.cell? ⟨gb418, 2, none⟩ = some (.int .i64 a0_2) ∧ w'.cell? ⟨gb418, 3, none⟩ = some (.slice A0_3 l0_3.length c0_3) ∧ w'.cell? ⟨gb418, 4, none⟩ = some (.slice A0_4 l0_4.length c0_4) ∧ w'.cell? ⟨gb418, 5, none⟩ = some (.slice A0_5 l0_5.length c0_5) ∧ w'.cell? ⟨gb419, 0, none⟩ = some (.slice A1_0 l1_0.length c1_0) ∧ w'.cell? ⟨gb419, 1, none⟩ = some (.slice A1_1 l1_1.length c1_1) ∧ w'.cell? ⟨gb419, 2, none⟩ = some (.slice A1_2 l1_2.length c1_2) ∧ w'.cell? ⟨gb419, 3, none⟩ = some (.int .i64 a1_3) ∧ w'.cell? ⟨gb419, 4, none⟩ = some (.int .i64 a1_4) ∧ w'.cell? ⟨gb419, 5, none⟩ = some (.int .i64 a1_5) ∧ w'.cell? ⟨gb419, 6, none⟩ = some (.int .i64 a1_6) ∧ w'.cell? ⟨gb419, 7, none⟩ = some (.int .i64 a1_7) ∧ w'.cell? ⟨gb420, 0, none⟩ = some (.int .i64 a2_0) ∧ w'.cell? ⟨gb420, 1, none⟩ = some (.slice A2_1 l2_1.length c2_1)) (ds := []) (tf_ 0 13) (by kernel_rfl) rfl rfl (ca6x0 BK418.out (ca8x0 BK419.out (cc2x0 BK420.out))) (fun hHeld => ?_); refine with_tabW laws_FnExactDestinationSums.tab38 laws_FnExactDestinationSums.bits38 (fun HT_ HW_ => ?_)
                 generalize w161.drew = w162 at HO_10 HO_15 BK418 BK419 BK420 HB hHeld ⊢
                 refine pv_ 6 126 #[false, false, false, false, false, false, true, false, false, false, false, false, false] HT_ ?_
                 refine take_ (i := 0) (N := some 120) (v := ?_) (a' := ?_) #[true, false, false, false, false, false, true, false, false, false, false, false, false] rfl rfl (take_ofW HT_.out HW_.out (by kernel_rfl)) (fun _ _ _ h => h) (Or.inl ⟨by rfl, ?_⟩) hHeld ?_ ?_
                 rotate_left
                 ·rintro w' ⟨s0, s1, s2, s3, s4, s5, s6, s7, s8, s9, s10, s11, s12, s13, s14, s15⟩
                  go_simp
                  with_reducible rfl
                 rotate_left
                 ·simp only [Act.put, List.setIfInBounds_toArray, List.set_cons_zero, List.set_cons_succ, i64_w, i32_w]
                  rfl
                 refine take_ (i := 2) (N := some 122) (v := ?_) (a' := ?_) #[true, false, true, false, false, false, true, false, false, false, false, false, false] rfl rfl (take_ofW HT_.out HW_.out (by kernel_rfl)) (fun _ _ _ h => h) (Or.inl ⟨by rfl, ?_⟩) hHeld ?_ ?_
                 rotate_left
                 ·rintro w' ⟨s0, s1, s2, s3, s4, s5, s6, s7, s8, s9, s10, s11, s12, s13, s14, s15⟩
                  go_simp
                  with_reducible rfl
                 rotate_left
                 ·simp only [Act.put, List.setIfInBounds_toArray, List.set_cons_zero, List.set_cons_succ, i64_w, i32_w]
                  rfl
                 refine take_ (i := 4) (N := some 124) (v := ?_) (a' := ?_) #[true, false, true, false, true, false, true, false, false, false, false, false, false] rfl rfl (take_ofW HT_.out HW_.out (by kernel_rfl)) (fun _ _ _ h => h) (Or.inl ⟨by rfl, ?_⟩) hHeld ?_ ?_
                 rotate_left
                 ·rintro w' ⟨s0, s1, s2, s3, s4, s5, s6, s7, s8, s9, s10, s11, s12, s13, s14, s15⟩
                  go_simp
                  with_reducible rfl
                 rotate_left
                 ·simp only [Act.put, List.setIfInBounds_toArray, List.set_cons_zero, List.set_cons_succ, i64_w, i32_w]
                  rfl
                 refine one_ (i := 1) (N := some 121) #[true, true, true, false, true, false, true, false, false, false, false, false, false] rfl rfl (one_of HT_.out (by kernel_rfl)) (by decide) (fun K hK => ?_)
                 refine goes_ Try.func9 (by kernel_rfl) rfl #[.agg #[.int .i64 a0_0, .int .i64 a0_1, .int .i64 a0_2, .slice A0_3 l0_3.length c0_3, .slice A0_4 l0_4.length c0_4, .slice A0_5 l0_5.length c0_5]] (by rfl) rfl rfl mpx0 ?_
                 with_reducible refine (laws_toModel.calls kj125 a0_0 a0_1 a0_2 _ _ l0_3 _ _ l0_4 _ _ l0_5 t543 t544 t545 t546 t549 t552 _ ?side1 ?side2 ?side3 ?side4 ?side5 ?side6 A155.out).mono ?_
                 (case side1 => exact rCx0 (Kd.C_below HR0_3.out HB.out))
                 (case side2 => exact HC0_3.out)
                 (case side3 => exact rCx0 (Kd.C_below HR0_4.out HB.out))
                 (case side4 => exact HC0_4.out)
                 (case side5 => exact rCx0 (Kd.C_below HR0_5.out HB.out))
                 (case side6 => exact HC0_5.out)
                 rintro e w163 ⟨v547, v550, v553, rfl, ho0, ho1, ho2, hb⟩
                 refine ⟨_, rfl, ?_⟩
                 have HO548 := m_ (Kd.R_lower (nwx0 (nwx0 ho0 (rRx0 HO_10.out)) (rRx0 HO_15.out)) (below_size (be6x0 HB.out GE418.out GE419.out GE420.out GE470.out GE485.out GE490.out)))
                 have HO551 := m_ (Kd.R_lower (nwx0 (nwx0 ho1 (rRx0 HO_10.out)) (rRx0 HO_15.out)) (below_size (be6x0 HB.out GE418.out GE419.out GE420.out GE470.out GE485.out GE490.out)))
                 have HO554 := m_ (Kd.R_lower (nwx0 (nwx0 ho2 (rRx0 HO_10.out)) (rRx0 HO_15.out)) (below_size (be6x0 HB.out GE418.out GE419.out GE420.out GE470.out GE485.out GE490.out)))
                 replace HO_10 := m_ (kp3x0 (rRx0 HO_10.out) hb ho0 ho1 ho2)
                 replace HO_15 := m_ (kp3x0 (rRx0 HO_15.out) hb ho0 ho1 ho2)
                 replace BK418 := kbx0 BK418 hb
                 replace BK419 := kbx0 BK419 hb
                 replace BK420 := kbx0 BK420 hb
                 replace HB := m_ (below_step (be6x0 HB.out GE418.out GE419.out GE420.out GE470.out GE485.out GE490.out) hb)
                 (try clear hb)
                 (try clear hb2)
                 (try clear hk)
                 (try clear hi)
                 (try clear ho0)
                 (try clear ho1)
                 (try clear ho2)
                 refine hK.out _ _ (ca6x0 BK418.out (ca8x0 BK419.out (cc2x0 BK420.out))) (fun hHeld => ?_)
                 clear hK K
                 refine norm_ (a' := ?_) ?_ ?_
                 rotate_left
                 ·show Act.put _ (some 121) _ = _
                  simp only [Act.put, List.setIfInBounds_toArray, List.set_cons_zero, List.set_cons_succ, i64_w, i32_w]
                  rfl
                 refine one_ (i := 3) (N := some 123) #[true, true, true, true, true, false, true, false, false, false, false, false, false] rfl rfl (one_of HT_.out (by kernel_rfl)) (by decide) (fun K hK => ?_)
                 refine goes_ Try.func10 (by kernel_rfl) rfl #[.agg #[.slice A1_0 l1_0.length c1_0, .slice A1_1 l1_1.length c1_1, .slice A1_2 l1_2.length c1_2, .int .i64 a1_3, .int .i64 a1_4, .int .i64 a1_5, .int .i64 a1_6, .int .i64 a1_7]] (by rfl) rfl rfl mpx0 ?_
                 with_reducible refine (laws_toJob.calls kj125 _ _ l1_0 _ _ l1_1 _ _ l1_2 a1_3 a1_4 a1_5 a1_6 a1_7 t555 t558 t561 t564 t565 t566 t567 t568 _ ?side1 ?side2 ?side3 ?side4 ?side5 ?side6 A156.out).mono ?_
                 (case side1 => exact rCx0 (Kd.C_below HR1_0.out HB.out))
                 (case side2 => exact HC1_0.out)
                 (case side3 => exact rCx0 (Kd.C_below HR1_1.out HB.out))
                 (case side4 => exact HC1_1.out)
                 (case side5 => exact rCx0 (Kd.C_below HR1_2.out HB.out))
                 (case side6 => exact HC1_2.out)
                 rintro e w164 ⟨v556, v559, v562, rfl, ho0, ho1, ho2, hb⟩
                 refine ⟨_, rfl, ?_⟩
                 have HO557 := m_ (Kd.S_lower (Kd.S_new' (Kd.S_new' (Kd.S_new' (Kd.S_new' (Kd.S_new' ho0 (Kd.R_lt (rRx0 HO_10.out))) (Kd.R_lt (rRx0 HO_15.out))) (Kd.R_lt (rRx0 HO548.out))) (Kd.R_lt (rRx0 HO551.out))) (Kd.R_lt (rRx0 HO554.out))) (below_size (be6x0 HB.out GE418.out GE419.out GE420.out GE470.out GE485.out GE490.out)))
                 have HO560 := m_ (Kd.R_lower (nwx0 (nwx0 (nwx0 (nwx0 (nwx0 ho1 (rRx0 HO_10.out)) (rRx0 HO_15.out)) (rRx0 HO548.out)) (rRx0 HO551.out)) (rRx0 HO554.out)) (below_size (be6x0 HB.out GE418.out GE419.out GE420.out GE470.out GE485.out GE490.out)))
                 have HO563 := m_ (Kd.R_lower (nwx0 (nwx0 (nwx0 (nwx0 (nwx0 ho2 (rRx0 HO_10.out)) (rRx0 HO_15.out)) (rRx0 HO548.out)) (rRx0 HO551.out)) (rRx0 HO554.out)) (below_size (be6x0 HB.out GE418.out GE419.out GE420.out GE470.out GE485.out GE490.out)))
                 replace HO_10 := m_ (Kd.R_mono (Kd.R_told (Kd.R_told (Kd.R_old (rRx0 HO_10.out) hb) (Kd.R_base ho1)) (Kd.R_base ho2)) (fun _ h_ => h_.1))
                 replace HO_15 := m_ (Kd.R_mono (Kd.R_told (Kd.R_told (Kd.R_old (rRx0 HO_15.out) hb) (Kd.R_base ho1)) (Kd.R_base ho2)) (fun _ h_ => h_.1))
                 replace HO548 := m_ (Kd.R_mono (Kd.R_told (Kd.R_told (Kd.R_old (rRx0 HO548.out) hb) (Kd.R_base ho1)) (Kd.R_base ho2)) (fun _ h_ => h_.1))
                 replace HO551 := m_ (Kd.R_mono (Kd.R_told (Kd.R_told (Kd.R_old (rRx0 HO551.out) hb) (Kd.R_base ho1)) (Kd.R_base ho2)) (fun _ h_ => h_.1))
                 replace HO554 := m_ (Kd.R_mono (Kd.R_told (Kd.R_told (Kd.R_old (rRx0 HO554.out) hb) (Kd.R_base ho1)) (Kd.R_base ho2)) (fun _ h_ => h_.1))
                 replace BK418 := kbx0 BK418 hb
                 replace BK419 := kbx0 BK419 hb
                 replace BK420 := kbx0 BK420 hb
                 replace HB := m_ (below_step (be6x0 HB.out GE418.out GE419.out GE420.out GE470.out GE485.out GE490.out) hb)
                 (try clear hb)
                 (try clear hb2)
                 (try clear hk)
                 (try clear hi)
                 (try clear ho0)
                 (try clear ho1)
                 (try clear ho2)
                 refine hK.out _ _ (ca6x0 BK418.out (ca8x0 BK419.out (cc2x0 BK420.out))) (fun hHeld => ?_)
                 clear hK K
                 refine norm_ (a' := ?_) ?_ ?_
                 rotate_left
                 ·show Act.put _ (some 123) _ = _
                  simp only [Act.put, List.setIfInBounds_toArray, List.set_cons_zero, List.set_cons_succ, i64_w, i32_w]
                  rfl
                 refine one_ (i := 5) (N := some 125) (tf_ 7 13) rfl rfl (one_of HT_.out (by kernel_rfl)) (by decide) (fun K hK => ?_)
                 refine goes_ Try.func11 (by kernel_rfl) rfl #[.agg #[.int .i64 a2_0, .slice A2_1 l2_1.length c2_1]] (by rfl) rfl rfl mpx0 ?_
                 with_reducible refine (laws_toPlan.calls kj125 a2_0 _ _ l2_1 t569 t570 _ ?side1 ?side2 A157.out).mono ?_
                 (case side1 => exact rCx0 (Kd.C_below HR2_1.out HB.out))
                 (case side2 => exact HC2_1.out)
                 rintro e w165 ⟨v571, rfl, ho0, hb⟩
                 refine ⟨_, rfl, ?_⟩
                 replace HO557 := m_ (Kd.S_elder' (rSx0 HO557.out) (Kd.R_base ho0) hb)
                 have HO572 := m_ (Kd.R_lower (nwx0 (nwx0 (nwx0 (nwx0 (nwx0 (nwx0 (nwx0 ho0 (rRx0 HO_10.out)) (rRx0 HO_15.out)) (rRx0 HO548.out)) (rRx0 HO551.out)) (rRx0 HO554.out)) (rRx0 HO560.out)) (rRx0 HO563.out)) (below_size (be6x0 HB.out GE418.out GE419.out GE420.out GE470.out GE485.out GE490.out)))
                 replace HO_10 := m_ (Kd.R_elder' (rRx0 HO_10.out) (Kd.R_base ho0) hb)
                 replace HO_15 := m_ (Kd.R_elder' (rRx0 HO_15.out) (Kd.R_base ho0) hb)
                 replace HO548 := m_ (Kd.R_elder' (rRx0 HO548.out) (Kd.R_base ho0) hb)
                 replace HO551 := m_ (Kd.R_elder' (rRx0 HO551.out) (Kd.R_base ho0) hb)
                 replace HO554 := m_ (Kd.R_elder' (rRx0 HO554.out) (Kd.R_base ho0) hb)
                 replace HO560 := m_ (Kd.R_elder' (rRx0 HO560.out) (Kd.R_base ho0) hb)
                 replace HO563 := m_ (Kd.R_elder' (rRx0 HO563.out) (Kd.R_base ho0) hb)
                 replace BK418 := kbx0 BK418 hb
                 replace BK419 := kbx0 BK419 hb
                 replace BK420 := kbx0 BK420 hb
                 replace HB := m_ (below_step (be6x0 HB.out GE418.out GE419.out GE420.out GE470.out GE485.out GE490.out) hb)
                 (try clear hb)
                 (try clear hb2)
                 (try clear hk)
                 (try clear hi)
                 (try clear ho0)
                 obtain ⟨Ao166, co166, eo166⟩ := Kd.R_slice HO548.out
                 (first | subst eo166 | (injection eo166 with f1_ f2_ f3_; have f4_ := f1_.symm; have f5_ := f3_.symm; clear f1_ f2_ f3_; subst f4_; subst f5_))
                 obtain ⟨Ao167, co167, eo167⟩ := Kd.R_slice HO551.out
                 (first | subst eo167 | (injection eo167 with f1_ f2_ f3_; have f4_ := f1_.symm; have f5_ := f3_.symm; clear f1_ f2_ f3_; subst f4_; subst f5_))
                 obtain ⟨Ao168, co168, eo168⟩ := Kd.R_slice HO554.out
                 (first | subst eo168 | (injection eo168 with f1_ f2_ f3_; have f4_ := f1_.symm; have f5_ := f3_.symm; clear f1_ f2_ f3_; subst f4_; subst f5_))
                 obtain ⟨Ao169, co169, eo169⟩ := Kd.S_slice HO557.out
                 (first | subst eo169 | (injection eo169 with f1_ f2_ f3_; have f4_ := f1_.symm; have f5_ := f3_.symm; clear f1_ f2_ f3_; subst f4_; subst f5_))
                 obtain ⟨Ao170, co170, eo170⟩ := Kd.R_slice HO560.out
                 (first | subst eo170 | (injection eo170 with f1_ f2_ f3_; have f4_ := f1_.symm; have f5_ := f3_.symm; clear f1_ f2_ f3_; subst f4_; subst f5_))
                 obtain ⟨Ao171, co171, eo171⟩ := Kd.R_slice HO563.out
                 (first | subst eo171 | (injection eo171 with f1_ f2_ f3_; have f4_ := f1_.symm; have f5_ := f3_.symm; clear f1_ f2_ f3_; subst f4_; subst f5_))
                 obtain ⟨Ao172, co172, eo172⟩ := Kd.R_slice HO572.out
                 (first | subst eo172 | (injection eo172 with f1_ f2_ f3_; have f4_ := f1_.symm; have f5_ := f3_.symm; clear f1_ f2_ f3_; subst f4_; subst f5_))
                 refine hK.out _ _ (ca6x0 BK418.out (ca8x0 BK419.out (cc2x0 BK420.out))) (fun hHeld => ?_)
                 clear hK K
                 refine norm_ (a' := ?_) ?_ ?_
                 rotate_left
                 ·show Act.put _ (some 125) _ = _
                  simp only [Act.put, List.setIfInBounds_toArray, List.set_cons_zero, List.set_cons_succ, i64_w, i32_w]
                  rfl
                 refine one_ (i := 7) (N := some 127) (tf_ 8 13) rfl rfl (one_of HT_.out (by kernel_rfl)) (by decide) (fun K hK => ?_)
                 refine goes_ Try.func12 (by kernel_rfl) rfl #[.agg #[.int .i64 t543, .int .i64 t544, .int .i64 t545, .slice Ao166 t546.length co166, .slice Ao167 t549.length co167, .slice Ao168 t552.length co168], .agg #[.slice Ao169 t555.length co169, .slice Ao170 t558.length co170, .slice Ao171 t561.length co171, .int .i64 t564, .int .i64 t565, .int .i64 t566, .int .i64 t567, .int .i64 t568], .agg #[.int .i64 t569, .slice Ao172 t570.length co172], .int .i64 a3] (by rfl) rfl rfl mpx0 ?_
                 with_reducible refine (impl_DestinationSums.calls kj125 t543 t544 t545 _ _ t546 _ _ t549 _ _ t552 _ _ t555 _ _ t558 _ _ t561 t564 t565 t566 t567 t568 t569 _ _ t570 a3 t573 t576 _ ?side1 ?side2 ?side3 ?side4 ?side5 ?side6 ?side7 ?side8 ?side9 ?side10 ?side11 ?side12 ?side13 ?side14 A158.out).mono ?_
                 (case side1 => exact cRx0 HO548.out)
                 (case side2 => exact (Kd.R_reads' HO548.out).2.1)
                 (case side3 => exact cRx0 HO551.out)
                 (case side4 => exact (Kd.R_reads' HO551.out).2.1)
                 (case side5 => exact cRx0 HO554.out)
                 (case side6 => exact (Kd.R_reads' HO554.out).2.1)
                 (case side7 => repeat (first | exact (Kd.S_reads' HO557.out).2.2 | (with_reducible refine Kd.C_alloc ?_ _) | (with_reducible refine Kd.C_drewN ?_ _) | (with_reducible refine Kd.C_drew ?_)))
                 (case side8 => exact (Kd.S_reads' HO557.out).2.1)
                 (case side9 => exact cRx0 HO560.out)
                 (case side10 => exact (Kd.R_reads' HO560.out).2.1)
                 (case side11 => exact cRx0 HO563.out)
                 (case side12 => exact (Kd.R_reads' HO563.out).2.1)
                 (case side13 => exact cRx0 HO572.out)
                 (case side14 => exact (Kd.R_reads' HO572.out).2.1)
                 rintro e w173 ⟨v574, rfl, ho0, hb⟩
                 refine ⟨_, rfl, ?_⟩
                 replace HO557 := m_ (Kd.S_elder' (rSx0 HO557.out) (Kd.R_base ho0) hb)
                 have HO575 := m_ (Kd.R_lower (nwx0 (nwx0 (nwx0 (nwx0 (nwx0 (nwx0 (nwx0 (nwx0 ho0 (rRx0 HO_10.out)) (rRx0 HO_15.out)) (rRx0 HO548.out)) (rRx0 HO551.out)) (rRx0 HO554.out)) (rRx0 HO560.out)) (rRx0 HO563.out)) (rRx0 HO572.out)) (below_size (be6x0 HB.out GE418.out GE419.out GE420.out GE470.out GE485.out GE490.out)))
                 replace HO_10 := m_ (Kd.R_elder' (rRx0 HO_10.out) (Kd.R_base ho0) hb)
                 replace HO_15 := m_ (Kd.R_elder' (rRx0 HO_15.out) (Kd.R_base ho0) hb)
                 replace HO548 := m_ (Kd.R_elder' (rRx0 HO548.out) (Kd.R_base ho0) hb)
                 replace HO551 := m_ (Kd.R_elder' (rRx0 HO551.out) (Kd.R_base ho0) hb)
                 replace HO554 := m_ (Kd.R_elder' (rRx0 HO554.out) (Kd.R_base ho0) hb)
                 replace HO560 := m_ (Kd.R_elder' (rRx0 HO560.out) (Kd.R_base ho0) hb)
                 replace HO563 := m_ (Kd.R_elder' (rRx0 HO563.out) (Kd.R_base ho0) hb)
                 replace HO572 := m_ (Kd.R_elder' (rRx0 HO572.out) (Kd.R_base ho0) hb)
                 replace BK418 := kbx0 BK418 hb
                 replace BK419 := kbx0 BK419 hb
                 replace BK420 := kbx0 BK420 hb
                 replace HB := m_ (below_step (be6x0 HB.out GE418.out GE419.out GE420.out GE470.out GE485.out GE490.out) hb)
                 (try clear hb)
                 (try clear hb2)
                 (try clear hk)
                 (try clear hi)
                 (try clear ho0)
                 refine hK.out _ _ (ca6x0 BK418.out (ca8x0 BK419.out (cc2x0 BK420.out))) (fun hHeld => ?_)
                 clear hK K
                 refine norm_ (a' := ?_) ?_ ?_
                 rotate_left
                 ·show Act.put _ (some 127) _ = _
                  simp only [Act.put, List.setIfInBounds_toArray, List.set_cons_zero, List.set_cons_succ, i64_w, i32_w]
                  rfl
                 refine pv_ 8 119 (tf_ 9 13) HT_ ?_
                 refine pv_ 9 128 (tf_ 10 13) HT_ ?_
                 refine pv_ 10 129 (tf_ 11 13) HT_ ?_
                 refine pv_ 11 20 (tf_ 12 13) HT_ ?_
                 refine pv_ 12 21 (tf_ 13 13) HT_ ?_
                 refine done_ (done_of HT_.out (by kernel_rfl)) ?_
                 go_upto_region 39 with (fail)
                 go_cut [138] (fun v138 wc => ∃ (kq : Nat) (x138_158 : Bool), v138 = .bool x138_158 ∧ Aside0 (laws_FnExactDestinationSums.j4 kq t541 t540 x138_158 = some r) ∧ Aside0 (kq ≤ kj125) ∧ Aside0 (Kd.R (Kd.int .i64) 3 wc w.heap.size (fun k_ => some k_ ≠ ((.slice Ao65 t461.length co65) : Value).ownBlock ∧ some k_ ≠ ((.slice Ao66 t464.length co66) : Value).ownBlock ∧ some k_ ≠ ((.slice Ao67 t467.length co67) : Value).ownBlock ∧ some k_ ≠ ((.slice Ao77 t474.length co77) : Value).ownBlock ∧ some k_ ≠ ((.slice Ao78 t477.length co78) : Value).ownBlock ∧ some k_ ≠ ((.slice Ao88 t487.length co88) : Value).ownBlock) (.slice Ao160 t491.length co160) t541) ∧ Aside0 (wc.heap[gb418]? = some (.cells #[.int .i64 a0_0, .int .i64 a0_1, .int .i64 a0_2, (.slice A0_3 l0_3.length c0_3), (.slice A0_4 l0_4.length c0_4), (.slice A0_5 l0_5.length c0_5)] 26 (0, 0))) ∧ Aside0 (wc.heap[gb419]? = some (.cells #[(.slice A1_0 l1_0.length c1_0), (.slice A1_1 l1_1.length c1_1), (.slice A1_2 l1_2.length c1_2), .int .i64 a1_3, .int .i64 a1_4, .int .i64 a1_5, .int .i64 a1_6, .int .i64 a1_7] 31 (0, 0))) ∧ Aside0 (wc.heap[gb420]? = some (.cells #[.int .i64 a2_0, (.slice A2_1 l2_1.length c2_1)] 33 (0, 0))) ∧ Aside0 (Below w.heap.size w wc))
                 case first =>
                  have H := HC159.out
                  clear HC159
                  replace H := Option.bind_eq_some_iff.mp H
                  obtain ⟨t577, A1740, H⟩ := H
                  have A174 := m_ A1740
                  clear A1740
                  by_cases c175 : t577 = true
                  ·subst c175
                   have H1 : (laws_FnExactDestinationSums.j4 kj125 t541 t540 (t576 != t457)) = some r := by rw [if_pos rfl] at H; exact H
                   clear H
                   have H := H1
                   clear H1
                   have H' := m_ H
                   clear H
                   obtain ⟨Ao176, co176, eo176⟩ := Kd.R_slice HO575.out
                   subst eo176
                   obtain ⟨Ao177, co177, eo177⟩ := Kd.R_slice HO_10.out
                   subst eo177
                   go_wp2_with (first | ((with_reducible refine gate_callee (f := 13) rfl ?_); refine gLx0 (some 132) Try.func13 #[.slice Ao176 t573.length co176, .slice Ao177 t454.length co177] ?_; (with_reducible refine (laws_eqIntS.calls kj125 _ _ t573 _ _ t454 true _ ?side1 ?side2 ?side3 ?side4 A174.out).mono ?_); (case side1 => exact cRx0 HO575.out); (case side2 => exact (Kd.R_reads' HO575.out).2.1); (case side3 => exact cRx0 HO_10.out); (case side4 => exact (Kd.R_reads' HO_10.out).2.1); rintro e w' ⟨rfl, ⟨nd, rfl⟩⟩; refine ⟨_, rfl, ?_⟩))
                   go_meet
                   case rel => exact ⟨_, ((t576 != t457)), frx0, H', ⟨by have := HJ5.out; have := HJ37.out; have := HJ104.out; have := HJ125.out; first | omega | exact Nat.le_refl _⟩, ⟨by exact rRx0 (mox0 HO_15.out)⟩, ⟨by (with_reducible repeat (first | refine blk_drewN ?_ _ | refine blk_drew ?_ | refine blk_alloc ?_ _)); exact BK418.out⟩, ⟨by (with_reducible repeat (first | refine blk_drewN ?_ _ | refine blk_drew ?_ | refine blk_alloc ?_ _)); exact BK419.out⟩, ⟨by (with_reducible repeat (first | refine blk_drewN ?_ _ | refine blk_drew ?_ | refine blk_alloc ?_ _)); exact BK420.out⟩, ⟨be6x0 HB.out GE418.out GE419.out GE420.out GE470.out GE485.out GE490.out⟩⟩
                  ·replace c175 := Bool.eq_false_iff.mpr c175
                   subst c175
                   have H1 : (laws_FnExactDestinationSums.j4 kj125 t541 t540 true) = some r := by rw [if_neg (show ¬ (false = true) by decide)] at H; exact H
                   clear H
                   have H := H1
                   clear H1
                   exact absurd (H.trans (congrArg some hrt.out)) (by generalize kj125 = k_; cases k_ <;> simp [laws_FnExactDestinationSums.j4])
                 case rest =>
                  clear HC159
                  try clear c150; try clear c153; try clear c153b0; try clear c154; try clear c154b0; try clear c154b1; try clear c175
                  obtain ⟨kq, x138_158, rfl, HA, HJ158, HO_15, BK418, BK419, BK420, HB⟩ := hcut
                  have hl15_158 := (Kd.R_reads' HO_15.out).1
                  rw [hl15_158] at HO_15
                  (try simp only [hl15_158])
                  (try simp only [hl15_158] at BK418)
                  (try simp only [hl15_158] at BK419)
                  (try simp only [hl15_158] at BK420)
                  cases kq with
                  | zero => exact absurd HA.out (by simp [laws_FnExactDestinationSums.j4])
                  | succ kj158 =>
                   have H := HA.out
                   clear HA
                   simp only [laws_FnExactDestinationSums.j4] at H
                   by_cases c178 : x138_158 = true
                   ·subst c178
                    have H1 : (some false) = some r := by rw [if_pos rfl] at H; exact H
                    clear H
                    have H := H1
                    clear H1
                    exact absurd (H.trans (congrArg some hrt.out)) (by simp)
                   ·replace c178 := Bool.eq_false_iff.mpr c178
                    subst c178
                    have H1 : ((laws_heldIntS.f kj158 t541 1).bind fun t578 => (if t578 < 0 then (some false) else (if t578 = t540 then (some true) else (some false)))) = some r := by rw [if_neg (show ¬ (false = true) by decide)] at H; exact H
                    clear H
                    have H := H1
                    clear H1
                    replace H := Option.bind_eq_some_iff.mp H
                    obtain ⟨t578, A1790, H⟩ := H
                    have A179 := m_ A1790
                    clear A1790
                    by_cases c180 : t578 < 0
                    ·rw [if_pos c180] at H
                     have c180b0 := decide_eq_true c180
                     clear c180
                     exact absurd (H.trans (congrArg some hrt.out)) (by simp)
                    ·rw [if_neg c180] at H
                     have c180b0 := decide_eq_false c180
                     clear c180
                     by_cases c181 : t578 = t540
                     ·rw [if_pos c181] at H
                      have c181b0 : (t578 == t540) = true := beq_iff_eq.mpr c181
                      have c181b1 : (t578 != t540) = false := bne_eq_false_iff_eq.mpr c181
                      clear c181
                      obtain rfl := Option.some.inj H
                      go_wp2_with (first | ((with_reducible refine gate_callee (f := 21) rfl ?_); refine gLx0 (some 141) Try.func21 #[.slice Ao160 t541.length co160, .int .i64 1] ?_; (with_reducible refine (laws_heldIntS.calls kj158 _ _ t541 1 t578 _ ?side1 ?side2 A179.out).mono ?_); (case side1 => exact cRx0 HO_15.out); (case side2 => exact (Kd.R_reads' HO_15.out).2.1); rintro e w' ⟨rfl, ⟨nd, rfl⟩⟩; refine ⟨_, rfl, ?_⟩))
                      go_ret
                      exact ⟨by first | rfl | (simp [errW_none, errW_some] <;> rfl) | (simp [*, errW_none, errW_some] <;> rfl), be6x0 HB.out GE418.out GE419.out GE420.out GE470.out GE485.out GE490.out⟩
                     ·rw [if_neg c181] at H
                      have c181b0 : (t578 == t540) = false := beq_eq_false_iff_ne.mpr c181
                      have c181b1 : (t578 != t540) = true := bne_iff_ne.mpr c181
                      exact absurd (H.trans (congrArg some hrt.out)) (by simp)
                ·rw [if_neg c154] at H
                 have c154b0 : (t542 == t540) = false := beq_eq_false_iff_ne.mpr c154
                 have c154b1 : (t542 != t540) = true := bne_iff_ne.mpr c154
                 exact absurd (H.trans (congrArg some hrt.out)) (by simp)
         ·replace c102 := Bool.eq_false_iff.mpr c102
          subst c102
          have H1 : (some false) = some r := by rw [if_neg (show ¬ (false = true) by decide)] at H; exact H
          clear H
          have H := H1
          clear H1
          exact absurd (H.trans (congrArg some hrt.out)) (by simp)
        ·replace c99 := Bool.eq_false_iff.mpr c99
         subst c99
         have H1 : (some false) = some r := by rw [if_neg (show ¬ (false = true) by decide)] at H; exact H
         clear H
         have H := H1
         clear H1
         exact absurd (H.trans (congrArg some hrt.out)) (by simp)

end Go.Proofs.Ytloddihakhgcdaa.PFnExactDestinationSums
