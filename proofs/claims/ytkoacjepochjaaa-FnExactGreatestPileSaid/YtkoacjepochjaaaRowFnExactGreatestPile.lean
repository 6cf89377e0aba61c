/- The law FnExactGreatestPile: for every input that can be read, the call returns true, and every argument reads afterwards as before. -/
import Derived.Test.YtkoacjepochjaaaRows
import Derived.Test.YtkoacjepochjaaaPFnExactGreatestPilex3
import Derived.Test.YtkoacjepochjaaaOpening
import Derived.Test.YtkoacjepochjaaaPureFnExactGreatestPile
import Derived.WalkKit
import Derived.ProofKit
import Derived.OpenShut
import Derived.ShutString
import Derived.ChangeOld
import Derived.Below
import Derived.SizedLaws
namespace Go.Proofs.Ytkoacjepochjaaa.fnExactGreatestPileR
open Go.ChangeShapes Go.WideShapes Go.ChangeAt Go.RowKit Go.Proofs.Ytkoacjepochjaaa.Opening Go.Proofs.YtkoacjepochjaaaW.PrintWords Go.Proofs.Ytkoacjepochjaaa.PFnExactGreatestPile
set_option linter.unusedVariables false
theorem own : ownKnob Try.prog.godebug = none := by kernel_rfl
theorem laidOut : laidOutB Try.prog = true := by kernel_rfl
theorem o3 : Opn Try.prog 3 (Kd.int .i64) (WfI .i64) := opn_int Try.underlying3 (by kernel_rfl)
theorem o34 : Opn Try.prog 34 (Kd.slice 3 (Kd.int .i64)) (AllOf (WfI .i64)) := opn_slice Try.underlying34 (by kernel_rfl) o3
theorem o37 : Opn Try.prog 37 (Kd.slice 34 (Kd.slice 3 (Kd.int .i64))) (AllOf (AllOf (WfI .i64))) := opn_slice Try.underlying37 (by kernel_rfl) o34
set_option maxRecDepth 100000 in
set_option maxHeartbeats 1000000 in
theorem lifted (os : Os) (started : os.Started) (H : Type) (enc : TypeId × Value → H) :
    ReturnsInHanded {} Try.checked os 6 .any (Rows.fnExactGreatestPileSpec.pre6 enc Try.prog Try.f6 Rows.fnExactGreatestPileRow.domain false) (Rows.fnExactGreatestPileSpec.post enc Try.prog Try.f6 false true false false) := by
  refine returnsInHanded_of_change_sized (C := Try.checked) own started (by kernel_rfl) Try.func6
    (ChangeSpec.witness6 (enc := enc) (C := Try.checked) false ⟨#[], #[.slice none 0 0], []⟩ 24 (by kernel_rfl) (by kernel_rfl) (by kernel_rfl) (by kernel_rfl)) ?_
  intro W base args ds gs before hval0 hW hcnd hsz0 _
  have hval : ∀ (j : Nat) t v, Try.f6.params[j]? = some t → args[j]? = some v → Value.okWide Try.prog W .any base t v := hval0
  have hW' := hW
  obtain ⟨p, q, hA0, hV, rfl, hfz, hnd⟩ := hW
  have hA : DataW.TrodAll enc Try.prog W 0 (fun _ => true) true Try.f6.params.toList args.toList ds p := hA0
  rw [Try.params6] at hA hval
  obtain ⟨v0, vs0, d0, ds0, p0, q0, hargs, rfl, rfl, h0, r0⟩ := trodAll_cons hA
  obtain ⟨rfl, rfl, rfl⟩ := trodAll_nil r0
  obtain rfl : args = #[v0] := by cases args; simp_all
  obtain ⟨rfl, rfl⟩ := trodVars_none hV
  have lt0 : ∀ x ∈ p0, x.block < W.heap.size := by obtain ⟨m, hm⟩ := h0; exact DataW.trod_lt m _ _ _ hm
  obtain ⟨A0', n0', c0', rfl⟩ := okWide_slice Try.underlying37 (hval 0 37 v0 rfl rfl)
  obtain ⟨l0, V0, K0⟩ := opn_arg o37 h0
  obtain ⟨A0, c0, e0, hc0, hr0⟩ := K0
  obtain ⟨rfl, rfl, rfl⟩ : A0' = A0 ∧ n0' = l0.length ∧ c0' = c0 := by simpa [Value.cells] using e0
  obtain ⟨k, hk⟩ := Pure.FnExactGreatestPile l0 V0
  refine (laws_FnExactGreatestPile.calls (w := W) (hr0 := hr0) (hc0 := hc0) (h := hk)).mono fun e W' ⟨he, bel⟩ => ?_
  subst he
  replace bel : Below W.heap.size W W' := by first | exact bel | exact bel.below | (subst bel; exact Below.refl _ _)
  exact ⟨_, rfl, _, _, _, [], _, [], hW', trodAll_mk1 (shut_bool Try.underlying4 _), (trodAll_cons_mk (Below.trod laidOut (by kernel_rfl) (of_decide_eq_true (by kernel_rfl)) h0 bel lt0) trodAll_mk0), rfl, bel.frame _, fun h => by cases h⟩
theorem over : Rows.fnExactGreatestPileRow.holds Try.pinned (OpenSpec.ofChange Rows.fnExactGreatestPileSpec) :=
  OpenClaim.holds_of_wide 6 Try.f6 rfl rfl rfl rfl rfl rfl rfl ⟨rfl, rfl, rfl, rfl, rfl⟩ rfl rfl rfl rfl rfl (by kernel_rfl) Try.func6 (by kernel_rfl)
    (of_decide_eq_true (by kernel_rfl)) (by unfold Func.isWrapper; first | (rw [if_pos (by decide +kernel)]; kernel_rfl) | (rw [if_neg (by decide +kernel)]; exact ⟨rfl, rfl⟩))
    (fun os started H enc _ => lifted os started H enc)
end Go.Proofs.Ytkoacjepochjaaa.fnExactGreatestPileR
namespace Go.Proofs.Ytkoacjepochjaaa
theorem fnExactGreatestPile_holds : Rows.FnExactGreatestPileSaid := fnExactGreatestPileR.over
#print axioms fnExactGreatestPile_holds
end Go.Proofs.Ytkoacjepochjaaa
