/- The law FnExactFirstImbalance: for every input that can be read, the call returns true, and every argument reads afterwards as before. -/
import Derived.Test.YtkoacjepochjaaaRows
import Derived.Test.YtkoacjepochjaaaPFnExactFirstImbalancex5
import Derived.Test.YtkoacjepochjaaaOpening
import Derived.Test.YtkoacjepochjaaaPureFnExactFirstImbalance
import Derived.WalkKit
import Derived.ProofKit
import Derived.OpenShut
import Derived.ShutString
import Derived.ChangeOld
import Derived.Below
import Derived.SizedLaws
namespace Go.Proofs.Ytkoacjepochjaaa.fnExactFirstImbalanceR
open Go.ChangeShapes Go.WideShapes Go.ChangeAt Go.RowKit Go.Proofs.Ytkoacjepochjaaa.Opening Go.Proofs.YtkoacjepochjaaaW.PrintWords Go.Proofs.Ytkoacjepochjaaa.PFnExactFirstImbalance
set_option linter.unusedVariables false
theorem own : ownKnob Try.prog.godebug = none := by kernel_rfl
theorem laidOut : laidOutB Try.prog = true := by kernel_rfl
theorem o3 : Opn Try.prog 3 (Kd.int .i64) (WfI .i64) := opn_int Try.underlying3 (by kernel_rfl)
theorem o34 : Opn Try.prog 34 (Kd.slice 3 (Kd.int .i64)) (AllOf (WfI .i64)) := opn_slice Try.underlying34 (by kernel_rfl) o3
theorem o37 : Opn Try.prog 37 (Kd.slice 34 (Kd.slice 3 (Kd.int .i64))) (AllOf (AllOf (WfI .i64))) := opn_slice Try.underlying37 (by kernel_rfl) o34
set_option maxRecDepth 100000 in
set_option maxHeartbeats 1000000 in
theorem lifted (os : Os) (started : os.Started) (H : Type) (enc : TypeId × Value → H) :
    ReturnsInHanded {} Try.checked os 8 .any (Rows.fnExactFirstImbalanceSpec.pre6 enc Try.prog Try.f8 Rows.fnExactFirstImbalanceRow.domain false) (Rows.fnExactFirstImbalanceSpec.post enc Try.prog Try.f8 false true false false) := by
  refine returnsInHanded_of_change_sized (C := Try.checked) own started (by kernel_rfl) Try.func8
    (ChangeSpec.witness6 (enc := enc) (C := Try.checked) false ⟨#[], #[.int .i64 0, .int .i64 0, .slice none 0 0], []⟩ 24 (by kernel_rfl) (by kernel_rfl) (by kernel_rfl) (by kernel_rfl)) ?_
  intro W base args ds gs before hval0 hW hcnd hsz0 _
  have hval : ∀ (j : Nat) t v, Try.f8.params[j]? = some t → args[j]? = some v → Value.okWide Try.prog W .any base t v := hval0
  have hW' := hW
  obtain ⟨p, q, hA0, hV, rfl, hfz, hnd⟩ := hW
  have hA : DataW.TrodAll enc Try.prog W 0 (fun _ => true) true Try.f8.params.toList args.toList ds p := hA0
  rw [Try.params8] at hA hval
  obtain ⟨v0, vs0, d0, ds0, p0, q0, hargs, rfl, rfl, h0, r0⟩ := trodAll_cons hA
  obtain ⟨v1, vs1, d1, ds1, p1, q1, rfl, rfl, rfl, h1, r1⟩ := trodAll_cons r0
  obtain ⟨v2, vs2, d2, ds2, p2, q2, rfl, rfl, rfl, h2, r2⟩ := trodAll_cons r1
  obtain ⟨rfl, rfl, rfl⟩ := trodAll_nil r2
  obtain rfl : args = #[v0, v1, v2] := by cases args; simp_all
  obtain ⟨rfl, rfl⟩ := trodVars_none hV
  have lt0 : ∀ x ∈ p0, x.block < W.heap.size := by obtain ⟨m, hm⟩ := h0; exact DataW.trod_lt m _ _ _ hm
  obtain ⟨n0', rfl⟩ := okWide_int Try.underlying3 (hval 0 3 v0 rfl rfl)
  obtain ⟨a0, V0, K0⟩ := opn_arg o3 h0
  obtain rfl : a0 = n0' := by have e : (Value.cells _).toList = [_] := K0; simp [Value.cells] at e; exact e.symm
  have lt1 : ∀ x ∈ p1, x.block < W.heap.size := by obtain ⟨m, hm⟩ := h1; exact DataW.trod_lt m _ _ _ hm
  obtain ⟨n1', rfl⟩ := okWide_int Try.underlying3 (hval 1 3 v1 rfl rfl)
  obtain ⟨a1, V1, K1⟩ := opn_arg o3 h1
  obtain rfl : a1 = n1' := by have e : (Value.cells _).toList = [_] := K1; simp [Value.cells] at e; exact e.symm
  have lt2 : ∀ x ∈ p2, x.block < W.heap.size := by obtain ⟨m, hm⟩ := h2; exact DataW.trod_lt m _ _ _ hm
  obtain ⟨A2', n2', c2', rfl⟩ := okWide_slice Try.underlying37 (hval 2 37 v2 rfl rfl)
  obtain ⟨l2, V2, K2⟩ := opn_arg o37 h2
  obtain ⟨A2, c2, e2, hc2, hr2⟩ := K2
  obtain ⟨rfl, rfl, rfl⟩ : A2' = A2 ∧ n2' = l2.length ∧ c2' = c2 := by simpa [Value.cells] using e2
  obtain ⟨k, hk⟩ := Pure.FnExactFirstImbalance a0 a1 l2 V0 V1 V2
  refine (laws_FnExactFirstImbalance.calls (w := W) (hr2 := hr2) (hc2 := hc2) (h := hk)).mono fun e W' ⟨he, bel⟩ => ?_
  subst he
  replace bel : Below W.heap.size W W' := by first | exact bel | exact bel.below | (subst bel; exact Below.refl _ _)
  exact ⟨_, rfl, _, _, _, [], _, [], hW', trodAll_mk1 (shut_bool Try.underlying4 _), (trodAll_cons_mk (Below.trod laidOut (by kernel_rfl) (of_decide_eq_true (by kernel_rfl)) h0 bel lt0) (trodAll_cons_mk (Below.trod laidOut (by kernel_rfl) (of_decide_eq_true (by kernel_rfl)) h1 bel lt1) (trodAll_cons_mk (Below.trod laidOut (by kernel_rfl) (of_decide_eq_true (by kernel_rfl)) h2 bel lt2) trodAll_mk0))), rfl, bel.frame _, fun h => by cases h⟩
theorem over : Rows.fnExactFirstImbalanceRow.holds Try.pinned (OpenSpec.ofChange Rows.fnExactFirstImbalanceSpec) :=
  OpenClaim.holds_of_wide 8 Try.f8 rfl rfl rfl rfl rfl rfl rfl ⟨rfl, rfl, rfl, rfl, rfl⟩ rfl rfl rfl rfl rfl (by kernel_rfl) Try.func8 (by kernel_rfl)
    (of_decide_eq_true (by kernel_rfl)) (by unfold Func.isWrapper; first | (rw [if_pos (by decide +kernel)]; kernel_rfl) | (rw [if_neg (by decide +kernel)]; exact ⟨rfl, rfl⟩))
    (fun os started H enc _ => lifted os started H enc)
end Go.Proofs.Ytkoacjepochjaaa.fnExactFirstImbalanceR
namespace Go.Proofs.Ytkoacjepochjaaa
theorem fnExactFirstImbalance_holds : Rows.FnExactFirstImbalanceSaid := fnExactFirstImbalanceR.over
#print axioms fnExactFirstImbalance_holds
end Go.Proofs.Ytkoacjepochjaaa
