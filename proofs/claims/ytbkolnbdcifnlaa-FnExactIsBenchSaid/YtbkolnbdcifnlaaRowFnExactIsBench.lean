/- The law FnExactIsBench: for every input that can be read, the call returns true, and every argument reads afterwards as before. -/
import Derived.Test.YtbkolnbdcifnlaaRows
import Derived.Test.YtbkolnbdcifnlaaPFnExactIsBenchx2
import Derived.Test.YtbkolnbdcifnlaaOpening
import Derived.Test.YtbkolnbdcifnlaaPureFnExactIsBench
import Derived.WalkKit
import Derived.ProofKit
import Derived.OpenShut
import Derived.ShutString
import Derived.ChangeOld
import Derived.Below
import Derived.SizedLaws
namespace Go.Proofs.Ytbkolnbdcifnlaa.fnExactIsBenchR
open Go.ChangeShapes Go.WideShapes Go.ChangeAt Go.RowKit Go.Proofs.Ytbkolnbdcifnlaa.Opening Go.Proofs.YtbkolnbdcifnlaaW.PrintWords Go.Proofs.Ytbkolnbdcifnlaa.PFnExactIsBench
set_option linter.unusedVariables false
theorem own : ownKnob Try.prog.godebug = none := by kernel_rfl
theorem laidOut : laidOutB Try.prog = true := by kernel_rfl
theorem o3 : Opn Try.prog 3 (Kd.int .i64) (WfI .i64) := opn_int Try.underlying3 (by kernel_rfl)
theorem o28 : Opn Try.prog 28 (Kd.slice 3 (Kd.int .i64)) (AllOf (WfI .i64)) := opn_slice Try.underlying28 (by kernel_rfl) o3
theorem o81 : Opn Try.prog 81 (Kd.pair (Kd.int .i64) (Kd.pair (Kd.int .i64) (Kd.slice 3 (Kd.int .i64)))) (Two (WfI .i64) (Two (WfI .i64) (AllOf (WfI .i64)))) := by
  refine opn_struct Try.underlying81 (by kernel_rfl) ?_
  refine opnF_cons ?_ o3 ?_
  · rfl
  refine opnF_cons ?_ o3 ?_
  · rfl
  exact opnF_one (by rfl) o28
set_option maxRecDepth 100000 in
set_option maxHeartbeats 1000000 in
theorem lifted (os : Os) (started : os.Started) (H : Type) (enc : TypeId × Value → H) :
    ReturnsInHanded {} Try.checked os 11 .any (Rows.fnExactIsBenchSpec.pre6 enc Try.prog Try.f11 Rows.fnExactIsBenchRow.domain false) (Rows.fnExactIsBenchSpec.post enc Try.prog Try.f11 false true false false) := by
  refine returnsInHanded_of_change_sized (C := Try.checked) own started (by kernel_rfl) Try.func11
    (ChangeSpec.witness6 (enc := enc) (C := Try.checked) false ⟨#[], #[.agg #[.int .i64 0, .int .i64 0, .slice none 0 0]], []⟩ 24 (by kernel_rfl) (by kernel_rfl) (by kernel_rfl) (by kernel_rfl)) ?_
  intro W base args ds gs before hval0 hW hcnd hsz0 _
  have hval : ∀ (j : Nat) t v, Try.f11.params[j]? = some t → args[j]? = some v → Value.okWide Try.prog W .any base t v := hval0
  have hW' := hW
  obtain ⟨p, q, hA0, hV, rfl, hfz, hnd⟩ := hW
  have hA : DataW.TrodAll enc Try.prog W 0 (fun _ => true) true Try.f11.params.toList args.toList ds p := hA0
  rw [Try.params11] at hA hval
  obtain ⟨v0, vs0, d0, ds0, p0, q0, hargs, rfl, rfl, h0, r0⟩ := trodAll_cons hA
  obtain ⟨rfl, rfl, rfl⟩ := trodAll_nil r0
  obtain rfl : args = #[v0] := by cases args; simp_all
  obtain ⟨rfl, rfl⟩ := trodVars_none hV
  have lt0 : ∀ x ∈ p0, x.block < W.heap.size := by obtain ⟨m, hm⟩ := h0; exact DataW.trod_lt m _ _ _ hm
  obtain ⟨cs0, rfl, _⟩ := okWide_struct Try.underlying81 (hval 0 81 v0 rfl rfl)
  obtain ⟨⟨a0_0, a0_1, l0_2⟩, V0, K0⟩ := opn_arg o81 h0
  obtain ⟨A0_2, c0_2, rfl, hc0_2, hr0_2⟩ : ∃ A0_2 c0_2, cs0 = (#[Value.int .i64 a0_0, Value.int .i64 a0_1, Value.slice A0_2 l0_2.length c0_2] : Array Value) ∧ l0_2.length ≤ c0_2 ∧ Kd.C (Kd.int .i64) W A0_2 l0_2.length l0_2 := by
    obtain ⟨_, _, eK0a, K0a, K0b⟩ := K0
    obtain ⟨_, _, eK0ba, K0ba, K0bb⟩ := K0b
    obtain ⟨A0_2, c0_2, e_K0bb, hc0_2, hr0_2⟩ := K0bb
    have e_all : cs0.toList = [Value.int .i64 a0_0, Value.int .i64 a0_1, Value.slice A0_2 l0_2.length c0_2] := by
      have e0 : cs0.toList = _ := eK0a
      rw [e0]
      (try rw [show _ = _ from K0a])
      (try rw [show _ = _ from eK0ba])
      (try rw [show _ = _ from K0ba])
      (try rw [show _ = _ from e_K0bb])
      (try rfl)
    exact ⟨A0_2, c0_2, Array.toList_inj.1 e_all, hc0_2, hr0_2⟩
  obtain ⟨k, hk⟩ := Pure.FnExactIsBench a0_0 a0_1 l0_2 V0.1 V0.2.1 V0.2.2
  refine (laws_FnExactIsBench.calls (w := W) (hr0_2 := hr0_2) (hc0_2 := hc0_2) (h := hk)).mono fun e W' ⟨he, bel⟩ => ?_
  subst he
  replace bel : Below W.heap.size W W' := by first | exact bel | exact bel.below | (subst bel; exact Below.refl _ _)
  exact ⟨_, rfl, _, _, _, [], _, [], hW', trodAll_mk1 (shut_bool Try.underlying4 _), (trodAll_cons_mk (Below.trod laidOut (by kernel_rfl) (of_decide_eq_true (by kernel_rfl)) h0 bel lt0) trodAll_mk0), rfl, bel.frame _, fun h => by cases h⟩
theorem over : Rows.fnExactIsBenchRow.holds Try.pinned (OpenSpec.ofChange Rows.fnExactIsBenchSpec) :=
  OpenClaim.holds_of_wide 11 Try.f11 rfl rfl rfl rfl rfl rfl rfl ⟨rfl, rfl, rfl, rfl, rfl⟩ rfl rfl rfl rfl rfl (by kernel_rfl) Try.func11 (by kernel_rfl)
    (of_decide_eq_true (by kernel_rfl)) (by unfold Func.isWrapper; first | (rw [if_pos (by decide +kernel)]; kernel_rfl) | (rw [if_neg (by decide +kernel)]; exact ⟨rfl, rfl⟩))
    (fun os started H enc _ => lifted os started H enc)
end Go.Proofs.Ytbkolnbdcifnlaa.fnExactIsBenchR
namespace Go.Proofs.Ytbkolnbdcifnlaa
theorem fnExactIsBench_holds : Rows.FnExactIsBenchSaid := fnExactIsBenchR.over
#print axioms fnExactIsBench_holds
end Go.Proofs.Ytbkolnbdcifnlaa
