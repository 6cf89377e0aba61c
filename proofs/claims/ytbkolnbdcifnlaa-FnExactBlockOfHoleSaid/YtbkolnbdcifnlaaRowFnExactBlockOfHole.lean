/- The law FnExactBlockOfHole: for every input that can be read, the call returns true, and every argument reads afterwards as before. -/
import Derived.Test.YtbkolnbdcifnlaaRows
import Derived.Test.YtbkolnbdcifnlaaPFnExactBlockOfHolex3
import Derived.Test.YtbkolnbdcifnlaaOpening
import Derived.Test.YtbkolnbdcifnlaaPureFnExactBlockOfHole
import Derived.WalkKit
import Derived.ProofKit
import Derived.OpenShut
import Derived.ShutString
import Derived.ChangeOld
import Derived.Below
import Derived.SizedLaws
namespace Go.Proofs.Ytbkolnbdcifnlaa.fnExactBlockOfHoleR
open Go.ChangeShapes Go.WideShapes Go.ChangeAt Go.RowKit Go.Proofs.Ytbkolnbdcifnlaa.Opening Go.Proofs.YtbkolnbdcifnlaaW.PrintWords Go.Proofs.Ytbkolnbdcifnlaa.PFnExactBlockOfHole
set_option linter.unusedVariables false
theorem own : ownKnob Try.prog.godebug = none := by kernel_rfl
theorem laidOut : laidOutB Try.prog = true := by kernel_rfl
theorem o3 : Opn Try.prog 3 (Kd.int .i64) (WfI .i64) := opn_int Try.underlying3 (by kernel_rfl)
theorem o35 : Opn Try.prog 35 (Kd.pair (Kd.int .i64) (Kd.pair (Kd.int .i64) (Kd.int .i64))) (Two (WfI .i64) (Two (WfI .i64) (WfI .i64))) := by
  refine opn_struct Try.underlying35 (by kernel_rfl) ?_
  refine opnF_cons ?_ o3 ?_
  · rfl
  refine opnF_cons ?_ o3 ?_
  · rfl
  exact opnF_one (by rfl) o3
theorem o37 : Opn Try.prog 37 (Kd.pair (Kd.int .i64) (Kd.pair (Kd.int .i64) (Kd.pair (Kd.int .i64) (Kd.pair (Kd.int .i64) (Kd.int .i64))))) (Two (WfI .i64) (Two (WfI .i64) (Two (WfI .i64) (Two (WfI .i64) (WfI .i64))))) := by
  refine opn_struct Try.underlying37 (by kernel_rfl) ?_
  refine opnF_cons ?_ o3 ?_
  · rfl
  refine opnF_cons ?_ o3 ?_
  · rfl
  refine opnF_cons ?_ o3 ?_
  · rfl
  refine opnF_cons ?_ o3 ?_
  · rfl
  exact opnF_one (by rfl) o3
set_option maxRecDepth 100000 in
set_option maxHeartbeats 1000000 in
theorem lifted (os : Os) (started : os.Started) (H : Type) (enc : TypeId × Value → H) :
    ReturnsInHanded {} Try.checked os 6 .any (Rows.fnExactBlockOfHoleSpec.pre6 enc Try.prog Try.f6 Rows.fnExactBlockOfHoleRow.domain false) (Rows.fnExactBlockOfHoleSpec.post enc Try.prog Try.f6 false true false false) := by
  refine returnsInHanded_of_change_sized (C := Try.checked) own started (by kernel_rfl) Try.func6
    (ChangeSpec.witness6 (enc := enc) (C := Try.checked) false ⟨#[], #[.agg #[.int .i64 0, .int .i64 0, .int .i64 0], .agg #[.int .i64 0, .int .i64 0, .int .i64 0, .int .i64 0, .int .i64 0]], []⟩ 24 (by kernel_rfl) (by kernel_rfl) (by kernel_rfl) (by kernel_rfl)) ?_
  intro W base args ds gs before hval0 hW hcnd hsz0 _
  have hval : ∀ (j : Nat) t v, Try.f6.params[j]? = some t → args[j]? = some v → Value.okWide Try.prog W .any base t v := hval0
  have hW' := hW
  obtain ⟨p, q, hA0, hV, rfl, hfz, hnd⟩ := hW
  have hA : DataW.TrodAll enc Try.prog W 0 (fun _ => true) true Try.f6.params.toList args.toList ds p := hA0
  rw [Try.params6] at hA hval
  obtain ⟨v0, vs0, d0, ds0, p0, q0, hargs, rfl, rfl, h0, r0⟩ := trodAll_cons hA
  obtain ⟨v1, vs1, d1, ds1, p1, q1, rfl, rfl, rfl, h1, r1⟩ := trodAll_cons r0
  obtain ⟨rfl, rfl, rfl⟩ := trodAll_nil r1
  obtain rfl : args = #[v0, v1] := by cases args; simp_all
  obtain ⟨rfl, rfl⟩ := trodVars_none hV
  have lt0 : ∀ x ∈ p0, x.block < W.heap.size := by obtain ⟨m, hm⟩ := h0; exact DataW.trod_lt m _ _ _ hm
  obtain ⟨cs0, rfl, _⟩ := okWide_struct Try.underlying35 (hval 0 35 v0 rfl rfl)
  obtain ⟨⟨a0_0, a0_1, a0_2⟩, V0, K0⟩ := opn_arg o35 h0
  obtain rfl : cs0 = (#[Value.int .i64 a0_0, Value.int .i64 a0_1, Value.int .i64 a0_2] : Array Value) := by
    obtain ⟨_, _, eK0a, K0a, K0b⟩ := K0
    obtain ⟨_, _, eK0ba, K0ba, K0bb⟩ := K0b
    have e_all : cs0.toList = [Value.int .i64 a0_0, Value.int .i64 a0_1, Value.int .i64 a0_2] := by
      have e0 : cs0.toList = _ := eK0a
      rw [e0]
      (try rw [show _ = _ from K0a])
      (try rw [show _ = _ from eK0ba])
      (try rw [show _ = _ from K0ba])
      (try rw [show _ = _ from K0bb])
      (try rfl)
    exact Array.toList_inj.1 e_all
  have lt1 : ∀ x ∈ p1, x.block < W.heap.size := by obtain ⟨m, hm⟩ := h1; exact DataW.trod_lt m _ _ _ hm
  obtain ⟨cs1, rfl, _⟩ := okWide_struct Try.underlying37 (hval 1 37 v1 rfl rfl)
  obtain ⟨⟨a1_0, a1_1, a1_2, a1_3, a1_4⟩, V1, K1⟩ := opn_arg o37 h1
  obtain rfl : cs1 = (#[Value.int .i64 a1_0, Value.int .i64 a1_1, Value.int .i64 a1_2, Value.int .i64 a1_3, Value.int .i64 a1_4] : Array Value) := by
    obtain ⟨_, _, eK1a, K1a, K1b⟩ := K1
    obtain ⟨_, _, eK1ba, K1ba, K1bb⟩ := K1b
    obtain ⟨_, _, eK1bba, K1bba, K1bbb⟩ := K1bb
    obtain ⟨_, _, eK1bbba, K1bbba, K1bbbb⟩ := K1bbb
    have e_all : cs1.toList = [Value.int .i64 a1_0, Value.int .i64 a1_1, Value.int .i64 a1_2, Value.int .i64 a1_3, Value.int .i64 a1_4] := by
      have e0 : cs1.toList = _ := eK1a
      rw [e0]
      (try rw [show _ = _ from K1a])
      (try rw [show _ = _ from eK1ba])
      (try rw [show _ = _ from K1ba])
      (try rw [show _ = _ from eK1bba])
      (try rw [show _ = _ from K1bba])
      (try rw [show _ = _ from eK1bbba])
      (try rw [show _ = _ from K1bbba])
      (try rw [show _ = _ from K1bbbb])
      (try rfl)
    exact Array.toList_inj.1 e_all
  obtain ⟨k, hk⟩ := Pure.FnExactBlockOfHole a0_0 a0_1 a0_2 a1_0 a1_1 a1_2 a1_3 a1_4 V0.1 V0.2.1 V0.2.2 V1.1 V1.2.1 V1.2.2.1 V1.2.2.2.1 V1.2.2.2.2
  refine (laws_FnExactBlockOfHole.calls (w := W)  (h := hk)).mono fun e W' ⟨he, bel⟩ => ?_
  subst he
  replace bel : Below W.heap.size W W' := by first | exact bel | exact bel.below | (subst bel; exact Below.refl _ _)
  exact ⟨_, rfl, _, _, _, [], _, [], hW', trodAll_mk1 (shut_bool Try.underlying4 _), (trodAll_cons_mk (Below.trod laidOut (by kernel_rfl) (of_decide_eq_true (by kernel_rfl)) h0 bel lt0) (trodAll_cons_mk (Below.trod laidOut (by kernel_rfl) (of_decide_eq_true (by kernel_rfl)) h1 bel lt1) trodAll_mk0)), rfl, bel.frame _, fun h => by cases h⟩
theorem over : Rows.fnExactBlockOfHoleRow.holds Try.pinned (OpenSpec.ofChange Rows.fnExactBlockOfHoleSpec) :=
  OpenClaim.holds_of_wide 6 Try.f6 rfl rfl rfl rfl rfl rfl rfl ⟨rfl, rfl, rfl, rfl, rfl⟩ rfl rfl rfl rfl rfl (by kernel_rfl) Try.func6 (by kernel_rfl)
    (of_decide_eq_true (by kernel_rfl)) (by unfold Func.isWrapper; first | (rw [if_pos (by decide +kernel)]; kernel_rfl) | (rw [if_neg (by decide +kernel)]; exact ⟨rfl, rfl⟩))
    (fun os started H enc _ => lifted os started H enc)
end Go.Proofs.Ytbkolnbdcifnlaa.fnExactBlockOfHoleR
namespace Go.Proofs.Ytbkolnbdcifnlaa
theorem fnExactBlockOfHole_holds : Rows.FnExactBlockOfHoleSaid := fnExactBlockOfHoleR.over
#print axioms fnExactBlockOfHole_holds
end Go.Proofs.Ytbkolnbdcifnlaa
