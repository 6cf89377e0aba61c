/- The law FnExactAreHoles: for every input that can be read, the call returns true, and every argument reads afterwards as before. -/
import Derived.Test.YtbkolnbdcifnlaaRows
import Derived.Test.YtbkolnbdcifnlaaPFnExactAreHolesx3
import Derived.Test.YtbkolnbdcifnlaaOpening
import Derived.Test.YtbkolnbdcifnlaaPureFnExactAreHoles
import Derived.WalkKit
import Derived.ProofKit
import Derived.OpenShut
import Derived.ShutString
import Derived.ChangeOld
import Derived.Below
import Derived.SizedLaws
namespace Go.Proofs.Ytbkolnbdcifnlaa.fnExactAreHolesR
open Go.ChangeShapes Go.WideShapes Go.ChangeAt Go.RowKit Go.Proofs.Ytbkolnbdcifnlaa.Opening Go.Proofs.YtbkolnbdcifnlaaW.PrintWords Go.Proofs.Ytbkolnbdcifnlaa.PFnExactAreHoles
set_option linter.unusedVariables false
theorem own : ownKnob Try.prog.godebug = none := by kernel_rfl
theorem laidOut : laidOutB Try.prog = true := by kernel_rfl
theorem o3 : Opn Try.prog 3 (Kd.int .i64) (WfI .i64) := opn_int Try.underlying3 (by kernel_rfl)
theorem o35 : Opn Try.prog 35 (Kd.pair (Kd.int .i64) (Kd.pair (Kd.int .i64) (Kd.int .i64))) (Two (WfI .i64) (Two (WfI .i64) (WfI .i64))) := by
  refine opn_struct Try.underlying35 (by kernel_rfl) ?_
  refine opnF_cons ?_ o3 ?_
  · rfl
  refine opnF_cons ?_ o3 ?_
  · rfl
  exact opnF_one (by rfl) o3
theorem o37 : Opn Try.prog 37 k37 (fun x => (Two (WfI .i64) (Two (WfI .i64) (Two (WfI .i64) (Two (WfI .i64) (WfI .i64))))) (x.f0, x.f1, x.f2, x.f3, x.f4)) := by
  refine opn_iso (V := (Two (WfI .i64) (Two (WfI .i64) (Two (WfI .i64) (Two (WfI .i64) (WfI .i64)))))) (fun x : S37 => (x.f0, x.f1, x.f2, x.f3, x.f4)) (fun y => ⟨y.1, y.2.1, y.2.2.1, y.2.2.2.1, y.2.2.2.2⟩) (fun _ => rfl) (opn_struct Try.underlying37 (by kernel_rfl) ?_)
  refine opnF_cons ?_ o3 ?_
  · rfl
  refine opnF_cons ?_ o3 ?_
  · rfl
  refine opnF_cons ?_ o3 ?_
  · rfl
  refine opnF_cons ?_ o3 ?_
  · rfl
  exact opnF_one (by rfl) o3
theorem o93 : Opn Try.prog 93 (Kd.slice 37 k37) (AllOf (fun x => (Two (WfI .i64) (Two (WfI .i64) (Two (WfI .i64) (Two (WfI .i64) (WfI .i64))))) (x.f0, x.f1, x.f2, x.f3, x.f4))) := opn_slice Try.underlying93 (by kernel_rfl) o37
set_option maxRecDepth 100000 in
set_option maxHeartbeats 1000000 in
theorem lifted (os : Os) (started : os.Started) (H : Type) (enc : TypeId × Value → H) :
    ReturnsInHanded {} Try.checked os 14 .any (Rows.fnExactAreHolesSpec.pre6 enc Try.prog Try.f14 Rows.fnExactAreHolesRow.domain false) (Rows.fnExactAreHolesSpec.post enc Try.prog Try.f14 false true false false) := by
  refine returnsInHanded_of_change_sized (C := Try.checked) own started (by kernel_rfl) Try.func14
    (ChangeSpec.witness6 (enc := enc) (C := Try.checked) false ⟨#[], #[.agg #[.int .i64 0, .int .i64 0, .int .i64 0], .slice none 0 0], []⟩ 24 (by kernel_rfl) (by kernel_rfl) (by kernel_rfl) (by kernel_rfl)) ?_
  intro W base args ds gs before hval0 hW hcnd hsz0 _
  have hval : ∀ (j : Nat) t v, Try.f14.params[j]? = some t → args[j]? = some v → Value.okWide Try.prog W .any base t v := hval0
  have hW' := hW
  obtain ⟨p, q, hA0, hV, rfl, hfz, hnd⟩ := hW
  have hA : DataW.TrodAll enc Try.prog W 0 (fun _ => true) true Try.f14.params.toList args.toList ds p := hA0
  rw [Try.params14] at hA hval
  obtain ⟨v0, vs0, d0, ds0, p0, q0, hargs, rfl, rfl, h0, r0⟩ := trodAll_cons hA
  obtain ⟨v1, vs1, d1, ds1, p1, q1, rfl, rfl, rfl, h1, r1⟩ := trodAll_cons r0
  obtain ⟨rfl, rfl, rfl⟩ := trodAll_nil r1
  obtain rfl : args = #[v0, v1] := by cases args; simp_all
  obtain ⟨rfl, rfl⟩ := trodVars_none hV
  have lt0 : ∀ x ∈ p0, x.block < W.heap.size := by obtain ⟨m, hm⟩ := h0; exact DataW.trod_lt m _ _ _ hm
  obtain ⟨cs0, rfl, _⟩ := okWide_struct Try.underlying35 (hval 0 35 v0 rfl rfl)
  obtain ⟨⟨a0_0, a0_1, a0_2⟩, V0, K0⟩ := opn_arg o35 h0
  obtain rfl : cs0 = (#[Value.int .i64 a0_0, Value.int .i64 a0_1, Value.int .i64 a0_2] : Array Value) := by
    obtain ⟨_, _, eK0a, K0a, K0b⟩ := K0
    obtain ⟨_, _, eK0ba, K0ba, K0bb⟩ := K0b
    have e_all : cs0.toList = [Value.int .i64 a0_0, Value.int .i64 a0_1, Value.int .i64 a0_2] := by
      have e0 : cs0.toList = _ := eK0a
      rw [e0]
      (try rw [show _ = _ from K0a])
      (try rw [show _ = _ from eK0ba])
      (try rw [show _ = _ from K0ba])
      (try rw [show _ = _ from K0bb])
      (try rfl)
    exact Array.toList_inj.1 e_all
  have lt1 : ∀ x ∈ p1, x.block < W.heap.size := by obtain ⟨m, hm⟩ := h1; exact DataW.trod_lt m _ _ _ hm
  obtain ⟨A1', n1', c1', rfl⟩ := okWide_slice Try.underlying93 (hval 1 93 v1 rfl rfl)
  obtain ⟨l1, V1, K1⟩ := opn_arg o93 h1
  obtain ⟨A1, c1, e1, hc1, hr1⟩ := K1
  obtain ⟨rfl, rfl, rfl⟩ : A1' = A1 ∧ n1' = l1.length ∧ c1' = c1 := by simpa [Value.cells] using e1
  obtain ⟨k, hk⟩ := Pure.FnExactAreHoles a0_0 a0_1 a0_2 l1 V0.1 V0.2.1 V0.2.2 V1
  refine (laws_FnExactAreHoles.calls (w := W) (hr1 := hr1) (hc1 := hc1) (h := hk)).mono fun e W' ⟨he, bel⟩ => ?_
  subst he
  replace bel : Below W.heap.size W W' := by first | exact bel | exact bel.below | (subst bel; exact Below.refl _ _)
  exact ⟨_, rfl, _, _, _, [], _, [], hW', trodAll_mk1 (shut_bool Try.underlying4 _), (trodAll_cons_mk (Below.trod laidOut (by kernel_rfl) (of_decide_eq_true (by kernel_rfl)) h0 bel lt0) (trodAll_cons_mk (Below.trod laidOut (by kernel_rfl) (of_decide_eq_true (by kernel_rfl)) h1 bel lt1) trodAll_mk0)), rfl, bel.frame _, fun h => by cases h⟩
theorem over : Rows.fnExactAreHolesRow.holds Try.pinned (OpenSpec.ofChange Rows.fnExactAreHolesSpec) :=
  OpenClaim.holds_of_wide 14 Try.f14 rfl rfl rfl rfl rfl rfl rfl ⟨rfl, rfl, rfl, rfl, rfl⟩ rfl rfl rfl rfl rfl (by kernel_rfl) Try.func14 (by kernel_rfl)
    (of_decide_eq_true (by kernel_rfl)) (by unfold Func.isWrapper; first | (rw [if_pos (by decide +kernel)]; kernel_rfl) | (rw [if_neg (by decide +kernel)]; exact ⟨rfl, rfl⟩))
    (fun os started H enc _ => lifted os started H enc)
end Go.Proofs.Ytbkolnbdcifnlaa.fnExactAreHolesR
namespace Go.Proofs.Ytbkolnbdcifnlaa
theorem fnExactAreHoles_holds : Rows.FnExactAreHolesSaid := fnExactAreHolesR.over
#print axioms fnExactAreHoles_holds
end Go.Proofs.Ytbkolnbdcifnlaa
