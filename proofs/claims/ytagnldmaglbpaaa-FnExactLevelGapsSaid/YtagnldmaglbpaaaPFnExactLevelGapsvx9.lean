import Derived.Test.YtagnldmaglbpaaaPFnExactLevelGapsx0
import Derived.Test.YtagnldmaglbpaaaPFnExactLevelGapsx2
namespace Go.Proofs.Ytagnldmaglbpaaa.PFnExactLevelGaps
open Go.RowKit Go.Proofs.YtagnldmaglbpaaaW.PrintWords Go.Proofs.YtagnldmaglbpaaaW.PrintLast Go.Proofs.YtagnldmaglbpaaaW.PrintMore
attribute [local go_sem] max2_int min2_int max_two min_two max_three min_three max_four min_four
set_option linter.unusedVariables false
set_option linter.unusedSimpArgs false
theorem S_kept_ {α : Type} {d : Kd α} {e : Nat} {W W2 : World} {base : Nat} {ok S : Nat → Prop} {v : Value} {xs : List α} (h : Kd.S d e W base ok v xs) (hk : Kept W W2 S) (hne : ∀ k, ok k → ¬ S k) : Kd.S d e W2 base ok v xs := Kd.S_step h (fun k ho hlt => hk.2 k hlt (hne k ho))
theorem Kd.S_keptB {α : Type} {d : Kd α} {e : Nat} {W W2 : World} {base : Nat} {ok S : Nat → Prop} {v : Value} {xs : List α} (h : Kd.S d e W base ok v xs) (hk : Kept W W2 S) (hne : ∀ k, ok k → ¬ S k) : Kd.S d e W2 base (fun k => ok k ∧ (¬ S k ∧ k < W.heap.size)) v xs :=
  Kd.S_mono (S_kept_ (Kd.S_bound h) hk (fun k hk_ => hne k hk_.1)) (fun k hk_ => ⟨hk_.1, hne k hk_.1, hk_.2.2.1⟩)
theorem age_of {α : Type} {d : Kd α} {e : Nat} {w : World} {base : Nat} {ok : Nat → Prop} {v : Value} {xs : List α} (h : Kd.S d e w base ok v xs) : ∃ N : Nat, N = base := ⟨_, rfl⟩
theorem age_new {α : Type} {d : Kd α} {e : Nat} {w : World} {base N : Nat} {ok : Nat → Prop} {v : Value} {xs : List α} (hN : N = base) (h : Kd.S d e w base ok v xs) : Kd.S d e w base (fun k => ok k ∧ N ≤ k) v xs :=
  Kd.S_mono (Kd.S_bound h) (fun k hk => ⟨hk.1, by rw [hN]; exact hk.2.1⟩)
theorem age_old {α : Type} {d : Kd α} {e : Nat} {W w1 : World} {base N : Nat} {ok : Nat → Prop} {u v : Value} {xs : List α} (hN : N = W.heap.size) (h : Kd.S d e W base ok u xs) (hbase : ∀ k, v.ownBlock = some k → W.heap.size ≤ k) (hb : Below W.heap.size W w1) : Kd.S d e w1 base (fun k => ok k ∧ (some k ≠ v.ownBlock ∧ k < N)) u xs :=
  Kd.S_mono (Kd.S_elder' (Kd.S_bound h) hbase hb) (fun k hk => ⟨hk.1.1, hk.2, by rw [hN]; exact hk.1.2.2.1⟩)
end Go.Proofs.Ytagnldmaglbpaaa.PFnExactLevelGaps
