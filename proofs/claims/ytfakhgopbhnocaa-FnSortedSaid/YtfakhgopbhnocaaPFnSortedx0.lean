/- What the functions that FnSorted reaches compute: plain functions over numbers and lists. -/
import Derived.Test.YtfakhgopbhnocaaWMore
set_option linter.unusedVariables false
set_option linter.unusedSimpArgs false
namespace Go.Proofs.Ytfakhgopbhnocaa.PFnSorted
open Go.RowKit Go.Proofs.YtfakhgopbhnocaaW.PrintWords Go.Proofs.YtfakhgopbhnocaaW.PrintLast Go.Proofs.YtfakhgopbhnocaaW.PrintMore
structure S24 where
  f0 : Int
  f1 : Int
  f2 : Int
def z24 : S24 := ⟨(0 : Int), (0 : Int), (0 : Int)⟩
def rd_T24 (xs : List S24) (i : Int) : S24 := xs.getD i.toNat z24
/-! ### impl_IsGrid: function 121 -/
def impl_IsGrid.f (a0_0 : Int) (a0_1 : Int) (a0_2 : Int) : Option (Bool) := if a0_0 ≥ 1 then (if a0_0 ≤ 8 then (if a0_1 ≥ 1 then (if a0_1 ≤ 6 then (if a0_2 ≥ 1 then (if a0_2 ≤ 5 then (some (decide ((wrap64 ((wrap64 (a0_0 * a0_1)) * a0_2)) ≤ 120))) else (some false)) else (some false)) else (some false)) else (some false)) else (some false)) else (some false)
/-! ### impl_blocksOf: function 122 -/
def impl_blocksOf.f (a0_0 : Int) (a0_1 : Int) (a0_2 : Int) : Option (Int) := some (wrap64 ((wrap64 (a0_0 * a0_1)) * a0_2))
/-! ### impl_IsModel: function 36 -/
mutual
def impl_IsModel.j0 : Nat → Int → Bool → Int → Int → Int → List Int → List Int → List Int → Option (Bool)
  | 0, _, _, _, _, _, _, _, _ => none
  | k + 1, x3, x30, x104000, x104001, x104002, x104003, x104004, x104005 => if x30 = true then (some false) else (impl_IsModel.l0 k x3 0 x104000 x104001 x104002 x104003 x104004 x104005)
def impl_IsModel.l0 : Nat → Int → Int → Int → Int → Int → List Int → List Int → List Int → Option (Bool)
  | 0, _, _, _, _, _, _, _, _ => none
  | k + 1, x31, x32, x104000, x104001, x104002, x104003, x104004, x104005 => if x32 < x31 then (if 0 ≤ x32 then (if x32 < (x104003.length : Int) then (if (rd x104003 x32) < 0 then (some false) else (if (rd x104003 x32) > 10000 then (some false) else (if x32 < (x104004.length : Int) then (if (rd x104004 x32) < 0 then (some false) else (if (rd x104004 x32) > 1000 then (some false) else (if x32 < (x104005.length : Int) then (if (rd x104005 x32) < 0 then (some false) else (if (rd x104005 x32) > 4 then (some false) else (impl_IsModel.l0 k x31 (wrap64 (x32 + 1)) x104000 x104001 x104002 x104003 x104004 x104005))) else (none)))) else (none)))) else (none)) else (none)) else (some true)
end
def impl_IsModel.f (k : Nat) (a0_0 : Int) (a0_1 : Int) (a0_2 : Int) (l0_3 : List Int) (l0_4 : List Int) (l0_5 : List Int) : Option (Bool) := (impl_IsGrid.f a0_0 a0_1 a0_2).bind fun t104 => (if t104 = true then ((impl_blocksOf.f a0_0 a0_1 a0_2).bind fun t105 => (if (l0_3.length : Int) = t105 then (if (l0_4.length : Int) = t105 then (impl_IsModel.j0 k t105 ((l0_5.length : Int) != t105) a0_0 a0_1 a0_2 l0_3 l0_4 l0_5) else (impl_IsModel.j0 k t105 true a0_0 a0_1 a0_2 l0_3 l0_4 l0_5)) else (impl_IsModel.j0 k t105 true a0_0 a0_1 a0_2 l0_3 l0_4 l0_5))) else (some false))
theorem impl_IsModel.mono_l : ∀ k, (∀ y0 y1 y2 y3 y4 y5 y6 y7, LeO (impl_IsModel.j0 k y0 y1 y2 y3 y4 y5 y6 y7) (impl_IsModel.j0 (k + 1) y0 y1 y2 y3 y4 y5 y6 y7)) ∧ (∀ y0 y1 y2 y3 y4 y5 y6 y7, LeO (impl_IsModel.l0 k y0 y1 y2 y3 y4 y5 y6 y7) (impl_IsModel.l0 (k + 1) y0 y1 y2 y3 y4 y5 y6 y7))
  | 0 => ⟨fun _ _ _ _ _ _ _ _ r h => by simp [impl_IsModel.j0] at h, fun _ _ _ _ _ _ _ _ r h => by simp [impl_IsModel.l0] at h⟩
  | k + 1 => by
    obtain ⟨ih0, ih1⟩ := impl_IsModel.mono_l k
    refine ⟨?_, ?_⟩
    · intro y0 y1 y2 y3 y4 y5 y6 y7
      unfold impl_IsModel.j0
      repeat' first
      | (with_reducible exact ih0 _ _ _ _ _ _ _ _)
      | (with_reducible exact ih1 _ _ _ _ _ _ _ _)
      | (with_reducible exact LeO.refl _)
      | (with_reducible exact LeO.none _)
      | (with_reducible refine LeO.ite ?_ ?_)
      | (with_reducible refine LeO.bind ?_ (fun _ => ?_))
      | exact ih0 _ _ _ _ _ _ _ _
      | exact ih1 _ _ _ _ _ _ _ _
      | exact LeO.none _
      | refine LeO.ite ?_ ?_
      | refine LeO.bind ?_ (fun _ => ?_)
    · intro y0 y1 y2 y3 y4 y5 y6 y7
      unfold impl_IsModel.l0
      repeat' first
      | (with_reducible exact ih0 _ _ _ _ _ _ _ _)
      | (with_reducible exact ih1 _ _ _ _ _ _ _ _)
      | (with_reducible exact LeO.refl _)
      | (with_reducible exact LeO.none _)
      | (with_reducible refine LeO.ite ?_ ?_)
      | (with_reducible refine LeO.bind ?_ (fun _ => ?_))
      | exact ih0 _ _ _ _ _ _ _ _
      | exact ih1 _ _ _ _ _ _ _ _
      | exact LeO.none _
      | refine LeO.ite ?_ ?_
      | refine LeO.bind ?_ (fun _ => ?_)
theorem impl_IsModel.mono : ∀ a0 a1 a2 a3 a4 a5 k, LeO (impl_IsModel.f k a0 a1 a2 a3 a4 a5) (impl_IsModel.f (k + 1) a0 a1 a2 a3 a4 a5) := by
  intro a0 a1 a2 a3 a4 a5 k
  obtain ⟨ih0, ih1⟩ := impl_IsModel.mono_l k
  unfold impl_IsModel.f
  repeat' first
      | (with_reducible exact ih0 _ _ _ _ _ _ _ _)
      | (with_reducible exact ih1 _ _ _ _ _ _ _ _)
      | (with_reducible exact LeO.refl _)
      | (with_reducible exact LeO.none _)
      | (with_reducible refine LeO.ite ?_ ?_)
      | (with_reducible refine LeO.bind ?_ (fun _ => ?_))
      | exact ih0 _ _ _ _ _ _ _ _
      | exact ih1 _ _ _ _ _ _ _ _
      | exact LeO.none _
      | refine LeO.ite ?_ ?_
      | refine LeO.bind ?_ (fun _ => ?_)
/-! ### impl_areBlocks: function 98 -/
def impl_areBlocks.l0 : Nat → List Int → Int → List Int → Int → Int → Option (Bool)
  | 0, _, _, _, _, _ => none
  | k + 1, x0, x1, x7, x8, x9 => if x9 < x8 then (if 0 ≤ x9 then (if x9 < (x7.length : Int) then (if (rd x7 x9) < 0 then (some false) else (if (rd x7 x9) ≥ x1 then (some false) else (if x9 > 0 then (if 0 ≤ (wrap64 (x9 - 1)) then (if (wrap64 (x9 - 1)) < (x0.length : Int) then (if (rd x7 x9) ≤ (rd x0 (wrap64 (x9 - 1))) then (some false) else (impl_areBlocks.l0 k x0 x1 x7 x8 (wrap64 (x9 + 1)))) else (none)) else (none)) else (impl_areBlocks.l0 k x0 x1 x7 x8 (wrap64 (x9 + 1)))))) else (none)) else (none)) else (some true)
def impl_areBlocks.f (k : Nat) (l0 : List Int) (a1 : Int) : Option (Bool) := impl_areBlocks.l0 k l0 a1 l0 (l0.length : Int) 0
theorem impl_areBlocks.mono_l : ∀ k, (∀ y0 y1 y2 y3 y4, LeO (impl_areBlocks.l0 k y0 y1 y2 y3 y4) (impl_areBlocks.l0 (k + 1) y0 y1 y2 y3 y4))
  | 0 => fun _ _ _ _ _ r h => by simp [impl_areBlocks.l0] at h
  | k + 1 => by
    have ih0 := impl_areBlocks.mono_l k
    · intro y0 y1 y2 y3 y4
      unfold impl_areBlocks.l0
      repeat' first
      | (with_reducible exact ih0 _ _ _ _ _)
      | (with_reducible exact LeO.refl _)
      | (with_reducible exact LeO.none _)
      | (with_reducible refine LeO.ite ?_ ?_)
      | (with_reducible refine LeO.bind ?_ (fun _ => ?_))
      | exact ih0 _ _ _ _ _
      | exact LeO.none _
      | refine LeO.ite ?_ ?_
      | refine LeO.bind ?_ (fun _ => ?_)
theorem impl_areBlocks.mono : ∀ a0 a1 k, LeO (impl_areBlocks.f k a0 a1) (impl_areBlocks.f (k + 1) a0 a1) := by
  intro a0 a1 k
  have ih0 := impl_areBlocks.mono_l k
  unfold impl_areBlocks.f
  repeat' first
      | (with_reducible exact ih0 _ _ _ _ _)
      | (with_reducible exact LeO.refl _)
      | (with_reducible exact LeO.none _)
      | (with_reducible refine LeO.ite ?_ ?_)
      | (with_reducible refine LeO.bind ?_ (fun _ => ?_))
      | exact ih0 _ _ _ _ _
      | exact LeO.none _
      | refine LeO.ite ?_ ?_
      | refine LeO.bind ?_ (fun _ => ?_)
/-! ### impl_sumsOf: function 99 -/
def impl_sumsOf.l0 : Nat → Int → Int → List Int → Int → Int → Int → Int → Int → List Int → List Int → List Int → Option (Int × Int)
  | 0, _, _, _, _, _, _, _, _, _, _, _ => none
  | k + 1, x6, x7, x10, x11, x12, x115000, x115001, x115002, x115003, x115004, x115005 => if x12 < x11 then (if 0 ≤ x12 then (if x12 < (x10.length : Int) then (if 0 ≤ (rd x10 x12) then (if (rd x10 x12) < (x115003.length : Int) then (if (rd x10 x12) < (x115004.length : Int) then (impl_sumsOf.l0 k (wrap64 (x6 + (rd x115003 (rd x10 x12)))) (wrap64 (x7 + (wrap64 ((rd x115003 (rd x10 x12)) * (rd x115004 (rd x10 x12)))))) x10 x11 (wrap64 (x12 + 1)) x115000 x115001 x115002 x115003 x115004 x115005) else (none)) else (none)) else (none)) else (none)) else (none)) else (some (x6, x7))
def impl_sumsOf.f (k : Nat) (a0_0 : Int) (a0_1 : Int) (a0_2 : Int) (l0_3 : List Int) (l0_4 : List Int) (l0_5 : List Int) (l1 : List Int) : Option (Int × Int) := impl_sumsOf.l0 k 0 0 l1 (l1.length : Int) 0 a0_0 a0_1 a0_2 l0_3 l0_4 l0_5
theorem impl_sumsOf.mono_l : ∀ k, (∀ y0 y1 y2 y3 y4 y5 y6 y7 y8 y9 y10, LeO (impl_sumsOf.l0 k y0 y1 y2 y3 y4 y5 y6 y7 y8 y9 y10) (impl_sumsOf.l0 (k + 1) y0 y1 y2 y3 y4 y5 y6 y7 y8 y9 y10))
  | 0 => fun _ _ _ _ _ _ _ _ _ _ _ r h => by simp [impl_sumsOf.l0] at h
  | k + 1 => by
    have ih0 := impl_sumsOf.mono_l k
    · intro y0 y1 y2 y3 y4 y5 y6 y7 y8 y9 y10
      unfold impl_sumsOf.l0
      repeat' first
      | (with_reducible exact ih0 _ _ _ _ _ _ _ _ _ _ _)
      | (with_reducible exact LeO.refl _)
      | (with_reducible exact LeO.none _)
      | (with_reducible refine LeO.ite ?_ ?_)
      | (with_reducible refine LeO.bind ?_ (fun _ => ?_))
      | exact ih0 _ _ _ _ _ _ _ _ _ _ _
      | exact LeO.none _
      | refine LeO.ite ?_ ?_
      | refine LeO.bind ?_ (fun _ => ?_)
theorem impl_sumsOf.mono : ∀ a0 a1 a2 a3 a4 a5 a6 k, LeO (impl_sumsOf.f k a0 a1 a2 a3 a4 a5 a6) (impl_sumsOf.f (k + 1) a0 a1 a2 a3 a4 a5 a6) := by
  intro a0 a1 a2 a3 a4 a5 a6 k
  have ih0 := impl_sumsOf.mono_l k
  unfold impl_sumsOf.f
  repeat' first
      | (with_reducible exact ih0 _ _ _ _ _ _ _ _ _ _ _)
      | (with_reducible exact LeO.refl _)
      | (with_reducible exact LeO.none _)
      | (with_reducible refine LeO.ite ?_ ?_)
      | (with_reducible refine LeO.bind ?_ (fun _ => ?_))
      | exact ih0 _ _ _ _ _ _ _ _ _ _ _
      | exact LeO.none _
      | refine LeO.ite ?_ ?_
      | refine LeO.bind ?_ (fun _ => ?_)
/-! ### impl_SumsOf: function 21 -/
def impl_SumsOf.f (k : Nat) (a0_0 : Int) (a0_1 : Int) (a0_2 : Int) (l0_3 : List Int) (l0_4 : List Int) (l0_5 : List Int) (l1 : List Int) : Option (Int × Int × Bool) := (impl_IsModel.f k a0_0 a0_1 a0_2 l0_3 l0_4 l0_5).bind fun t120 => (if t120 = true then ((impl_areBlocks.f k l1 (l0_3.length : Int)).bind fun t121 => (if t121 = true then ((impl_sumsOf.f k a0_0 a0_1 a0_2 l0_3 l0_4 l0_5 l1).bind fun bt122 => (some (bt122.1, bt122.2, true))) else (some (0, 0, false)))) else (some (0, 0, false)))
theorem impl_SumsOf.mono : ∀ a0 a1 a2 a3 a4 a5 a6 k, LeO (impl_SumsOf.f k a0 a1 a2 a3 a4 a5 a6) (impl_SumsOf.f (k + 1) a0 a1 a2 a3 a4 a5 a6) := by
  intro a0 a1 a2 a3 a4 a5 a6 k
  unfold impl_SumsOf.f
  repeat' first
      | (with_reducible exact impl_IsModel.mono _ _ _ _ _ _ _)
      | (with_reducible exact impl_areBlocks.mono _ _ _)
      | (with_reducible exact impl_sumsOf.mono _ _ _ _ _ _ _ _)
      | (with_reducible exact LeO.refl _)
      | (with_reducible exact LeO.none _)
      | (with_reducible refine LeO.ite ?_ ?_)
      | (with_reducible refine LeO.bind ?_ (fun _ => ?_))
      | exact impl_IsModel.mono _ _ _ _ _ _ _
      | exact impl_areBlocks.mono _ _ _
      | exact impl_sumsOf.mono _ _ _ _ _ _ _ _
      | exact LeO.none _
      | refine LeO.ite ?_ ?_
      | refine LeO.bind ?_ (fun _ => ?_)
def IsS129 (w0 W : World) (g : Nat) (f0 : List Int) (f1 : Int) (f2 : Int) : Prop := ∃ A0 c0, W.heap[g]? = some (.cells #[.slice A0 f0.length c0, .int .i64 f1, .int .u64 f2] 129 (0, 0)) ∧ w0.heap.size ≤ g ∧ Kd.C (Kd.int .u8) w0 A0 f0.length f0
/-! ### spec_l1Cur_next: function 178 -/
def spec_l1Cur_next.f (s0_0 : List Int) (s0_1 : Int) (s0_2 : Int) : Option (Int × Int × Int) := if s0_1 < (s0_0.length : Int) then (if 0 ≤ s0_1 then (if (wrap64 (s0_1 + 1)) ≤ (s0_0.length : Int) then (some (wrap64 (rd s0_0 s0_1), wrap64 (s0_1 + 1), IntKind.u64.wrap ((IntKind.u64.wrap ((IntKind.u64.wrap (s0_2 * 6364136223846793005)) + (IntKind.u64.wrap (wrap64 (rd s0_0 s0_1))))) + 1442695040888963407))) else (some (wrap64 (Go.bits .and .u64 ((IntKind.u64.wrap ((IntKind.u64.wrap ((IntKind.u64.wrap (s0_2 * 6364136223846793005)) + (IntKind.u64.wrap (wrap64 (rd s0_0 s0_1))))) + 1442695040888963407)) / 1099511627776) 255), wrap64 (s0_1 + 1), IntKind.u64.wrap ((IntKind.u64.wrap ((IntKind.u64.wrap (s0_2 * 6364136223846793005)) + (IntKind.u64.wrap (wrap64 (rd s0_0 s0_1))))) + 1442695040888963407)))) else (none)) else (if (wrap64 (s0_1 + 1)) ≤ (s0_0.length : Int) then (some (0, wrap64 (s0_1 + 1), IntKind.u64.wrap ((IntKind.u64.wrap ((IntKind.u64.wrap (s0_2 * 6364136223846793005)) + 0)) + 1442695040888963407))) else (some (wrap64 (Go.bits .and .u64 ((IntKind.u64.wrap ((IntKind.u64.wrap ((IntKind.u64.wrap (s0_2 * 6364136223846793005)) + 0)) + 1442695040888963407)) / 1099511627776) 255), wrap64 (s0_1 + 1), IntKind.u64.wrap ((IntKind.u64.wrap ((IntKind.u64.wrap (s0_2 * 6364136223846793005)) + 0)) + 1442695040888963407))))
/-! ### spec_l1Cur_pick: function 96 -/
def spec_l1Cur_pick.f (s0_0 : List Int) (s0_1 : Int) (s0_2 : Int) (a1 : Int) : Option (Int × Int × Int) := if a1 ≤ 1 then (some (0, s0_1, s0_2)) else ((spec_l1Cur_next.f s0_0 s0_1 s0_2).bind fun bt125 => (if a1 > 200 then ((spec_l1Cur_next.f s0_0 bt125.2.1 bt125.2.2).bind fun bt128 => (if a1 = 0 then (none) else (some (Int.tmod (wrap64 ((wrap64 (bt125.1 * 256)) + bt128.1)) a1, bt128.2.1, bt128.2.2)))) else (if a1 = 0 then (none) else (some (Int.tmod bt125.1 a1, bt125.2.1, bt125.2.2)))))
/-! ### spec_l1Cur_among: function 111 -/
def spec_l1Cur_among.f (s0_0 : List Int) (s0_1 : Int) (s0_2 : Int) (l1 : List Int) : Option (Int × Int × Int) := (spec_l1Cur_pick.f s0_0 s0_1 s0_2 (l1.length : Int)).bind fun bt131 => (if 0 ≤ bt131.1 then (if bt131.1 < (l1.length : Int) then (some (rd l1 bt131.1, bt131.2.1, bt131.2.2)) else (none)) else (none))
/-! ### spec_l1Cur_one: function 145 -/
def spec_l1Cur_one.f (s0_0 : List Int) (s0_1 : Int) (s0_2 : Int) (a1 : Int) : Option (Bool × Int × Int) := (spec_l1Cur_pick.f s0_0 s0_1 s0_2 a1).bind fun bt135 => (some ((bt135.1 == 0), bt135.2.1, bt135.2.2))
/-! ### spec_l1Cur_grid: function 189 -/
def spec_l1Cur_grid.f (s0_0 : List Int) (s0_1 : Int) (s0_2 : Int) : Option (Int × Int × Int × Int × Int) := (spec_l1Cur_one.f s0_0 s0_1 s0_2 24).bind fun bt139 => (if bt139.1 = true then ((some (([(⟨8, 5, 3⟩ : S24), (⟨8, 3, 5⟩ : S24), (⟨4, 6, 5⟩ : S24), (⟨1, 1, 1⟩ : S24)] : List (S24)) : List (S24))).bind fun y142 => ((spec_l1Cur_pick.f s0_0 bt139.2.1 bt139.2.2 4).bind fun bt145 => (if 0 ≤ bt145.1 then (if bt145.1 < (y142.length : Int) then (some ((rd_T24 y142 bt145.1).f0, (rd_T24 y142 bt145.1).f1, (rd_T24 y142 bt145.1).f2, bt145.2.1, bt145.2.2)) else (none)) else (none)))) else ((spec_l1Cur_pick.f s0_0 bt139.2.1 bt139.2.2 4).bind fun bt149 => ((spec_l1Cur_pick.f s0_0 bt149.2.1 bt149.2.2 3).bind fun bt152 => ((spec_l1Cur_pick.f s0_0 bt152.2.1 bt152.2.2 3).bind fun bt155 => (some (wrap64 (1 + bt149.1), wrap64 (1 + bt152.1), wrap64 (1 + bt155.1), bt155.2.1, bt155.2.2))))))
/-! ### spec_l1Cur_anyGrid: function 136 -/
def spec_l1Cur_anyGrid.f (s0_0 : List Int) (s0_1 : Int) (s0_2 : Int) : Option (Int × Int × Int × Int × Int) := (spec_l1Cur_grid.f s0_0 s0_1 s0_2).bind fun bt159 => ((spec_l1Cur_pick.f s0_0 bt159.2.2.2.1 bt159.2.2.2.2 30).bind fun bt165 => (if bt165.1 = 0 then ((spec_l1Cur_among.f s0_0 bt165.2.1 bt165.2.2 (([0, 8, 9, (-1)] : List Int))).bind fun bt171 => (some (bt171.1, bt159.2.1, bt159.2.2.1, bt171.2.1, bt171.2.2))) else (if bt165.1 = 1 then ((spec_l1Cur_among.f s0_0 bt165.2.1 bt165.2.2 (([0, 6, 7, (-1)] : List Int))).bind fun bt177 => (some (bt159.1, bt177.1, bt159.2.2.1, bt177.2.1, bt177.2.2))) else (if bt165.1 = 2 then ((spec_l1Cur_among.f s0_0 bt165.2.1 bt165.2.2 (([0, 5, 6, (-1)] : List Int))).bind fun bt183 => (some (bt159.1, bt159.2.1, bt183.1, bt183.2.1, bt183.2.2))) else (if bt165.1 = 3 then ((spec_l1Cur_among.f s0_0 bt165.2.1 bt165.2.2 (([2, 3] : List Int))).bind fun bt189 => (some (8, 6, bt189.1, bt189.2.1, bt189.2.2))) else (if bt165.1 = 4 then (some (1, 1, 4611686018427387904, bt165.2.1, bt165.2.2)) else (some (bt159.1, bt159.2.1, bt159.2.2.1, bt165.2.1, bt165.2.2))))))))
/-! ### spec_grCount: function 180 -/
def spec_grCount.f (a0_0 : Int) (a0_1 : Int) (a0_2 : Int) : Option (Int) := some (wrap64 ((wrap64 (a0_0 * a0_1)) * a0_2))
/-! ### spec_l1Cur_model: function 183 -/
def spec_l1Cur_model.l0 : Nat → Int → List Int → Int → Int → Int → Int → Int → List Int → List Int → List Int → Option (Int × Int × Int × List Int × List Int × List Int × Int × Int)
  | 0, _, _, _, _, _, _, _, _, _, _ => none
  | k + 1, x4, x1000, x1001, x1002, x200000, x200001, x200002, x200003, x200004, x200005 => if x4 > 0 then ((spec_l1Cur_pick.f x1000 x1001 x1002 10001).bind fun bt201 => ((spec_l1Cur_among.f x1000 bt201.2.1 bt201.2.2 (([0, 100, 100, 200, 500, 1000, bt201.1] : List Int))).bind fun bt207 => (if x200003.length < 17592186044416 then ((spec_l1Cur_pick.f x1000 bt207.2.1 bt207.2.2 1001).bind fun bt213 => ((spec_l1Cur_among.f x1000 bt213.2.1 bt213.2.2 (([0, 0, 5, 10, 20, 50, bt213.1] : List Int))).bind fun bt219 => (if x200004.length < 17592186044416 then ((spec_l1Cur_pick.f x1000 bt219.2.1 bt219.2.2 5).bind fun bt225 => (if x200005.length < 17592186044416 then (spec_l1Cur_model.l0 k (wrap64 (x4 - 1)) x1000 bt225.2.1 bt225.2.2 x200000 x200001 x200002 (x200003 ++ [bt207.1]) (x200004 ++ [bt219.1]) (x200005 ++ [bt225.1])) else (none))) else (none)))) else (none)))) else (some (x200000, x200001, x200002, x200003, x200004, x200005, x1001, x1002))
def spec_l1Cur_model.f (k : Nat) (s0_0 : List Int) (s0_1 : Int) (s0_2 : Int) : Option (Int × Int × Int × List Int × List Int × List Int × Int × Int) := (spec_l1Cur_grid.f s0_0 s0_1 s0_2).bind fun bt194 => ((spec_grCount.f bt194.1 bt194.2.1 bt194.2.2.1).bind fun t200 => (spec_l1Cur_model.l0 k t200 s0_0 bt194.2.2.2.1 bt194.2.2.2.2 bt194.1 bt194.2.1 bt194.2.2.1 ([] : List Int) ([] : List Int) ([] : List Int)))
theorem spec_l1Cur_model.mono_l : ∀ k, (∀ y0 y1 y2 y3 y4 y5 y6 y7 y8 y9, LeO (spec_l1Cur_model.l0 k y0 y1 y2 y3 y4 y5 y6 y7 y8 y9) (spec_l1Cur_model.l0 (k + 1) y0 y1 y2 y3 y4 y5 y6 y7 y8 y9))
  | 0 => fun _ _ _ _ _ _ _ _ _ _ r h => by simp [spec_l1Cur_model.l0] at h
  | k + 1 => by
    have ih0 := spec_l1Cur_model.mono_l k
    · intro y0 y1 y2 y3 y4 y5 y6 y7 y8 y9
      unfold spec_l1Cur_model.l0
      repeat' first
      | (with_reducible exact ih0 _ _ _ _ _ _ _ _ _ _)
      | (with_reducible exact LeO.refl _)
      | (with_reducible exact LeO.none _)
      | (with_reducible refine LeO.ite ?_ ?_)
      | (with_reducible refine LeO.bind ?_ (fun _ => ?_))
      | exact ih0 _ _ _ _ _ _ _ _ _ _
      | exact LeO.none _
      | refine LeO.ite ?_ ?_
      | refine LeO.bind ?_ (fun _ => ?_)
theorem spec_l1Cur_model.mono : ∀ a0 a1 a2 k, LeO (spec_l1Cur_model.f k a0 a1 a2) (spec_l1Cur_model.f (k + 1) a0 a1 a2) := by
  intro a0 a1 a2 k
  have ih0 := spec_l1Cur_model.mono_l k
  unfold spec_l1Cur_model.f
  repeat' first
      | (with_reducible exact ih0 _ _ _ _ _ _ _ _ _ _)
      | (with_reducible exact LeO.refl _)
      | (with_reducible exact LeO.none _)
      | (with_reducible refine LeO.ite ?_ ?_)
      | (with_reducible refine LeO.bind ?_ (fun _ => ?_))
      | exact ih0 _ _ _ _ _ _ _ _ _ _
      | exact LeO.none _
      | refine LeO.ite ?_ ?_
      | refine LeO.bind ?_ (fun _ => ?_)
/-! ### spec_l1Cur_anyModel: function 110 -/
def spec_l1Cur_anyModel.f (k : Nat) (s0_0 : List Int) (s0_1 : Int) (s0_2 : Int) : Option (Int × Int × Int × List Int × List Int × List Int × Int × Int) := (spec_l1Cur_model.f k s0_0 s0_1 s0_2).bind fun bt232 => ((spec_grCount.f bt232.1 bt232.2.1 bt232.2.2.1).bind fun t247 => ((spec_l1Cur_pick.f s0_0 bt232.2.2.2.2.2.2.1 bt232.2.2.2.2.2.2.2 30).bind fun bt248 => (if bt248.1 = 0 then ((spec_l1Cur_anyGrid.f s0_0 bt248.2.1 bt248.2.2).bind fun bt251 => (some (bt251.1, bt251.2.1, bt251.2.2.1, bt232.2.2.2.1, bt232.2.2.2.2.1, bt232.2.2.2.2.2.1, bt251.2.2.2.1, bt251.2.2.2.2))) else (if bt248.1 = 1 then ((spec_l1Cur_pick.f s0_0 bt248.2.1 bt248.2.2 t247).bind fun bt256 => ((spec_l1Cur_among.f s0_0 bt256.2.1 bt256.2.2 (([(-1), 10000, 10001] : List Int))).bind fun bt262 => (if 0 ≤ bt256.1 then (if bt256.1 < (bt232.2.2.2.1.length : Int) then (some (bt232.1, bt232.2.1, bt232.2.2.1, (bt232.2.2.2.1.set (bt256.1 : Int).toNat bt262.1), bt232.2.2.2.2.1, bt232.2.2.2.2.2.1, bt262.2.1, bt262.2.2)) else (none)) else (none)))) else (if bt248.1 = 2 then ((spec_l1Cur_pick.f s0_0 bt248.2.1 bt248.2.2 t247).bind fun bt266 => ((spec_l1Cur_among.f s0_0 bt266.2.1 bt266.2.2 (([(-1), 1000, 1001] : List Int))).bind fun bt272 => (if 0 ≤ bt266.1 then (if bt266.1 < (bt232.2.2.2.2.1.length : Int) then (some (bt232.1, bt232.2.1, bt232.2.2.1, bt232.2.2.2.1, (bt232.2.2.2.2.1.set (bt266.1 : Int).toNat bt272.1), bt232.2.2.2.2.2.1, bt272.2.1, bt272.2.2)) else (none)) else (none)))) else (if bt248.1 = 3 then ((spec_l1Cur_pick.f s0_0 bt248.2.1 bt248.2.2 t247).bind fun bt276 => ((spec_l1Cur_among.f s0_0 bt276.2.1 bt276.2.2 (([(-1), 4, 5] : List Int))).bind fun bt282 => (if 0 ≤ bt276.1 then (if bt276.1 < (bt232.2.2.2.2.2.1.length : Int) then (some (bt232.1, bt232.2.1, bt232.2.2.1, bt232.2.2.2.1, bt232.2.2.2.2.1, (bt232.2.2.2.2.2.1.set (bt276.1 : Int).toNat bt282.1), bt282.2.1, bt282.2.2)) else (none)) else (none)))) else (if bt248.1 = 4 then (if bt232.2.2.2.2.2.1.length < 17592186044416 then (some (bt232.1, bt232.2.1, bt232.2.2.1, bt232.2.2.2.1, bt232.2.2.2.2.1, (bt232.2.2.2.2.2.1 ++ [0]), bt248.2.1, bt248.2.2)) else (none)) else (some (bt232.1, bt232.2.1, bt232.2.2.1, bt232.2.2.2.1, bt232.2.2.2.2.1, bt232.2.2.2.2.2.1, bt248.2.1, bt248.2.2)))))))))
theorem spec_l1Cur_anyModel.mono : ∀ a0 a1 a2 k, LeO (spec_l1Cur_anyModel.f k a0 a1 a2) (spec_l1Cur_anyModel.f (k + 1) a0 a1 a2) := by
  intro a0 a1 a2 k
  unfold spec_l1Cur_anyModel.f
  repeat' first
      | (with_reducible exact spec_l1Cur_model.mono _ _ _ _)
      | (with_reducible exact LeO.refl _)
      | (with_reducible exact LeO.none _)
      | (with_reducible refine LeO.ite ?_ ?_)
      | (with_reducible refine LeO.bind ?_ (fun _ => ?_))
      | exact spec_l1Cur_model.mono _ _ _ _
      | exact LeO.none _
      | refine LeO.ite ?_ ?_
      | refine LeO.bind ?_ (fun _ => ?_)
/-! ### spec_l1Own: function 185 -/
def spec_l1Own.f (l0 : List Int) : Option (List Int) := (some (([] : List Int) : List Int)).bind fun y289 => (if y289.length + l0.length < 17592186044416 then (some (y289 ++ l0)) else (none))
/-! ### spec_moOwn: function 119 -/
def spec_moOwn.f (a0_0 : Int) (a0_1 : Int) (a0_2 : Int) (l0_3 : List Int) (l0_4 : List Int) (l0_5 : List Int) : Option (Int × Int × Int × List Int × List Int × List Int) := (spec_l1Own.f l0_3).bind fun t297 => ((spec_l1Own.f l0_4).bind fun t300 => ((spec_l1Own.f l0_5).bind fun t303 => (some (a0_0, a0_1, a0_2, t297, t300, t303))))
/-! ### spec_l1Least: function 120 -/
def spec_l1Least.f (a0 : Int) (a1 : Int) : Option (Int) := if a0 < a1 then (some a0) else (some a1)
/-! ### spec_l1Most: function 177 -/
def spec_l1Most.f (a0 : Int) (a1 : Int) : Option (Int) := if a0 > a1 then (some a0) else (some a1)
/-! ### spec_l1Cur_beside: function 94 -/
def spec_l1Cur_beside.l0 : Nat → Int → Int → List Int → Int → Int → Int → Int → Int → List Int → List Int → List Int → Int → Int → Int → List Int → List Int → List Int → Option (Int × Int × Int × List Int × List Int × List Int × Int × Int × Int × List Int × List Int × List Int × Int × Int)
  | 0, _, _, _, _, _, _, _, _, _, _, _, _, _, _, _, _, _ => none
  | k + 1, x18, x19, x1000, x1001, x1002, x323000, x323001, x323002, x323003, x323004, x323005, x353000, x353001, x353002, x353003, x353004, x353005 => if x19 < x18 then ((spec_l1Cur_pick.f x1000 x1001 x1002 4).bind fun bt353 => (if bt353.1 = 0 then (if 0 ≤ x19 then (if x19 < (x353004.length : Int) then ((spec_l1Cur_pick.f x1000 bt353.2.1 bt353.2.2 30).bind fun bt357 => ((spec_l1Most.f 0 (wrap64 ((wrap64 ((rd x353004 x19) + bt357.1)) - 15))).bind fun t360 => ((spec_l1Least.f 1000 t360).bind fun t361 => (spec_l1Cur_beside.l0 k x18 (wrap64 (x19 + 1)) x1000 bt357.2.1 bt357.2.2 x323000 x323001 x323002 x323003 x323004 x323005 x353000 x353001 x353002 x353003 (x353004.set (x19 : Int).toNat t361) x353005)))) else (none)) else (none)) else (if bt353.1 = 1 then (if x19 < (x353003.length : Int) then (if 0 ≤ x19 then ((spec_l1Cur_pick.f x1000 bt353.2.1 bt353.2.2 200).bind fun bt364 => ((spec_l1Most.f 0 (wrap64 ((rd x353003 x19) - bt364.1))).bind fun t367 => (spec_l1Cur_beside.l0 k x18 (wrap64 (x19 + 1)) x1000 bt364.2.1 bt364.2.2 x323000 x323001 x323002 x323003 x323004 x323005 x353000 x353001 x353002 (x353003.set (x19 : Int).toNat t367) x353004 x353005))) else (none)) else (spec_l1Cur_beside.l0 k x18 (wrap64 (x19 + 1)) x1000 bt353.2.1 bt353.2.2 x323000 x323001 x323002 x323003 x323004 x323005 x353000 x353001 x353002 x353003 x353004 x353005)) else (spec_l1Cur_beside.l0 k x18 (wrap64 (x19 + 1)) x1000 bt353.2.1 bt353.2.2 x323000 x323001 x323002 x323003 x323004 x323005 x353000 x353001 x353002 x353003 x353004 x353005)))) else (some (x323000, x323001, x323002, x323003, x323004, x323005, x353000, x353001, x353002, x353003, x353004, x353005, x1001, x1002))
def spec_l1Cur_beside.f (k : Nat) (s0_0 : List Int) (s0_1 : Int) (s0_2 : Int) : Option (Int × Int × Int × List Int × List Int × List Int × Int × Int × Int × List Int × List Int × List Int × Int × Int) := (spec_l1Cur_anyModel.f k s0_0 s0_1 s0_2).bind fun bt308 => ((spec_l1Cur_one.f s0_0 bt308.2.2.2.2.2.2.1 bt308.2.2.2.2.2.2.2 10).bind fun bt323 => (if bt323.1 = true then ((spec_l1Cur_anyModel.f k s0_0 bt323.2.1 bt323.2.2).bind fun bt326 => (some (bt308.1, bt308.2.1, bt308.2.2.1, bt308.2.2.2.1, bt308.2.2.2.2.1, bt308.2.2.2.2.2.1, bt326.1, bt326.2.1, bt326.2.2.1, bt326.2.2.2.1, bt326.2.2.2.2.1, bt326.2.2.2.2.2.1, bt326.2.2.2.2.2.2.1, bt326.2.2.2.2.2.2.2))) else ((spec_moOwn.f bt308.1 bt308.2.1 bt308.2.2.1 bt308.2.2.2.1 bt308.2.2.2.2.1 bt308.2.2.2.2.2.1).bind fun bt340 => (spec_l1Cur_beside.l0 k (bt340.2.2.2.2.1.length : Int) 0 s0_0 bt323.2.1 bt323.2.2 bt308.1 bt308.2.1 bt308.2.2.1 bt308.2.2.2.1 bt308.2.2.2.2.1 bt308.2.2.2.2.2.1 bt340.1 bt340.2.1 bt340.2.2.1 bt340.2.2.2.1 bt340.2.2.2.2.1 bt340.2.2.2.2.2))))
theorem spec_l1Cur_beside.mono_l : ∀ k, (∀ y0 y1 y2 y3 y4 y5 y6 y7 y8 y9 y10 y11 y12 y13 y14 y15 y16, LeO (spec_l1Cur_beside.l0 k y0 y1 y2 y3 y4 y5 y6 y7 y8 y9 y10 y11 y12 y13 y14 y15 y16) (spec_l1Cur_beside.l0 (k + 1) y0 y1 y2 y3 y4 y5 y6 y7 y8 y9 y10 y11 y12 y13 y14 y15 y16))
  | 0 => fun _ _ _ _ _ _ _ _ _ _ _ _ _ _ _ _ _ r h => by simp [spec_l1Cur_beside.l0] at h
  | k + 1 => by
    have ih0 := spec_l1Cur_beside.mono_l k
    · intro y0 y1 y2 y3 y4 y5 y6 y7 y8 y9 y10 y11 y12 y13 y14 y15 y16
      unfold spec_l1Cur_beside.l0
      repeat' first
      | (with_reducible exact ih0 _ _ _ _ _ _ _ _ _ _ _ _ _ _ _ _ _)
      | (with_reducible exact spec_l1Cur_anyModel.mono _ _ _ _)
      | (with_reducible exact LeO.refl _)
      | (with_reducible exact LeO.none _)
      | (with_reducible refine LeO.ite ?_ ?_)
      | (with_reducible refine LeO.bind ?_ (fun _ => ?_))
      | exact ih0 _ _ _ _ _ _ _ _ _ _ _ _ _ _ _ _ _
      | exact spec_l1Cur_anyModel.mono _ _ _ _
      | exact LeO.none _
      | refine LeO.ite ?_ ?_
      | refine LeO.bind ?_ (fun _ => ?_)
theorem spec_l1Cur_beside.mono : ∀ a0 a1 a2 k, LeO (spec_l1Cur_beside.f k a0 a1 a2) (spec_l1Cur_beside.f (k + 1) a0 a1 a2) := by
  intro a0 a1 a2 k
  have ih0 := spec_l1Cur_beside.mono_l k
  unfold spec_l1Cur_beside.f
  repeat' first
      | (with_reducible exact ih0 _ _ _ _ _ _ _ _ _ _ _ _ _ _ _ _ _)
      | (with_reducible exact spec_l1Cur_anyModel.mono _ _ _ _)
      | (with_reducible exact LeO.refl _)
      | (with_reducible exact LeO.none _)
      | (with_reducible refine LeO.ite ?_ ?_)
      | (with_reducible refine LeO.bind ?_ (fun _ => ?_))
      | exact ih0 _ _ _ _ _ _ _ _ _ _ _ _ _ _ _ _ _
      | exact spec_l1Cur_anyModel.mono _ _ _ _
      | exact LeO.none _
      | refine LeO.ite ?_ ?_
      | refine LeO.bind ?_ (fun _ => ?_)
/-! ### spec_l1Cur_gradeOf: function 113 -/
def spec_l1Cur_gradeOf.j0 : Nat → Bool → List Int → Int → Int → Int → Int → Int → List Int → List Int → List Int → Option (Int × Int × Int)
  | 0, _, _, _, _, _, _, _, _, _, _ => none
  | k + 1, x12, x1000, x1001, x1002, x370000, x370001, x370002, x370003, x370004, x370005 => if x12 = true then ((spec_l1Cur_pick.f x1000 x1001 x1002 (x370004.length : Int)).bind fun bt373 => (if 0 ≤ bt373.1 then (if bt373.1 < (x370004.length : Int) then (some (rd x370004 bt373.1, bt373.2.1, bt373.2.2)) else (none)) else (none))) else ((spec_l1Cur_among.f x1000 x1001 x1002 (([0, 10, 20, 40, 1000, 1001, (-1)] : List Int))).bind fun bt380 => (some (bt380.1, bt380.2.1, bt380.2.2)))
def spec_l1Cur_gradeOf.f (k : Nat) (s0_0 : List Int) (s0_1 : Int) (s0_2 : Int) (a1_0 : Int) (a1_1 : Int) (a1_2 : Int) (l1_3 : List Int) (l1_4 : List Int) (l1_5 : List Int) : Option (Int × Int × Int) := if (l1_4.length : Int) > 0 then ((spec_l1Cur_one.f s0_0 s0_1 s0_2 2).bind fun bt370 => (spec_l1Cur_gradeOf.j0 k bt370.1 s0_0 bt370.2.1 bt370.2.2 a1_0 a1_1 a1_2 l1_3 l1_4 l1_5)) else (spec_l1Cur_gradeOf.j0 k false s0_0 s0_1 s0_2 a1_0 a1_1 a1_2 l1_3 l1_4 l1_5)
theorem spec_l1Cur_gradeOf.mono_l : ∀ k, (∀ y0 y1 y2 y3 y4 y5 y6 y7 y8 y9, LeO (spec_l1Cur_gradeOf.j0 k y0 y1 y2 y3 y4 y5 y6 y7 y8 y9) (spec_l1Cur_gradeOf.j0 (k + 1) y0 y1 y2 y3 y4 y5 y6 y7 y8 y9))
  | 0 => fun _ _ _ _ _ _ _ _ _ _ r h => by simp [spec_l1Cur_gradeOf.j0] at h
  | k + 1 => by
    have ih0 := spec_l1Cur_gradeOf.mono_l k
    · intro y0 y1 y2 y3 y4 y5 y6 y7 y8 y9
      unfold spec_l1Cur_gradeOf.j0
      repeat' first
      | (with_reducible exact ih0 _ _ _ _ _ _ _ _ _ _)
      | (with_reducible exact LeO.refl _)
      | (with_reducible exact LeO.none _)
      | (with_reducible refine LeO.ite ?_ ?_)
      | (with_reducible refine LeO.bind ?_ (fun _ => ?_))
      | exact ih0 _ _ _ _ _ _ _ _ _ _
      | exact LeO.none _
      | refine LeO.ite ?_ ?_
      | refine LeO.bind ?_ (fun _ => ?_)
theorem spec_l1Cur_gradeOf.mono : ∀ a0 a1 a2 a3 a4 a5 a6 a7 a8 k, LeO (spec_l1Cur_gradeOf.f k a0 a1 a2 a3 a4 a5 a6 a7 a8) (spec_l1Cur_gradeOf.f (k + 1) a0 a1 a2 a3 a4 a5 a6 a7 a8) := by
  intro a0 a1 a2 a3 a4 a5 a6 a7 a8 k
  have ih0 := spec_l1Cur_gradeOf.mono_l k
  unfold spec_l1Cur_gradeOf.f
  repeat' first
      | (with_reducible exact ih0 _ _ _ _ _ _ _ _ _ _)
      | (with_reducible exact LeO.refl _)
      | (with_reducible exact LeO.none _)
      | (with_reducible refine LeO.ite ?_ ?_)
      | (with_reducible refine LeO.bind ?_ (fun _ => ?_))
      | exact ih0 _ _ _ _ _ _ _ _ _ _
      | exact LeO.none _
      | refine LeO.ite ?_ ?_
      | refine LeO.bind ?_ (fun _ => ?_)
/-! ### spec_DrawSortTable: function 23 -/
def spec_DrawSortTable.f (k : Nat) (l0 : List Int) : Option (Int × Int × Int × List Int × List Int × List Int × Int × Int × Int × List Int × List Int × List Int × Int) := (spec_l1Cur_beside.f k l0 0 0).bind fun bt386 => ((spec_l1Cur_gradeOf.f k l0 bt386.2.2.2.2.2.2.2.2.2.2.2.2.1 bt386.2.2.2.2.2.2.2.2.2.2.2.2.2 bt386.1 bt386.2.1 bt386.2.2.1 bt386.2.2.2.1 bt386.2.2.2.2.1 bt386.2.2.2.2.2.1).bind fun bt414 => (some (bt386.1, bt386.2.1, bt386.2.2.1, bt386.2.2.2.1, bt386.2.2.2.2.1, bt386.2.2.2.2.2.1, bt386.2.2.2.2.2.2.1, bt386.2.2.2.2.2.2.2.1, bt386.2.2.2.2.2.2.2.2.1, bt386.2.2.2.2.2.2.2.2.2.1, bt386.2.2.2.2.2.2.2.2.2.2.1, bt386.2.2.2.2.2.2.2.2.2.2.2.1, bt414.1)))
theorem spec_DrawSortTable.mono : ∀ a0 k, LeO (spec_DrawSortTable.f k a0) (spec_DrawSortTable.f (k + 1) a0) := by
  intro a0 k
  unfold spec_DrawSortTable.f
  repeat' first
      | (with_reducible exact spec_l1Cur_beside.mono _ _ _ _)
      | (with_reducible exact spec_l1Cur_gradeOf.mono _ _ _ _ _ _ _ _ _ _)
      | (with_reducible exact LeO.refl _)
      | (with_reducible exact LeO.none _)
      | (with_reducible refine LeO.ite ?_ ?_)
      | (with_reducible refine LeO.bind ?_ (fun _ => ?_))
      | exact spec_l1Cur_beside.mono _ _ _ _
      | exact spec_l1Cur_gradeOf.mono _ _ _ _ _ _ _ _ _ _
      | exact LeO.none _
      | refine LeO.ite ?_ ?_
      | refine LeO.bind ?_ (fun _ => ?_)
/-! ### impl_areTwins: function 97 -/
def impl_areTwins.f (k : Nat) (a0_0 : Int) (a0_1 : Int) (a0_2 : Int) (l0_3 : List Int) (l0_4 : List Int) (l0_5 : List Int) (a1_0 : Int) (a1_1 : Int) (a1_2 : Int) (l1_3 : List Int) (l1_4 : List Int) (l1_5 : List Int) : Option (Bool) := (impl_IsModel.f k a0_0 a0_1 a0_2 l0_3 l0_4 l0_5).bind fun t419 => (if t419 = true then ((impl_IsModel.f k a1_0 a1_1 a1_2 l1_3 l1_4 l1_5).bind fun t420 => (if t420 = true then (some (a0_0 == a1_0 && (a0_1 == a1_1 && (a0_2 == a1_2)))) else (some false))) else (some false))
theorem impl_areTwins.mono : ∀ a0 a1 a2 a3 a4 a5 a6 a7 a8 a9 a10 a11 k, LeO (impl_areTwins.f k a0 a1 a2 a3 a4 a5 a6 a7 a8 a9 a10 a11) (impl_areTwins.f (k + 1) a0 a1 a2 a3 a4 a5 a6 a7 a8 a9 a10 a11) := by
  intro a0 a1 a2 a3 a4 a5 a6 a7 a8 a9 a10 a11 k
  unfold impl_areTwins.f
  repeat' first
      | (with_reducible exact impl_IsModel.mono _ _ _ _ _ _ _)
      | (with_reducible exact LeO.refl _)
      | (with_reducible exact LeO.none _)
      | (with_reducible refine LeO.ite ?_ ?_)
      | (with_reducible refine LeO.bind ?_ (fun _ => ?_))
      | exact impl_IsModel.mono _ _ _ _ _ _ _
      | exact LeO.none _
      | refine LeO.ite ?_ ?_
      | refine LeO.bind ?_ (fun _ => ?_)
/-! ### impl_sortedSums: function 114 -/
def impl_sortedSums.l0 : Nat → Int → List Int → List Int → Int → Int → Int → Int → Int → List Int → List Int → List Int → Int → Int → Int → List Int → List Int → List Int → Option (List Int)
  | 0, _, _, _, _, _, _, _, _, _, _, _, _, _, _, _, _, _ => none
  | k + 1, x2, x9, x14, x15, x16, x422000, x422001, x422002, x422003, x422004, x422005, x423000, x423001, x423002, x423003, x423004, x423005 => if x16 < x15 then (if 0 ≤ x16 then (if x16 < (x14.length : Int) then (if x16 < (x422004.length : Int) then (if (rd x422004 x16) < x2 then (if x16 < (x423004.length : Int) then (if (rd x423004 x16) < x2 then (if 0 ≤ ((0 + 2) + 1) then (if ((0 + 2) + 1) < (x9.length : Int) then (impl_sortedSums.l0 k x2 (x9.set (((0 + 2) + 1) : Int).toNat (wrap64 ((rd x9 ((0 + 2) + 1)) + (rd x14 x16)))) x14 x15 (wrap64 (x16 + 1)) x422000 x422001 x422002 x422003 x422004 x422005 x423000 x423001 x423002 x423003 x423004 x423005) else (none)) else (none)) else (if 0 ≤ (0 + 2) then (if (0 + 2) < (x9.length : Int) then (impl_sortedSums.l0 k x2 (x9.set ((0 + 2) : Int).toNat (wrap64 ((rd x9 (0 + 2)) + (rd x14 x16)))) x14 x15 (wrap64 (x16 + 1)) x422000 x422001 x422002 x422003 x422004 x422005 x423000 x423001 x423002 x423003 x423004 x423005) else (none)) else (none))) else (none)) else (if x16 < (x423004.length : Int) then (if (rd x423004 x16) < x2 then (if 0 ≤ (0 + 1) then (if (0 + 1) < (x9.length : Int) then (impl_sortedSums.l0 k x2 (x9.set ((0 + 1) : Int).toNat (wrap64 ((rd x9 (0 + 1)) + (rd x14 x16)))) x14 x15 (wrap64 (x16 + 1)) x422000 x422001 x422002 x422003 x422004 x422005 x423000 x423001 x423002 x423003 x423004 x423005) else (none)) else (none)) else (if 0 < (x9.length : Int) then (impl_sortedSums.l0 k x2 (x9.set (0 : Int).toNat (wrap64 ((rd x9 0) + (rd x14 x16)))) x14 x15 (wrap64 (x16 + 1)) x422000 x422001 x422002 x422003 x422004 x422005 x423000 x423001 x423002 x423003 x423004 x423005) else (none))) else (none))) else (none)) else (none)) else (none)) else (some x9)
def impl_sortedSums.f (k : Nat) (a0_0 : Int) (a0_1 : Int) (a0_2 : Int) (l0_3 : List Int) (l0_4 : List Int) (l0_5 : List Int) (a1_0 : Int) (a1_1 : Int) (a1_2 : Int) (l1_3 : List Int) (l1_4 : List Int) (l1_5 : List Int) (a2 : Int) (l3 : List Int) : Option (List Int) := if 4 ≤ 35184372088832 then (impl_sortedSums.l0 k a2 (List.replicate 4 0) l3 (l3.length : Int) 0 a0_0 a0_1 a0_2 l0_3 l0_4 l0_5 a1_0 a1_1 a1_2 l1_3 l1_4 l1_5) else (none)
theorem impl_sortedSums.mono_l : ∀ k, (∀ y0 y1 y2 y3 y4 y5 y6 y7 y8 y9 y10 y11 y12 y13 y14 y15 y16, LeO (impl_sortedSums.l0 k y0 y1 y2 y3 y4 y5 y6 y7 y8 y9 y10 y11 y12 y13 y14 y15 y16) (impl_sortedSums.l0 (k + 1) y0 y1 y2 y3 y4 y5 y6 y7 y8 y9 y10 y11 y12 y13 y14 y15 y16))
  | 0 => fun _ _ _ _ _ _ _ _ _ _ _ _ _ _ _ _ _ r h => by simp [impl_sortedSums.l0] at h
  | k + 1 => by
    have ih0 := impl_sortedSums.mono_l k
    · intro y0 y1 y2 y3 y4 y5 y6 y7 y8 y9 y10 y11 y12 y13 y14 y15 y16
      unfold impl_sortedSums.l0
      repeat' first
      | (with_reducible exact ih0 _ _ _ _ _ _ _ _ _ _ _ _ _ _ _ _ _)
      | (with_reducible exact LeO.refl _)
      | (with_reducible exact LeO.none _)
      | (with_reducible refine LeO.ite ?_ ?_)
      | (with_reducible refine LeO.bind ?_ (fun _ => ?_))
      | exact ih0 _ _ _ _ _ _ _ _ _ _ _ _ _ _ _ _ _
      | exact LeO.none _
      | refine LeO.ite ?_ ?_
      | refine LeO.bind ?_ (fun _ => ?_)
theorem impl_sortedSums.mono : ∀ a0 a1 a2 a3 a4 a5 a6 a7 a8 a9 a10 a11 a12 a13 k, LeO (impl_sortedSums.f k a0 a1 a2 a3 a4 a5 a6 a7 a8 a9 a10 a11 a12 a13) (impl_sortedSums.f (k + 1) a0 a1 a2 a3 a4 a5 a6 a7 a8 a9 a10 a11 a12 a13) := by
  intro a0 a1 a2 a3 a4 a5 a6 a7 a8 a9 a10 a11 a12 a13 k
  have ih0 := impl_sortedSums.mono_l k
  unfold impl_sortedSums.f
  repeat' first
      | (with_reducible exact ih0 _ _ _ _ _ _ _ _ _ _ _ _ _ _ _ _ _)
      | (with_reducible exact LeO.refl _)
      | (with_reducible exact LeO.none _)
      | (with_reducible refine LeO.ite ?_ ?_)
      | (with_reducible refine LeO.bind ?_ (fun _ => ?_))
      | exact ih0 _ _ _ _ _ _ _ _ _ _ _ _ _ _ _ _ _
      | exact LeO.none _
      | refine LeO.ite ?_ ?_
      | refine LeO.bind ?_ (fun _ => ?_)
/-! ### impl_SortTable: function 24 -/
def impl_SortTable.f (k : Nat) (a0_0 : Int) (a0_1 : Int) (a0_2 : Int) (l0_3 : List Int) (l0_4 : List Int) (l0_5 : List Int) (a1_0 : Int) (a1_1 : Int) (a1_2 : Int) (l1_3 : List Int) (l1_4 : List Int) (l1_5 : List Int) (a2 : Int) : Option (List Int × Bool) := (impl_areTwins.f k a0_0 a0_1 a0_2 l0_3 l0_4 l0_5 a1_0 a1_1 a1_2 l1_3 l1_4 l1_5).bind fun t440 => (if t440 = true then (if a2 < 0 then (some (([] : List Int), false)) else (if a2 > 1000 then (some (([] : List Int), false)) else ((impl_sortedSums.f k a0_0 a0_1 a0_2 l0_3 l0_4 l0_5 a1_0 a1_1 a1_2 l1_3 l1_4 l1_5 a2 l1_3).bind fun t441 => (some (t441, true))))) else (some (([] : List Int), false)))
theorem impl_SortTable.mono : ∀ a0 a1 a2 a3 a4 a5 a6 a7 a8 a9 a10 a11 a12 k, LeO (impl_SortTable.f k a0 a1 a2 a3 a4 a5 a6 a7 a8 a9 a10 a11 a12) (impl_SortTable.f (k + 1) a0 a1 a2 a3 a4 a5 a6 a7 a8 a9 a10 a11 a12) := by
  intro a0 a1 a2 a3 a4 a5 a6 a7 a8 a9 a10 a11 a12 k
  unfold impl_SortTable.f
  repeat' first
      | (with_reducible exact impl_areTwins.mono _ _ _ _ _ _ _ _ _ _ _ _ _)
      | (with_reducible exact impl_sortedSums.mono _ _ _ _ _ _ _ _ _ _ _ _ _ _ _)
      | (with_reducible exact LeO.refl _)
      | (with_reducible exact LeO.none _)
      | (with_reducible refine LeO.ite ?_ ?_)
      | (with_reducible refine LeO.bind ?_ (fun _ => ?_))
      | exact impl_areTwins.mono _ _ _ _ _ _ _ _ _ _ _ _ _
      | exact impl_sortedSums.mono _ _ _ _ _ _ _ _ _ _ _ _ _ _ _
      | exact LeO.none _
      | refine LeO.ite ?_ ?_
      | refine LeO.bind ?_ (fun _ => ?_)
/-! ### spec_l1In: function 103 -/
def spec_l1In.f (a0 : Int) (a1 : Int) (a2 : Int) : Option (Bool) := if a0 ≥ a1 then (some (decide (a0 ≤ a2))) else (some false)
/-! ### spec_grGood: function 131 -/
def spec_grGood.f (a0_0 : Int) (a0_1 : Int) (a0_2 : Int) : Option (Bool) := (spec_l1In.f a0_0 1 8).bind fun t445 => (if t445 = true then ((spec_l1In.f a0_1 1 6).bind fun t446 => (if t446 = true then ((spec_l1In.f a0_2 1 5).bind fun t447 => (if t447 = true then (some (decide ((wrap64 ((wrap64 (a0_0 * a0_1)) * a0_2)) ≤ 120))) else (some false))) else (some false))) else (some false))
/-! ### spec_l1All: function 184 -/
def spec_l1All.l0 : Nat → Int → Int → List Int → Int → Int → Option (Bool)
  | 0, _, _, _, _, _ => none
  | k + 1, x1, x2, x9, x10, x11 => if x11 < x10 then (if 0 ≤ x11 then (if x11 < (x9.length : Int) then ((spec_l1In.f (rd x9 x11) x1 x2).bind fun t449 => (if t449 = true then (spec_l1All.l0 k x1 x2 x9 x10 (wrap64 (x11 + 1))) else (some false))) else (none)) else (none)) else (some true)
def spec_l1All.f (k : Nat) (l0 : List Int) (a1 : Int) (a2 : Int) : Option (Bool) := spec_l1All.l0 k a1 a2 l0 (l0.length : Int) 0
theorem spec_l1All.mono_l : ∀ k, (∀ y0 y1 y2 y3 y4, LeO (spec_l1All.l0 k y0 y1 y2 y3 y4) (spec_l1All.l0 (k + 1) y0 y1 y2 y3 y4))
  | 0 => fun _ _ _ _ _ r h => by simp [spec_l1All.l0] at h
  | k + 1 => by
    have ih0 := spec_l1All.mono_l k
    · intro y0 y1 y2 y3 y4
      unfold spec_l1All.l0
      repeat' first
      | (with_reducible exact ih0 _ _ _ _ _)
      | (with_reducible exact LeO.refl _)
      | (with_reducible exact LeO.none _)
      | (with_reducible refine LeO.ite ?_ ?_)
      | (with_reducible refine LeO.bind ?_ (fun _ => ?_))
      | exact ih0 _ _ _ _ _
      | exact LeO.none _
      | refine LeO.ite ?_ ?_
      | refine LeO.bind ?_ (fun _ => ?_)
theorem spec_l1All.mono : ∀ a0 a1 a2 k, LeO (spec_l1All.f k a0 a1 a2) (spec_l1All.f (k + 1) a0 a1 a2) := by
  intro a0 a1 a2 k
  have ih0 := spec_l1All.mono_l k
  unfold spec_l1All.f
  repeat' first
      | (with_reducible exact ih0 _ _ _ _ _)
      | (with_reducible exact LeO.refl _)
      | (with_reducible exact LeO.none _)
      | (with_reducible refine LeO.ite ?_ ?_)
      | (with_reducible refine LeO.bind ?_ (fun _ => ?_))
      | exact ih0 _ _ _ _ _
      | exact LeO.none _
      | refine LeO.ite ?_ ?_
      | refine LeO.bind ?_ (fun _ => ?_)
/-! ### spec_moGood: function 112 -/
def spec_moGood.f (k : Nat) (a0_0 : Int) (a0_1 : Int) (a0_2 : Int) (l0_3 : List Int) (l0_4 : List Int) (l0_5 : List Int) : Option (Bool) := (spec_grGood.f a0_0 a0_1 a0_2).bind fun t451 => (if t451 = true then ((spec_grCount.f a0_0 a0_1 a0_2).bind fun t452 => (if (l0_3.length : Int) = t452 then (if (l0_4.length : Int) = t452 then (if (l0_5.length : Int) = t452 then ((spec_l1All.f k l0_3 0 10000).bind fun t453 => (if t453 = true then ((spec_l1All.f k l0_4 0 1000).bind fun t454 => (if t454 = true then ((spec_l1All.f k l0_5 0 4).bind fun t455 => (some t455)) else (some false))) else (some false))) else (some false)) else (some false)) else (some false))) else (some false))
theorem spec_moGood.mono : ∀ a0 a1 a2 a3 a4 a5 k, LeO (spec_moGood.f k a0 a1 a2 a3 a4 a5) (spec_moGood.f (k + 1) a0 a1 a2 a3 a4 a5) := by
  intro a0 a1 a2 a3 a4 a5 k
  unfold spec_moGood.f
  repeat' first
      | (with_reducible exact spec_l1All.mono _ _ _ _)
      | (with_reducible exact LeO.refl _)
      | (with_reducible exact LeO.none _)
      | (with_reducible refine LeO.ite ?_ ?_)
      | (with_reducible refine LeO.bind ?_ (fun _ => ?_))
      | exact spec_l1All.mono _ _ _ _
      | exact LeO.none _
      | refine LeO.ite ?_ ?_
      | refine LeO.bind ?_ (fun _ => ?_)
/-! ### spec_rcBoth: function 101 -/
def spec_rcBoth.f (k : Nat) (a0_0 : Int) (a0_1 : Int) (a0_2 : Int) (l0_3 : List Int) (l0_4 : List Int) (l0_5 : List Int) (a1_0 : Int) (a1_1 : Int) (a1_2 : Int) (l1_3 : List Int) (l1_4 : List Int) (l1_5 : List Int) : Option (Bool) := (spec_moGood.f k a0_0 a0_1 a0_2 l0_3 l0_4 l0_5).bind fun t458 => (if t458 = true then ((spec_moGood.f k a1_0 a1_1 a1_2 l1_3 l1_4 l1_5).bind fun t459 => (if t459 = true then (some (a0_0 == a1_0 && (a0_1 == a1_1 && (a0_2 == a1_2)))) else (some false))) else (some false))
theorem spec_rcBoth.mono : ∀ a0 a1 a2 a3 a4 a5 a6 a7 a8 a9 a10 a11 k, LeO (spec_rcBoth.f k a0 a1 a2 a3 a4 a5 a6 a7 a8 a9 a10 a11) (spec_rcBoth.f (k + 1) a0 a1 a2 a3 a4 a5 a6 a7 a8 a9 a10 a11) := by
  intro a0 a1 a2 a3 a4 a5 a6 a7 a8 a9 a10 a11 k
  unfold spec_rcBoth.f
  repeat' first
      | (with_reducible exact spec_moGood.mono _ _ _ _ _ _ _)
      | (with_reducible exact LeO.refl _)
      | (with_reducible exact LeO.none _)
      | (with_reducible refine LeO.ite ?_ ?_)
      | (with_reducible refine LeO.bind ?_ (fun _ => ?_))
      | exact spec_moGood.mono _ _ _ _ _ _ _
      | exact LeO.none _
      | refine LeO.ite ?_ ?_
      | refine LeO.bind ?_ (fun _ => ?_)
/-! ### spec_rcGrade: function 115 -/
def spec_rcGrade.f (a0 : Int) : Option (Bool) := (spec_l1In.f a0 0 1000).bind fun t460 => (some t460)
/-! ### spec_rcKind: function 116 -/
def spec_rcKind.j0 : Nat → Int → Int → Bool → Int → Int → Int → List Int → List Int → List Int → Int → Int → Int → List Int → List Int → List Int → Option (Int)
  | 0, _, _, _, _, _, _, _, _, _, _, _, _, _, _, _ => none
  | k + 1, x2, x3, x9, x462000, x462001, x462002, x462003, x462004, x462005, x463000, x463001, x463002, x463003, x463004, x463005 => if x9 = true then (some 0) else (if 0 ≤ x2 then (if x2 < (x462004.length : Int) then (if (rd x462004 x2) ≥ x3 then (some 1) else (if x2 < (x463004.length : Int) then (if (rd x463004 x2) ≥ x3 then (some 2) else (some 3)) else (none))) else (none)) else (none))
def spec_rcKind.f (k : Nat) (a0_0 : Int) (a0_1 : Int) (a0_2 : Int) (l0_3 : List Int) (l0_4 : List Int) (l0_5 : List Int) (a1_0 : Int) (a1_1 : Int) (a1_2 : Int) (l1_3 : List Int) (l1_4 : List Int) (l1_5 : List Int) (a2 : Int) (a3 : Int) : Option (Int) := if 0 ≤ a2 then (if a2 < (l0_4.length : Int) then (if (rd l0_4 a2) ≥ a3 then (if a2 < (l1_4.length : Int) then (spec_rcKind.j0 k a2 a3 (decide ((rd l1_4 a2) ≥ a3)) a0_0 a0_1 a0_2 l0_3 l0_4 l0_5 a1_0 a1_1 a1_2 l1_3 l1_4 l1_5) else (none)) else (spec_rcKind.j0 k a2 a3 false a0_0 a0_1 a0_2 l0_3 l0_4 l0_5 a1_0 a1_1 a1_2 l1_3 l1_4 l1_5)) else (none)) else (none)
theorem spec_rcKind.mono_l : ∀ k, (∀ y0 y1 y2 y3 y4 y5 y6 y7 y8 y9 y10 y11 y12 y13 y14, LeO (spec_rcKind.j0 k y0 y1 y2 y3 y4 y5 y6 y7 y8 y9 y10 y11 y12 y13 y14) (spec_rcKind.j0 (k + 1) y0 y1 y2 y3 y4 y5 y6 y7 y8 y9 y10 y11 y12 y13 y14))
  | 0 => fun _ _ _ _ _ _ _ _ _ _ _ _ _ _ _ r h => by simp [spec_rcKind.j0] at h
  | k + 1 => by
    have ih0 := spec_rcKind.mono_l k
    · intro y0 y1 y2 y3 y4 y5 y6 y7 y8 y9 y10 y11 y12 y13 y14
      unfold spec_rcKind.j0
      repeat' first
      | (with_reducible exact ih0 _ _ _ _ _ _ _ _ _ _ _ _ _ _ _)
      | (with_reducible exact LeO.refl _)
      | (with_reducible exact LeO.none _)
      | (with_reducible refine LeO.ite ?_ ?_)
      | (with_reducible refine LeO.bind ?_ (fun _ => ?_))
      | exact ih0 _ _ _ _ _ _ _ _ _ _ _ _ _ _ _
      | exact LeO.none _
      | refine LeO.ite ?_ ?_
      | refine LeO.bind ?_ (fun _ => ?_)
theorem spec_rcKind.mono : ∀ a0 a1 a2 a3 a4 a5 a6 a7 a8 a9 a10 a11 a12 a13 k, LeO (spec_rcKind.f k a0 a1 a2 a3 a4 a5 a6 a7 a8 a9 a10 a11 a12 a13) (spec_rcKind.f (k + 1) a0 a1 a2 a3 a4 a5 a6 a7 a8 a9 a10 a11 a12 a13) := by
  intro a0 a1 a2 a3 a4 a5 a6 a7 a8 a9 a10 a11 a12 a13 k
  have ih0 := spec_rcKind.mono_l k
  unfold spec_rcKind.f
  repeat' first
      | (with_reducible exact ih0 _ _ _ _ _ _ _ _ _ _ _ _ _ _ _)
      | (with_reducible exact LeO.refl _)
      | (with_reducible exact LeO.none _)
      | (with_reducible refine LeO.ite ?_ ?_)
      | (with_reducible refine LeO.bind ?_ (fun _ => ?_))
      | exact ih0 _ _ _ _ _ _ _ _ _ _ _ _ _ _ _
      | exact LeO.none _
      | refine LeO.ite ?_ ?_
      | refine LeO.bind ?_ (fun _ => ?_)
/-! ### spec_SortTable: function 25 -/
mutual
def spec_SortTable.j0 : Nat → Int → Bool → Int → Int → Int → List Int → List Int → List Int → Int → Int → Int → List Int → List Int → List Int → Option (List Int × Bool)
  | 0, _, _, _, _, _, _, _, _, _, _, _, _, _, _ => none
  | k + 1, x2, x19, x468000, x468001, x468002, x468003, x468004, x468005, x469000, x469001, x469002, x469003, x469004, x469005 => if x19 = true then (some (([] : List Int), false)) else (if 4 ≤ 35184372088832 then (spec_SortTable.l0 k x2 (List.replicate 4 0) x469003 (x469003.length : Int) 0 x468000 x468001 x468002 x468003 x468004 x468005 x469000 x469001 x469002 x469003 x469004 x469005) else (none))
def spec_SortTable.l0 : Nat → Int → List Int → List Int → Int → Int → Int → Int → Int → List Int → List Int → List Int → Int → Int → Int → List Int → List Int → List Int → Option (List Int × Bool)
  | 0, _, _, _, _, _, _, _, _, _, _, _, _, _, _, _, _, _ => none
  | k + 1, x2, x8, x22, x23, x24, x468000, x468001, x468002, x468003, x468004, x468005, x469000, x469001, x469002, x469003, x469004, x469005 => if x24 < x23 then (if 0 ≤ x24 then (if x24 < (x22.length : Int) then ((spec_rcKind.f k x468000 x468001 x468002 x468003 x468004 x468005 x469000 x469001 x469002 x469003 x469004 x469005 x24 x2).bind fun t475 => (if 0 ≤ t475 then (if t475 < (x8.length : Int) then (spec_SortTable.l0 k x2 (x8.set (t475 : Int).toNat (wrap64 ((rd x8 t475) + (rd x22 x24)))) x22 x23 (wrap64 (x24 + 1)) x468000 x468001 x468002 x468003 x468004 x468005 x469000 x469001 x469002 x469003 x469004 x469005) else (none)) else (none))) else (none)) else (none)) else (some (x8, true))
end
def spec_SortTable.f (k : Nat) (a0_0 : Int) (a0_1 : Int) (a0_2 : Int) (l0_3 : List Int) (l0_4 : List Int) (l0_5 : List Int) (a1_0 : Int) (a1_1 : Int) (a1_2 : Int) (l1_3 : List Int) (l1_4 : List Int) (l1_5 : List Int) (a2 : Int) : Option (List Int × Bool) := (spec_rcBoth.f k a0_0 a0_1 a0_2 l0_3 l0_4 l0_5 a1_0 a1_1 a1_2 l1_3 l1_4 l1_5).bind fun t469 => (if t469 = true then ((spec_rcGrade.f a2).bind fun t470 => (spec_SortTable.j0 k a2 (!t470) a0_0 a0_1 a0_2 l0_3 l0_4 l0_5 a1_0 a1_1 a1_2 l1_3 l1_4 l1_5)) else (spec_SortTable.j0 k a2 true a0_0 a0_1 a0_2 l0_3 l0_4 l0_5 a1_0 a1_1 a1_2 l1_3 l1_4 l1_5))
theorem spec_SortTable.mono_l : ∀ k, (∀ y0 y1 y2 y3 y4 y5 y6 y7 y8 y9 y10 y11 y12 y13, LeO (spec_SortTable.j0 k y0 y1 y2 y3 y4 y5 y6 y7 y8 y9 y10 y11 y12 y13) (spec_SortTable.j0 (k + 1) y0 y1 y2 y3 y4 y5 y6 y7 y8 y9 y10 y11 y12 y13)) ∧ (∀ y0 y1 y2 y3 y4 y5 y6 y7 y8 y9 y10 y11 y12 y13 y14 y15 y16, LeO (spec_SortTable.l0 k y0 y1 y2 y3 y4 y5 y6 y7 y8 y9 y10 y11 y12 y13 y14 y15 y16) (spec_SortTable.l0 (k + 1) y0 y1 y2 y3 y4 y5 y6 y7 y8 y9 y10 y11 y12 y13 y14 y15 y16))
  | 0 => ⟨fun _ _ _ _ _ _ _ _ _ _ _ _ _ _ r h => by simp [spec_SortTable.j0] at h, fun _ _ _ _ _ _ _ _ _ _ _ _ _ _ _ _ _ r h => by simp [spec_SortTable.l0] at h⟩
  | k + 1 => by
    obtain ⟨ih0, ih1⟩ := spec_SortTable.mono_l k
    refine ⟨?_, ?_⟩
    · intro y0 y1 y2 y3 y4 y5 y6 y7 y8 y9 y10 y11 y12 y13
      unfold spec_SortTable.j0
      repeat' first
      | (with_reducible exact ih0 _ _ _ _ _ _ _ _ _ _ _ _ _ _)
      | (with_reducible exact ih1 _ _ _ _ _ _ _ _ _ _ _ _ _ _ _ _ _)
      | (with_reducible exact spec_rcBoth.mono _ _ _ _ _ _ _ _ _ _ _ _ _)
      | (with_reducible exact spec_rcKind.mono _ _ _ _ _ _ _ _ _ _ _ _ _ _ _)
      | (with_reducible exact LeO.refl _)
      | (with_reducible exact LeO.none _)
      | (with_reducible refine LeO.ite ?_ ?_)
      | (with_reducible refine LeO.bind ?_ (fun _ => ?_))
      | exact ih0 _ _ _ _ _ _ _ _ _ _ _ _ _ _
      | exact ih1 _ _ _ _ _ _ _ _ _ _ _ _ _ _ _ _ _
      | exact spec_rcBoth.mono _ _ _ _ _ _ _ _ _ _ _ _ _
      | exact spec_rcKind.mono _ _ _ _ _ _ _ _ _ _ _ _ _ _ _
      | exact LeO.none _
      | refine LeO.ite ?_ ?_
      | refine LeO.bind ?_ (fun _ => ?_)
    · intro y0 y1 y2 y3 y4 y5 y6 y7 y8 y9 y10 y11 y12 y13 y14 y15 y16
      unfold spec_SortTable.l0
      repeat' first
      | (with_reducible exact ih0 _ _ _ _ _ _ _ _ _ _ _ _ _ _)
      | (with_reducible exact ih1 _ _ _ _ _ _ _ _ _ _ _ _ _ _ _ _ _)
      | (with_reducible exact spec_rcBoth.mono _ _ _ _ _ _ _ _ _ _ _ _ _)
      | (with_reducible exact spec_rcKind.mono _ _ _ _ _ _ _ _ _ _ _ _ _ _ _)
      | (with_reducible exact LeO.refl _)
      | (with_reducible exact LeO.none _)
      | (with_reducible refine LeO.ite ?_ ?_)
      | (with_reducible refine LeO.bind ?_ (fun _ => ?_))
      | exact ih0 _ _ _ _ _ _ _ _ _ _ _ _ _ _
      | exact ih1 _ _ _ _ _ _ _ _ _ _ _ _ _ _ _ _ _
      | exact spec_rcBoth.mono _ _ _ _ _ _ _ _ _ _ _ _ _
      | exact spec_rcKind.mono _ _ _ _ _ _ _ _ _ _ _ _ _ _ _
      | exact LeO.none _
      | refine LeO.ite ?_ ?_
      | refine LeO.bind ?_ (fun _ => ?_)
theorem spec_SortTable.mono : ∀ a0 a1 a2 a3 a4 a5 a6 a7 a8 a9 a10 a11 a12 k, LeO (spec_SortTable.f k a0 a1 a2 a3 a4 a5 a6 a7 a8 a9 a10 a11 a12) (spec_SortTable.f (k + 1) a0 a1 a2 a3 a4 a5 a6 a7 a8 a9 a10 a11 a12) := by
  intro a0 a1 a2 a3 a4 a5 a6 a7 a8 a9 a10 a11 a12 k
  obtain ⟨ih0, ih1⟩ := spec_SortTable.mono_l k
  unfold spec_SortTable.f
  repeat' first
      | (with_reducible exact ih0 _ _ _ _ _ _ _ _ _ _ _ _ _ _)
      | (with_reducible exact ih1 _ _ _ _ _ _ _ _ _ _ _ _ _ _ _ _ _)
      | (with_reducible exact spec_rcBoth.mono _ _ _ _ _ _ _ _ _ _ _ _ _)
      | (with_reducible exact spec_rcKind.mono _ _ _ _ _ _ _ _ _ _ _ _ _ _ _)
      | (with_reducible exact LeO.refl _)
      | (with_reducible exact LeO.none _)
      | (with_reducible refine LeO.ite ?_ ?_)
      | (with_reducible refine LeO.bind ?_ (fun _ => ?_))
      | exact ih0 _ _ _ _ _ _ _ _ _ _ _ _ _ _
      | exact ih1 _ _ _ _ _ _ _ _ _ _ _ _ _ _ _ _ _
      | exact spec_rcBoth.mono _ _ _ _ _ _ _ _ _ _ _ _ _
      | exact spec_rcKind.mono _ _ _ _ _ _ _ _ _ _ _ _ _ _ _
      | exact LeO.none _
      | refine LeO.ite ?_ ?_
      | refine LeO.bind ?_ (fun _ => ?_)
/-! ### impl_WrongMetal: function 26 -/
mutual
def impl_WrongMetal.j0 : Nat → Int → Bool → Int → Int → Int → List Int → List Int → List Int → Int → Int → Int → List Int → List Int → List Int → Option (Int × Int × Bool)
  | 0, _, _, _, _, _, _, _, _, _, _, _, _, _, _ => none
  | k + 1, x2, x24, x479000, x479001, x479002, x479003, x479004, x479005, x480000, x480001, x480002, x480003, x480004, x480005 => if x24 = true then (some (0, 0, false)) else (impl_WrongMetal.l0 k x2 (([] : List Int)) x480003 (x480003.length : Int) 0 x479000 x479001 x479002 x479003 x479004 x479005 x480000 x480001 x480002 x480003 x480004 x480005)
def impl_WrongMetal.l0 : Nat → Int → List Int → List Int → Int → Int → Int → Int → Int → List Int → List Int → List Int → Int → Int → Int → List Int → List Int → List Int → Option (Int × Int × Bool)
  | 0, _, _, _, _, _, _, _, _, _, _, _, _, _, _, _, _, _ => none
  | k + 1, x2, x9, x27, x28, x29, x479000, x479001, x479002, x479003, x479004, x479005, x480000, x480001, x480002, x480003, x480004, x480005 => if x29 < x28 then (if 0 ≤ x29 then (if x29 < (x27.length : Int) then (if x29 < (x480004.length : Int) then (if x9.length < 17592186044416 then (impl_WrongMetal.l0 k x2 (x9 ++ [wrap64 ((rd x27 x29) * (rd x480004 x29))]) x27 x28 (wrap64 (x29 + 1)) x479000 x479001 x479002 x479003 x479004 x479005 x480000 x480001 x480002 x480003 x480004 x480005) else (none)) else (none)) else (none)) else (none)) else ((impl_sortedSums.f k x479000 x479001 x479002 x479003 x479004 x479005 x480000 x480001 x480002 x480003 x480004 x480005 x2 x9).bind fun t489 => (if 2 < (t489.length : Int) then (if 1 < (t489.length : Int) then (some (rd t489 2, rd t489 1, true)) else (none)) else (none)))
end
def impl_WrongMetal.f (k : Nat) (a0_0 : Int) (a0_1 : Int) (a0_2 : Int) (l0_3 : List Int) (l0_4 : List Int) (l0_5 : List Int) (a1_0 : Int) (a1_1 : Int) (a1_2 : Int) (l1_3 : List Int) (l1_4 : List Int) (l1_5 : List Int) (a2 : Int) : Option (Int × Int × Bool) := (impl_areTwins.f k a0_0 a0_1 a0_2 l0_3 l0_4 l0_5 a1_0 a1_1 a1_2 l1_3 l1_4 l1_5).bind fun t480 => (if t480 = true then (if a2 < 0 then (impl_WrongMetal.j0 k a2 true a0_0 a0_1 a0_2 l0_3 l0_4 l0_5 a1_0 a1_1 a1_2 l1_3 l1_4 l1_5) else (impl_WrongMetal.j0 k a2 (decide (a2 > 1000)) a0_0 a0_1 a0_2 l0_3 l0_4 l0_5 a1_0 a1_1 a1_2 l1_3 l1_4 l1_5)) else (impl_WrongMetal.j0 k a2 true a0_0 a0_1 a0_2 l0_3 l0_4 l0_5 a1_0 a1_1 a1_2 l1_3 l1_4 l1_5))
theorem impl_WrongMetal.mono_l : ∀ k, (∀ y0 y1 y2 y3 y4 y5 y6 y7 y8 y9 y10 y11 y12 y13, LeO (impl_WrongMetal.j0 k y0 y1 y2 y3 y4 y5 y6 y7 y8 y9 y10 y11 y12 y13) (impl_WrongMetal.j0 (k + 1) y0 y1 y2 y3 y4 y5 y6 y7 y8 y9 y10 y11 y12 y13)) ∧ (∀ y0 y1 y2 y3 y4 y5 y6 y7 y8 y9 y10 y11 y12 y13 y14 y15 y16, LeO (impl_WrongMetal.l0 k y0 y1 y2 y3 y4 y5 y6 y7 y8 y9 y10 y11 y12 y13 y14 y15 y16) (impl_WrongMetal.l0 (k + 1) y0 y1 y2 y3 y4 y5 y6 y7 y8 y9 y10 y11 y12 y13 y14 y15 y16))
  | 0 => ⟨fun _ _ _ _ _ _ _ _ _ _ _ _ _ _ r h => by simp [impl_WrongMetal.j0] at h, fun _ _ _ _ _ _ _ _ _ _ _ _ _ _ _ _ _ r h => by simp [impl_WrongMetal.l0] at h⟩
  | k + 1 => by
    obtain ⟨ih0, ih1⟩ := impl_WrongMetal.mono_l k
    refine ⟨?_, ?_⟩
    · intro y0 y1 y2 y3 y4 y5 y6 y7 y8 y9 y10 y11 y12 y13
      unfold impl_WrongMetal.j0
      repeat' first
      | (with_reducible exact ih0 _ _ _ _ _ _ _ _ _ _ _ _ _ _)
      | (with_reducible exact ih1 _ _ _ _ _ _ _ _ _ _ _ _ _ _ _ _ _)
      | (with_reducible exact impl_areTwins.mono _ _ _ _ _ _ _ _ _ _ _ _ _)
      | (with_reducible exact impl_sortedSums.mono _ _ _ _ _ _ _ _ _ _ _ _ _ _ _)
      | (with_reducible exact LeO.refl _)
      | (with_reducible exact LeO.none _)
      | (with_reducible refine LeO.ite ?_ ?_)
      | (with_reducible refine LeO.bind ?_ (fun _ => ?_))
      | exact ih0 _ _ _ _ _ _ _ _ _ _ _ _ _ _
      | exact ih1 _ _ _ _ _ _ _ _ _ _ _ _ _ _ _ _ _
      | exact impl_areTwins.mono _ _ _ _ _ _ _ _ _ _ _ _ _
      | exact impl_sortedSums.mono _ _ _ _ _ _ _ _ _ _ _ _ _ _ _
      | exact LeO.none _
      | refine LeO.ite ?_ ?_
      | refine LeO.bind ?_ (fun _ => ?_)
    · intro y0 y1 y2 y3 y4 y5 y6 y7 y8 y9 y10 y11 y12 y13 y14 y15 y16
      unfold impl_WrongMetal.l0
      repeat' first
      | (with_reducible exact ih0 _ _ _ _ _ _ _ _ _ _ _ _ _ _)
      | (with_reducible exact ih1 _ _ _ _ _ _ _ _ _ _ _ _ _ _ _ _ _)
      | (with_reducible exact impl_areTwins.mono _ _ _ _ _ _ _ _ _ _ _ _ _)
      | (with_reducible exact impl_sortedSums.mono _ _ _ _ _ _ _ _ _ _ _ _ _ _ _)
      | (with_reducible exact LeO.refl _)
      | (with_reducible exact LeO.none _)
      | (with_reducible refine LeO.ite ?_ ?_)
      | (with_reducible refine LeO.bind ?_ (fun _ => ?_))
      | exact ih0 _ _ _ _ _ _ _ _ _ _ _ _ _ _
      | exact ih1 _ _ _ _ _ _ _ _ _ _ _ _ _ _ _ _ _
      | exact impl_areTwins.mono _ _ _ _ _ _ _ _ _ _ _ _ _
      | exact impl_sortedSums.mono _ _ _ _ _ _ _ _ _ _ _ _ _ _ _
      | exact LeO.none _
      | refine LeO.ite ?_ ?_
      | refine LeO.bind ?_ (fun _ => ?_)
theorem impl_WrongMetal.mono : ∀ a0 a1 a2 a3 a4 a5 a6 a7 a8 a9 a10 a11 a12 k, LeO (impl_WrongMetal.f k a0 a1 a2 a3 a4 a5 a6 a7 a8 a9 a10 a11 a12) (impl_WrongMetal.f (k + 1) a0 a1 a2 a3 a4 a5 a6 a7 a8 a9 a10 a11 a12) := by
  intro a0 a1 a2 a3 a4 a5 a6 a7 a8 a9 a10 a11 a12 k
  obtain ⟨ih0, ih1⟩ := impl_WrongMetal.mono_l k
  unfold impl_WrongMetal.f
  repeat' first
      | (with_reducible exact ih0 _ _ _ _ _ _ _ _ _ _ _ _ _ _)
      | (with_reducible exact ih1 _ _ _ _ _ _ _ _ _ _ _ _ _ _ _ _ _)
      | (with_reducible exact impl_areTwins.mono _ _ _ _ _ _ _ _ _ _ _ _ _)
      | (with_reducible exact impl_sortedSums.mono _ _ _ _ _ _ _ _ _ _ _ _ _ _ _)
      | (with_reducible exact LeO.refl _)
      | (with_reducible exact LeO.none _)
      | (with_reducible refine LeO.ite ?_ ?_)
      | (with_reducible refine LeO.bind ?_ (fun _ => ?_))
      | exact ih0 _ _ _ _ _ _ _ _ _ _ _ _ _ _
      | exact ih1 _ _ _ _ _ _ _ _ _ _ _ _ _ _ _ _ _
      | exact impl_areTwins.mono _ _ _ _ _ _ _ _ _ _ _ _ _
      | exact impl_sortedSums.mono _ _ _ _ _ _ _ _ _ _ _ _ _ _ _
      | exact LeO.none _
      | refine LeO.ite ?_ ?_
      | refine LeO.bind ?_ (fun _ => ?_)
/-! ### spec_moMetal: function 117 -/
def spec_moMetal.f (a0_0 : Int) (a0_1 : Int) (a0_2 : Int) (l0_3 : List Int) (l0_4 : List Int) (l0_5 : List Int) (a1 : Int) : Option (Int) := if 0 ≤ a1 then (if a1 < (l0_3.length : Int) then (if a1 < (l0_4.length : Int) then (some (wrap64 ((rd l0_3 a1) * (rd l0_4 a1)))) else (none)) else (none)) else (none)
/-! ### spec_WrongMetal: function 27 -/
mutual
def spec_WrongMetal.j0 : Nat → Int → Bool → Int → Int → Int → List Int → List Int → List Int → Int → Int → Int → List Int → List Int → List Int → Option (Int × Int × Bool)
  | 0, _, _, _, _, _, _, _, _, _, _, _, _, _, _ => none
  | k + 1, x2, x19, x498000, x498001, x498002, x498003, x498004, x498005, x499000, x499001, x499002, x499003, x499004, x499005 => if x19 = true then (some (0, 0, false)) else (if 4 ≤ 35184372088832 then (spec_WrongMetal.l0 k x2 (List.replicate 4 0) (x499003.length : Int) 0 x498000 x498001 x498002 x498003 x498004 x498005 x499000 x499001 x499002 x499003 x499004 x499005) else (none))
def spec_WrongMetal.l0 : Nat → Int → List Int → Int → Int → Int → Int → Int → List Int → List Int → List Int → Int → Int → Int → List Int → List Int → List Int → Option (Int × Int × Bool)
  | 0, _, _, _, _, _, _, _, _, _, _, _, _, _, _, _, _ => none
  | k + 1, x2, x9, x23, x24, x498000, x498001, x498002, x498003, x498004, x498005, x499000, x499001, x499002, x499003, x499004, x499005 => if x24 < x23 then ((spec_rcKind.f k x498000 x498001 x498002 x498003 x498004 x498005 x499000 x499001 x499002 x499003 x499004 x499005 x24 x2).bind fun t504 => (if 0 ≤ t504 then (if t504 < (x9.length : Int) then ((spec_moMetal.f x499000 x499001 x499002 x499003 x499004 x499005 x24).bind fun t506 => (spec_WrongMetal.l0 k x2 (x9.set (t504 : Int).toNat (wrap64 ((rd x9 t504) + t506))) x23 (wrap64 (x24 + 1)) x498000 x498001 x498002 x498003 x498004 x498005 x499000 x499001 x499002 x499003 x499004 x499005)) else (none)) else (none))) else (if 2 < (x9.length : Int) then (if 1 < (x9.length : Int) then (some (rd x9 2, rd x9 1, true)) else (none)) else (none))
end
def spec_WrongMetal.f (k : Nat) (a0_0 : Int) (a0_1 : Int) (a0_2 : Int) (l0_3 : List Int) (l0_4 : List Int) (l0_5 : List Int) (a1_0 : Int) (a1_1 : Int) (a1_2 : Int) (l1_3 : List Int) (l1_4 : List Int) (l1_5 : List Int) (a2 : Int) : Option (Int × Int × Bool) := (spec_rcBoth.f k a0_0 a0_1 a0_2 l0_3 l0_4 l0_5 a1_0 a1_1 a1_2 l1_3 l1_4 l1_5).bind fun t499 => (if t499 = true then ((spec_rcGrade.f a2).bind fun t500 => (spec_WrongMetal.j0 k a2 (!t500) a0_0 a0_1 a0_2 l0_3 l0_4 l0_5 a1_0 a1_1 a1_2 l1_3 l1_4 l1_5)) else (spec_WrongMetal.j0 k a2 true a0_0 a0_1 a0_2 l0_3 l0_4 l0_5 a1_0 a1_1 a1_2 l1_3 l1_4 l1_5))
theorem spec_WrongMetal.mono_l : ∀ k, (∀ y0 y1 y2 y3 y4 y5 y6 y7 y8 y9 y10 y11 y12 y13, LeO (spec_WrongMetal.j0 k y0 y1 y2 y3 y4 y5 y6 y7 y8 y9 y10 y11 y12 y13) (spec_WrongMetal.j0 (k + 1) y0 y1 y2 y3 y4 y5 y6 y7 y8 y9 y10 y11 y12 y13)) ∧ (∀ y0 y1 y2 y3 y4 y5 y6 y7 y8 y9 y10 y11 y12 y13 y14 y15, LeO (spec_WrongMetal.l0 k y0 y1 y2 y3 y4 y5 y6 y7 y8 y9 y10 y11 y12 y13 y14 y15) (spec_WrongMetal.l0 (k + 1) y0 y1 y2 y3 y4 y5 y6 y7 y8 y9 y10 y11 y12 y13 y14 y15))
  | 0 => ⟨fun _ _ _ _ _ _ _ _ _ _ _ _ _ _ r h => by simp [spec_WrongMetal.j0] at h, fun _ _ _ _ _ _ _ _ _ _ _ _ _ _ _ _ r h => by simp [spec_WrongMetal.l0] at h⟩
  | k + 1 => by
    obtain ⟨ih0, ih1⟩ := spec_WrongMetal.mono_l k
    refine ⟨?_, ?_⟩
    · intro y0 y1 y2 y3 y4 y5 y6 y7 y8 y9 y10 y11 y12 y13
      unfold spec_WrongMetal.j0
      repeat' first
      | (with_reducible exact ih0 _ _ _ _ _ _ _ _ _ _ _ _ _ _)
      | (with_reducible exact ih1 _ _ _ _ _ _ _ _ _ _ _ _ _ _ _ _)
      | (with_reducible exact spec_rcBoth.mono _ _ _ _ _ _ _ _ _ _ _ _ _)
      | (with_reducible exact spec_rcKind.mono _ _ _ _ _ _ _ _ _ _ _ _ _ _ _)
      | (with_reducible exact LeO.refl _)
      | (with_reducible exact LeO.none _)
      | (with_reducible refine LeO.ite ?_ ?_)
      | (with_reducible refine LeO.bind ?_ (fun _ => ?_))
      | exact ih0 _ _ _ _ _ _ _ _ _ _ _ _ _ _
      | exact ih1 _ _ _ _ _ _ _ _ _ _ _ _ _ _ _ _
      | exact spec_rcBoth.mono _ _ _ _ _ _ _ _ _ _ _ _ _
      | exact spec_rcKind.mono _ _ _ _ _ _ _ _ _ _ _ _ _ _ _
      | exact LeO.none _
      | refine LeO.ite ?_ ?_
      | refine LeO.bind ?_ (fun _ => ?_)
    · intro y0 y1 y2 y3 y4 y5 y6 y7 y8 y9 y10 y11 y12 y13 y14 y15
      unfold spec_WrongMetal.l0
      repeat' first
      | (with_reducible exact ih0 _ _ _ _ _ _ _ _ _ _ _ _ _ _)
      | (with_reducible exact ih1 _ _ _ _ _ _ _ _ _ _ _ _ _ _ _ _)
      | (with_reducible exact spec_rcBoth.mono _ _ _ _ _ _ _ _ _ _ _ _ _)
      | (with_reducible exact spec_rcKind.mono _ _ _ _ _ _ _ _ _ _ _ _ _ _ _)
      | (with_reducible exact LeO.refl _)
      | (with_reducible exact LeO.none _)
      | (with_reducible refine LeO.ite ?_ ?_)
      | (with_reducible refine LeO.bind ?_ (fun _ => ?_))
      | exact ih0 _ _ _ _ _ _ _ _ _ _ _ _ _ _
      | exact ih1 _ _ _ _ _ _ _ _ _ _ _ _ _ _ _ _
      | exact spec_rcBoth.mono _ _ _ _ _ _ _ _ _ _ _ _ _
      | exact spec_rcKind.mono _ _ _ _ _ _ _ _ _ _ _ _ _ _ _
      | exact LeO.none _
      | refine LeO.ite ?_ ?_
      | refine LeO.bind ?_ (fun _ => ?_)
theorem spec_WrongMetal.mono : ∀ a0 a1 a2 a3 a4 a5 a6 a7 a8 a9 a10 a11 a12 k, LeO (spec_WrongMetal.f k a0 a1 a2 a3 a4 a5 a6 a7 a8 a9 a10 a11 a12) (spec_WrongMetal.f (k + 1) a0 a1 a2 a3 a4 a5 a6 a7 a8 a9 a10 a11 a12) := by
  intro a0 a1 a2 a3 a4 a5 a6 a7 a8 a9 a10 a11 a12 k
  obtain ⟨ih0, ih1⟩ := spec_WrongMetal.mono_l k
  unfold spec_WrongMetal.f
  repeat' first
      | (with_reducible exact ih0 _ _ _ _ _ _ _ _ _ _ _ _ _ _)
      | (with_reducible exact ih1 _ _ _ _ _ _ _ _ _ _ _ _ _ _ _ _)
      | (with_reducible exact spec_rcBoth.mono _ _ _ _ _ _ _ _ _ _ _ _ _)
      | (with_reducible exact spec_rcKind.mono _ _ _ _ _ _ _ _ _ _ _ _ _ _ _)
      | (with_reducible exact LeO.refl _)
      | (with_reducible exact LeO.none _)
      | (with_reducible refine LeO.ite ?_ ?_)
      | (with_reducible refine LeO.bind ?_ (fun _ => ?_))
      | exact ih0 _ _ _ _ _ _ _ _ _ _ _ _ _ _
      | exact ih1 _ _ _ _ _ _ _ _ _ _ _ _ _ _ _ _
      | exact spec_rcBoth.mono _ _ _ _ _ _ _ _ _ _ _ _ _
      | exact spec_rcKind.mono _ _ _ _ _ _ _ _ _ _ _ _ _ _ _
      | exact LeO.none _
      | refine LeO.ite ?_ ?_
      | refine LeO.bind ?_ (fun _ => ?_)
/-! ### spec_DrawScaleModel: function 28 -/
def spec_DrawScaleModel.f (k : Nat) (l0 : List Int) : Option (Int × Int × Int × List Int × List Int × List Int × Int × Int) := (spec_l1Cur_anyModel.f k l0 0 0).bind fun bt512 => ((spec_l1Cur_among.f l0 bt512.2.2.2.2.2.2.1 bt512.2.2.2.2.2.2.2 (([0, 1, 9, 10, 11, 100, 101, (-1)] : List Int))).bind fun bt529 => ((spec_l1Cur_among.f l0 bt529.2.1 bt529.2.2 (([1, 2, 10, 100, 101, 0] : List Int))).bind fun bt535 => (some (bt512.1, bt512.2.1, bt512.2.2.1, bt512.2.2.2.1, bt512.2.2.2.2.1, bt512.2.2.2.2.2.1, bt529.1, bt535.1))))
theorem spec_DrawScaleModel.mono : ∀ a0 k, LeO (spec_DrawScaleModel.f k a0) (spec_DrawScaleModel.f (k + 1) a0) := by
  intro a0 k
  unfold spec_DrawScaleModel.f
  repeat' first
      | (with_reducible exact spec_l1Cur_anyModel.mono _ _ _ _)
      | (with_reducible exact LeO.refl _)
      | (with_reducible exact LeO.none _)
      | (with_reducible refine LeO.ite ?_ ?_)
      | (with_reducible refine LeO.bind ?_ (fun _ => ?_))
      | exact spec_l1Cur_anyModel.mono _ _ _ _
      | exact LeO.none _
      | refine LeO.ite ?_ ?_
      | refine LeO.bind ?_ (fun _ => ?_)
/-! ### impl_copyModel: function 118 -/
def impl_copyModel.f (a0_0 : Int) (a0_1 : Int) (a0_2 : Int) (l0_3 : List Int) (l0_4 : List Int) (l0_5 : List Int) : Option (Int × Int × Int × List Int × List Int × List Int) := (some (([] : List Int) : List Int)).bind fun y540 => (if y540.length + l0_3.length < 17592186044416 then ((some (([] : List Int) : List Int)).bind fun y546 => (if y546.length + l0_4.length < 17592186044416 then ((some (([] : List Int) : List Int)).bind fun y552 => (if y552.length + l0_5.length < 17592186044416 then (some (a0_0, a0_1, a0_2, (y540 ++ l0_3), (y546 ++ l0_4), (y552 ++ l0_5))) else (none))) else (none))) else (none))
/-! ### impl_ScaleModel: function 29 -/
mutual
def impl_ScaleModel.j0 : Nat → Int → Int → Bool → Int → Int → Int → List Int → List Int → List Int → Option (Int × Int × Int × List Int × List Int × List Int × Bool)
  | 0, _, _, _, _, _, _, _, _, _ => none
  | k + 1, x1, x2, x29, x559000, x559001, x559002, x559003, x559004, x559005 => if x29 = true then (some (0, 0, 0, ([] : List Int), ([] : List Int), ([] : List Int), false)) else ((impl_copyModel.f x559000 x559001 x559002 x559003 x559004 x559005).bind fun bt561 => (impl_ScaleModel.l0 k x1 x2 x559004 (x559004.length : Int) 0 bt561.1 bt561.2.1 bt561.2.2.1 bt561.2.2.2.1 bt561.2.2.2.2.1 bt561.2.2.2.2.2))
def impl_ScaleModel.l0 : Nat → Int → Int → List Int → Int → Int → Int → Int → Int → List Int → List Int → List Int → Option (Int × Int × Int × List Int × List Int × List Int × Bool)
  | 0, _, _, _, _, _, _, _, _, _, _, _ => none
  | k + 1, x1, x2, x34, x35, x36, x574000, x574001, x574002, x574003, x574004, x574005 => if x36 < x35 then (if 0 ≤ x36 then (if x36 < (x34.length : Int) then (if x2 = 0 then (none) else (if x36 < (x574004.length : Int) then (impl_ScaleModel.l0 k x1 x2 x34 x35 (wrap64 (x36 + 1)) x574000 x574001 x574002 x574003 (x574004.set (x36 : Int).toNat (mn 1000 (wrap64 (Int.tdiv (wrap64 ((rd x34 x36) * x1)) x2)))) x574005) else (none))) else (none)) else (none)) else (some (x574000, x574001, x574002, x574003, x574004, x574005, true))
end
def impl_ScaleModel.f (k : Nat) (a0_0 : Int) (a0_1 : Int) (a0_2 : Int) (l0_3 : List Int) (l0_4 : List Int) (l0_5 : List Int) (a1 : Int) (a2 : Int) : Option (Int × Int × Int × List Int × List Int × List Int × Bool) := (impl_IsModel.f k a0_0 a0_1 a0_2 l0_3 l0_4 l0_5).bind fun t560 => (if t560 = true then (if a1 < 0 then (impl_ScaleModel.j0 k a1 a2 true a0_0 a0_1 a0_2 l0_3 l0_4 l0_5) else (if a1 > 100 then (impl_ScaleModel.j0 k a1 a2 true a0_0 a0_1 a0_2 l0_3 l0_4 l0_5) else (if a2 < 1 then (impl_ScaleModel.j0 k a1 a2 true a0_0 a0_1 a0_2 l0_3 l0_4 l0_5) else (impl_ScaleModel.j0 k a1 a2 (decide (a2 > 100)) a0_0 a0_1 a0_2 l0_3 l0_4 l0_5)))) else (impl_ScaleModel.j0 k a1 a2 true a0_0 a0_1 a0_2 l0_3 l0_4 l0_5))
theorem impl_ScaleModel.mono_l : ∀ k, (∀ y0 y1 y2 y3 y4 y5 y6 y7 y8, LeO (impl_ScaleModel.j0 k y0 y1 y2 y3 y4 y5 y6 y7 y8) (impl_ScaleModel.j0 (k + 1) y0 y1 y2 y3 y4 y5 y6 y7 y8)) ∧ (∀ y0 y1 y2 y3 y4 y5 y6 y7 y8 y9 y10, LeO (impl_ScaleModel.l0 k y0 y1 y2 y3 y4 y5 y6 y7 y8 y9 y10) (impl_ScaleModel.l0 (k + 1) y0 y1 y2 y3 y4 y5 y6 y7 y8 y9 y10))
  | 0 => ⟨fun _ _ _ _ _ _ _ _ _ r h => by simp [impl_ScaleModel.j0] at h, fun _ _ _ _ _ _ _ _ _ _ _ r h => by simp [impl_ScaleModel.l0] at h⟩
  | k + 1 => by
    obtain ⟨ih0, ih1⟩ := impl_ScaleModel.mono_l k
    refine ⟨?_, ?_⟩
    · intro y0 y1 y2 y3 y4 y5 y6 y7 y8
      unfold impl_ScaleModel.j0
      repeat' first
      | (with_reducible exact ih0 _ _ _ _ _ _ _ _ _)
      | (with_reducible exact ih1 _ _ _ _ _ _ _ _ _ _ _)
      | (with_reducible exact impl_IsModel.mono _ _ _ _ _ _ _)
      | (with_reducible exact LeO.refl _)
      | (with_reducible exact LeO.none _)
      | (with_reducible refine LeO.ite ?_ ?_)
      | (with_reducible refine LeO.bind ?_ (fun _ => ?_))
      | exact ih0 _ _ _ _ _ _ _ _ _
      | exact ih1 _ _ _ _ _ _ _ _ _ _ _
      | exact impl_IsModel.mono _ _ _ _ _ _ _
      | exact LeO.none _
      | refine LeO.ite ?_ ?_
      | refine LeO.bind ?_ (fun _ => ?_)
    · intro y0 y1 y2 y3 y4 y5 y6 y7 y8 y9 y10
      unfold impl_ScaleModel.l0
      repeat' first
      | (with_reducible exact ih0 _ _ _ _ _ _ _ _ _)
      | (with_reducible exact ih1 _ _ _ _ _ _ _ _ _ _ _)
      | (with_reducible exact impl_IsModel.mono _ _ _ _ _ _ _)
      | (with_reducible exact LeO.refl _)
      | (with_reducible exact LeO.none _)
      | (with_reducible refine LeO.ite ?_ ?_)
      | (with_reducible refine LeO.bind ?_ (fun _ => ?_))
      | exact ih0 _ _ _ _ _ _ _ _ _
      | exact ih1 _ _ _ _ _ _ _ _ _ _ _
      | exact impl_IsModel.mono _ _ _ _ _ _ _
      | exact LeO.none _
      | refine LeO.ite ?_ ?_
      | refine LeO.bind ?_ (fun _ => ?_)
theorem impl_ScaleModel.mono : ∀ a0 a1 a2 a3 a4 a5 a6 a7 k, LeO (impl_ScaleModel.f k a0 a1 a2 a3 a4 a5 a6 a7) (impl_ScaleModel.f (k + 1) a0 a1 a2 a3 a4 a5 a6 a7) := by
  intro a0 a1 a2 a3 a4 a5 a6 a7 k
  obtain ⟨ih0, ih1⟩ := impl_ScaleModel.mono_l k
  unfold impl_ScaleModel.f
  repeat' first
      | (with_reducible exact ih0 _ _ _ _ _ _ _ _ _)
      | (with_reducible exact ih1 _ _ _ _ _ _ _ _ _ _ _)
      | (with_reducible exact impl_IsModel.mono _ _ _ _ _ _ _)
      | (with_reducible exact LeO.refl _)
      | (with_reducible exact LeO.none _)
      | (with_reducible refine LeO.ite ?_ ?_)
      | (with_reducible refine LeO.bind ?_ (fun _ => ?_))
      | exact ih0 _ _ _ _ _ _ _ _ _
      | exact ih1 _ _ _ _ _ _ _ _ _ _ _
      | exact impl_IsModel.mono _ _ _ _ _ _ _
      | exact LeO.none _
      | refine LeO.ite ?_ ?_
      | refine LeO.bind ?_ (fun _ => ?_)
/-! ### spec_ScaleModel: function 30 -/
mutual
def spec_ScaleModel.j0 : Nat → Int → Int → Bool → Int → Int → Int → List Int → List Int → List Int → Option (Int × Int × Int × List Int × List Int × List Int × Bool)
  | 0, _, _, _, _, _, _, _, _, _ => none
  | k + 1, x1, x2, x23, x577000, x577001, x577002, x577003, x577004, x577005 => if x23 = true then (some (0, 0, 0, ([] : List Int), ([] : List Int), ([] : List Int), false)) else ((spec_moOwn.f x577000 x577001 x577002 x577003 x577004 x577005).bind fun bt581 => (spec_ScaleModel.l0 k x1 x2 x577004 (x577004.length : Int) 0 bt581.1 bt581.2.1 bt581.2.2.1 bt581.2.2.2.1 bt581.2.2.2.2.1 bt581.2.2.2.2.2))
def spec_ScaleModel.l0 : Nat → Int → Int → List Int → Int → Int → Int → Int → Int → List Int → List Int → List Int → Option (Int × Int × Int × List Int × List Int × List Int × Bool)
  | 0, _, _, _, _, _, _, _, _, _, _, _ => none
  | k + 1, x1, x2, x28, x29, x30, x594000, x594001, x594002, x594003, x594004, x594005 => if x30 < x29 then (if 0 ≤ x30 then (if x30 < (x28.length : Int) then (if x2 = 0 then (none) else ((spec_l1Least.f 1000 (wrap64 (Int.tdiv (wrap64 ((rd x28 x30) * x1)) x2))).bind fun t595 => (if x30 < (x594004.length : Int) then (spec_ScaleModel.l0 k x1 x2 x28 x29 (wrap64 (x30 + 1)) x594000 x594001 x594002 x594003 (x594004.set (x30 : Int).toNat t595) x594005) else (none)))) else (none)) else (none)) else (some (x594000, x594001, x594002, x594003, x594004, x594005, true))
end
def spec_ScaleModel.f (k : Nat) (a0_0 : Int) (a0_1 : Int) (a0_2 : Int) (l0_3 : List Int) (l0_4 : List Int) (l0_5 : List Int) (a1 : Int) (a2 : Int) : Option (Int × Int × Int × List Int × List Int × List Int × Bool) := (spec_moGood.f k a0_0 a0_1 a0_2 l0_3 l0_4 l0_5).bind fun t578 => (if t578 = true then ((spec_l1In.f a1 0 100).bind fun t579 => (if t579 = true then ((spec_l1In.f a2 1 100).bind fun t580 => (spec_ScaleModel.j0 k a1 a2 (!t580) a0_0 a0_1 a0_2 l0_3 l0_4 l0_5)) else (spec_ScaleModel.j0 k a1 a2 true a0_0 a0_1 a0_2 l0_3 l0_4 l0_5))) else (spec_ScaleModel.j0 k a1 a2 true a0_0 a0_1 a0_2 l0_3 l0_4 l0_5))
theorem spec_ScaleModel.mono_l : ∀ k, (∀ y0 y1 y2 y3 y4 y5 y6 y7 y8, LeO (spec_ScaleModel.j0 k y0 y1 y2 y3 y4 y5 y6 y7 y8) (spec_ScaleModel.j0 (k + 1) y0 y1 y2 y3 y4 y5 y6 y7 y8)) ∧ (∀ y0 y1 y2 y3 y4 y5 y6 y7 y8 y9 y10, LeO (spec_ScaleModel.l0 k y0 y1 y2 y3 y4 y5 y6 y7 y8 y9 y10) (spec_ScaleModel.l0 (k + 1) y0 y1 y2 y3 y4 y5 y6 y7 y8 y9 y10))
  | 0 => ⟨fun _ _ _ _ _ _ _ _ _ r h => by simp [spec_ScaleModel.j0] at h, fun _ _ _ _ _ _ _ _ _ _ _ r h => by simp [spec_ScaleModel.l0] at h⟩
  | k + 1 => by
    obtain ⟨ih0, ih1⟩ := spec_ScaleModel.mono_l k
    refine ⟨?_, ?_⟩
    · intro y0 y1 y2 y3 y4 y5 y6 y7 y8
      unfold spec_ScaleModel.j0
      repeat' first
      | (with_reducible exact ih0 _ _ _ _ _ _ _ _ _)
      | (with_reducible exact ih1 _ _ _ _ _ _ _ _ _ _ _)
      | (with_reducible exact spec_moGood.mono _ _ _ _ _ _ _)
      | (with_reducible exact LeO.refl _)
      | (with_reducible exact LeO.none _)
      | (with_reducible refine LeO.ite ?_ ?_)
      | (with_reducible refine LeO.bind ?_ (fun _ => ?_))
      | exact ih0 _ _ _ _ _ _ _ _ _
      | exact ih1 _ _ _ _ _ _ _ _ _ _ _
      | exact spec_moGood.mono _ _ _ _ _ _ _
      | exact LeO.none _
      | refine LeO.ite ?_ ?_
      | refine LeO.bind ?_ (fun _ => ?_)
    · intro y0 y1 y2 y3 y4 y5 y6 y7 y8 y9 y10
      unfold spec_ScaleModel.l0
      repeat' first
      | (with_reducible exact ih0 _ _ _ _ _ _ _ _ _)
      | (with_reducible exact ih1 _ _ _ _ _ _ _ _ _ _ _)
      | (with_reducible exact spec_moGood.mono _ _ _ _ _ _ _)
      | (with_reducible exact LeO.refl _)
      | (with_reducible exact LeO.none _)
      | (with_reducible refine LeO.ite ?_ ?_)
      | (with_reducible refine LeO.bind ?_ (fun _ => ?_))
      | exact ih0 _ _ _ _ _ _ _ _ _
      | exact ih1 _ _ _ _ _ _ _ _ _ _ _
      | exact spec_moGood.mono _ _ _ _ _ _ _
      | exact LeO.none _
      | refine LeO.ite ?_ ?_
      | refine LeO.bind ?_ (fun _ => ?_)
theorem spec_ScaleModel.mono : ∀ a0 a1 a2 a3 a4 a5 a6 a7 k, LeO (spec_ScaleModel.f k a0 a1 a2 a3 a4 a5 a6 a7) (spec_ScaleModel.f (k + 1) a0 a1 a2 a3 a4 a5 a6 a7) := by
  intro a0 a1 a2 a3 a4 a5 a6 a7 k
  obtain ⟨ih0, ih1⟩ := spec_ScaleModel.mono_l k
  unfold spec_ScaleModel.f
  repeat' first
      | (with_reducible exact ih0 _ _ _ _ _ _ _ _ _)
      | (with_reducible exact ih1 _ _ _ _ _ _ _ _ _ _ _)
      | (with_reducible exact spec_moGood.mono _ _ _ _ _ _ _)
      | (with_reducible exact LeO.refl _)
      | (with_reducible exact LeO.none _)
      | (with_reducible refine LeO.ite ?_ ?_)
      | (with_reducible refine LeO.bind ?_ (fun _ => ?_))
      | exact ih0 _ _ _ _ _ _ _ _ _
      | exact ih1 _ _ _ _ _ _ _ _ _ _ _
      | exact spec_moGood.mono _ _ _ _ _ _ _
      | exact LeO.none _
      | refine LeO.ite ?_ ?_
      | refine LeO.bind ?_ (fun _ => ?_)
/-! ### spec_DrawMixModels: function 31 -/
def spec_DrawMixModels.f (k : Nat) (l0 : List Int) : Option (Int × Int × Int × List Int × List Int × List Int × Int × Int × Int × List Int × List Int × List Int × Int) := (spec_l1Cur_beside.f k l0 0 0).bind fun bt600 => ((spec_l1Cur_pick.f l0 bt600.2.2.2.2.2.2.2.2.2.2.2.2.1 bt600.2.2.2.2.2.2.2.2.2.2.2.2.2 12).bind fun bt628 => ((spec_l1Cur_pick.f l0 bt628.2.1 bt628.2.2 20).bind fun bt631 => (some (bt600.1, bt600.2.1, bt600.2.2.1, bt600.2.2.2.1, bt600.2.2.2.2.1, bt600.2.2.2.2.2.1, bt600.2.2.2.2.2.2.1, bt600.2.2.2.2.2.2.2.1, bt600.2.2.2.2.2.2.2.2.1, bt600.2.2.2.2.2.2.2.2.2.1, bt600.2.2.2.2.2.2.2.2.2.2.1, bt600.2.2.2.2.2.2.2.2.2.2.2.1, wrap64 (bt628.1 - (wrap64 (Int.tdiv bt631.1 19)))))))
theorem spec_DrawMixModels.mono : ∀ a0 k, LeO (spec_DrawMixModels.f k a0) (spec_DrawMixModels.f (k + 1) a0) := by
  intro a0 k
  unfold spec_DrawMixModels.f
  repeat' first
      | (with_reducible exact spec_l1Cur_beside.mono _ _ _ _)
      | (with_reducible exact LeO.refl _)
      | (with_reducible exact LeO.none _)
      | (with_reducible refine LeO.ite ?_ ?_)
      | (with_reducible refine LeO.bind ?_ (fun _ => ?_))
      | exact spec_l1Cur_beside.mono _ _ _ _
      | exact LeO.none _
      | refine LeO.ite ?_ ?_
      | refine LeO.bind ?_ (fun _ => ?_)
/-! ### impl_MixModels: function 32 -/
mutual
def impl_MixModels.j0 : Nat → Int → Bool → Int → Int → Int → List Int → List Int → List Int → Int → Int → Int → List Int → List Int → List Int → Option (Int × Int × Int × List Int × List Int × List Int × Bool)
  | 0, _, _, _, _, _, _, _, _, _, _, _, _, _, _ => none
  | k + 1, x2, x21, x635000, x635001, x635002, x635003, x635004, x635005, x636000, x636001, x636002, x636003, x636004, x636005 => if x21 = true then (some (0, 0, 0, ([] : List Int), ([] : List Int), ([] : List Int), false)) else ((impl_copyModel.f x635000 x635001 x635002 x635003 x635004 x635005).bind fun bt638 => (impl_MixModels.l0 k x2 (bt638.2.2.2.2.1.length : Int) 0 x635000 x635001 x635002 x635003 x635004 x635005 x636000 x636001 x636002 x636003 x636004 x636005 bt638.1 bt638.2.1 bt638.2.2.1 bt638.2.2.2.1 bt638.2.2.2.2.1 bt638.2.2.2.2.2))
def impl_MixModels.l0 : Nat → Int → Int → Int → Int → Int → Int → List Int → List Int → List Int → Int → Int → Int → List Int → List Int → List Int → Int → Int → Int → List Int → List Int → List Int → Option (Int × Int × Int × List Int × List Int × List Int × Bool)
  | 0, _, _, _, _, _, _, _, _, _, _, _, _, _, _, _, _, _, _, _, _, _ => none
  | k + 1, x2, x27, x28, x635000, x635001, x635002, x635003, x635004, x635005, x636000, x636001, x636002, x636003, x636004, x636005, x651000, x651001, x651002, x651003, x651004, x651005 => if x28 < x27 then (if 0 ≤ x28 then (if x28 < (x635004.length : Int) then (if x28 < (x636004.length : Int) then (if x28 < (x651004.length : Int) then (impl_MixModels.l0 k x2 x27 (wrap64 (x28 + 1)) x635000 x635001 x635002 x635003 x635004 x635005 x636000 x636001 x636002 x636003 x636004 x636005 x651000 x651001 x651002 x651003 (x651004.set (x28 : Int).toNat (wrap64 (Int.tdiv (wrap64 ((wrap64 (x2 * (rd x635004 x28))) + (wrap64 ((wrap64 (10 - x2)) * (rd x636004 x28))))) 10))) x651005) else (none)) else (none)) else (none)) else (none)) else (some (x651000, x651001, x651002, x651003, x651004, x651005, true))
end
def impl_MixModels.f (k : Nat) (a0_0 : Int) (a0_1 : Int) (a0_2 : Int) (l0_3 : List Int) (l0_4 : List Int) (l0_5 : List Int) (a1_0 : Int) (a1_1 : Int) (a1_2 : Int) (l1_3 : List Int) (l1_4 : List Int) (l1_5 : List Int) (a2 : Int) : Option (Int × Int × Int × List Int × List Int × List Int × Bool) := (impl_areTwins.f k a0_0 a0_1 a0_2 l0_3 l0_4 l0_5 a1_0 a1_1 a1_2 l1_3 l1_4 l1_5).bind fun t637 => (if t637 = true then (if a2 < 0 then (impl_MixModels.j0 k a2 true a0_0 a0_1 a0_2 l0_3 l0_4 l0_5 a1_0 a1_1 a1_2 l1_3 l1_4 l1_5) else (impl_MixModels.j0 k a2 (decide (a2 > 10)) a0_0 a0_1 a0_2 l0_3 l0_4 l0_5 a1_0 a1_1 a1_2 l1_3 l1_4 l1_5)) else (impl_MixModels.j0 k a2 true a0_0 a0_1 a0_2 l0_3 l0_4 l0_5 a1_0 a1_1 a1_2 l1_3 l1_4 l1_5))
theorem impl_MixModels.mono_l : ∀ k, (∀ y0 y1 y2 y3 y4 y5 y6 y7 y8 y9 y10 y11 y12 y13, LeO (impl_MixModels.j0 k y0 y1 y2 y3 y4 y5 y6 y7 y8 y9 y10 y11 y12 y13) (impl_MixModels.j0 (k + 1) y0 y1 y2 y3 y4 y5 y6 y7 y8 y9 y10 y11 y12 y13)) ∧ (∀ y0 y1 y2 y3 y4 y5 y6 y7 y8 y9 y10 y11 y12 y13 y14 y15 y16 y17 y18 y19 y20, LeO (impl_MixModels.l0 k y0 y1 y2 y3 y4 y5 y6 y7 y8 y9 y10 y11 y12 y13 y14 y15 y16 y17 y18 y19 y20) (impl_MixModels.l0 (k + 1) y0 y1 y2 y3 y4 y5 y6 y7 y8 y9 y10 y11 y12 y13 y14 y15 y16 y17 y18 y19 y20))
  | 0 => ⟨fun _ _ _ _ _ _ _ _ _ _ _ _ _ _ r h => by simp [impl_MixModels.j0] at h, fun _ _ _ _ _ _ _ _ _ _ _ _ _ _ _ _ _ _ _ _ _ r h => by simp [impl_MixModels.l0] at h⟩
  | k + 1 => by
    obtain ⟨ih0, ih1⟩ := impl_MixModels.mono_l k
    refine ⟨?_, ?_⟩
    · intro y0 y1 y2 y3 y4 y5 y6 y7 y8 y9 y10 y11 y12 y13
      unfold impl_MixModels.j0
      repeat' first
      | (with_reducible exact ih0 _ _ _ _ _ _ _ _ _ _ _ _ _ _)
      | (with_reducible exact ih1 _ _ _ _ _ _ _ _ _ _ _ _ _ _ _ _ _ _ _ _ _)
      | (with_reducible exact impl_areTwins.mono _ _ _ _ _ _ _ _ _ _ _ _ _)
      | (with_reducible exact LeO.refl _)
      | (with_reducible exact LeO.none _)
      | (with_reducible refine LeO.ite ?_ ?_)
      | (with_reducible refine LeO.bind ?_ (fun _ => ?_))
      | exact ih0 _ _ _ _ _ _ _ _ _ _ _ _ _ _
      | exact ih1 _ _ _ _ _ _ _ _ _ _ _ _ _ _ _ _ _ _ _ _ _
      | exact impl_areTwins.mono _ _ _ _ _ _ _ _ _ _ _ _ _
      | exact LeO.none _
      | refine LeO.ite ?_ ?_
      | refine LeO.bind ?_ (fun _ => ?_)
    · intro y0 y1 y2 y3 y4 y5 y6 y7 y8 y9 y10 y11 y12 y13 y14 y15 y16 y17 y18 y19 y20
      unfold impl_MixModels.l0
      repeat' first
      | (with_reducible exact ih0 _ _ _ _ _ _ _ _ _ _ _ _ _ _)
      | (with_reducible exact ih1 _ _ _ _ _ _ _ _ _ _ _ _ _ _ _ _ _ _ _ _ _)
      | (with_reducible exact impl_areTwins.mono _ _ _ _ _ _ _ _ _ _ _ _ _)
      | (with_reducible exact LeO.refl _)
      | (with_reducible exact LeO.none _)
      | (with_reducible refine LeO.ite ?_ ?_)
      | (with_reducible refine LeO.bind ?_ (fun _ => ?_))
      | exact ih0 _ _ _ _ _ _ _ _ _ _ _ _ _ _
      | exact ih1 _ _ _ _ _ _ _ _ _ _ _ _ _ _ _ _ _ _ _ _ _
      | exact impl_areTwins.mono _ _ _ _ _ _ _ _ _ _ _ _ _
      | exact LeO.none _
      | refine LeO.ite ?_ ?_
      | refine LeO.bind ?_ (fun _ => ?_)
theorem impl_MixModels.mono : ∀ a0 a1 a2 a3 a4 a5 a6 a7 a8 a9 a10 a11 a12 k, LeO (impl_MixModels.f k a0 a1 a2 a3 a4 a5 a6 a7 a8 a9 a10 a11 a12) (impl_MixModels.f (k + 1) a0 a1 a2 a3 a4 a5 a6 a7 a8 a9 a10 a11 a12) := by
  intro a0 a1 a2 a3 a4 a5 a6 a7 a8 a9 a10 a11 a12 k
  obtain ⟨ih0, ih1⟩ := impl_MixModels.mono_l k
  unfold impl_MixModels.f
  repeat' first
      | (with_reducible exact ih0 _ _ _ _ _ _ _ _ _ _ _ _ _ _)
      | (with_reducible exact ih1 _ _ _ _ _ _ _ _ _ _ _ _ _ _ _ _ _ _ _ _ _)
      | (with_reducible exact impl_areTwins.mono _ _ _ _ _ _ _ _ _ _ _ _ _)
      | (with_reducible exact LeO.refl _)
      | (with_reducible exact LeO.none _)
      | (with_reducible refine LeO.ite ?_ ?_)
      | (with_reducible refine LeO.bind ?_ (fun _ => ?_))
      | exact ih0 _ _ _ _ _ _ _ _ _ _ _ _ _ _
      | exact ih1 _ _ _ _ _ _ _ _ _ _ _ _ _ _ _ _ _ _ _ _ _
      | exact impl_areTwins.mono _ _ _ _ _ _ _ _ _ _ _ _ _
      | exact LeO.none _
      | refine LeO.ite ?_ ?_
      | refine LeO.bind ?_ (fun _ => ?_)
/-! ### spec_MixModels: function 33 -/
mutual
def spec_MixModels.j0 : Nat → Int → Bool → Int → Int → Int → List Int → List Int → List Int → Int → Int → Int → List Int → List Int → List Int → Option (Int × Int × Int × List Int × List Int × List Int × Bool)
  | 0, _, _, _, _, _, _, _, _, _, _, _, _, _, _ => none
  | k + 1, x2, x19, x655000, x655001, x655002, x655003, x655004, x655005, x656000, x656001, x656002, x656003, x656004, x656005 => if x19 = true then (some (0, 0, 0, ([] : List Int), ([] : List Int), ([] : List Int), false)) else ((spec_moOwn.f x655000 x655001 x655002 x655003 x655004 x655005).bind fun bt659 => (spec_MixModels.l0 k x2 x655004 (x655004.length : Int) 0 x656000 x656001 x656002 x656003 x656004 x656005 bt659.1 bt659.2.1 bt659.2.2.1 bt659.2.2.2.1 bt659.2.2.2.2.1 bt659.2.2.2.2.2))
def spec_MixModels.l0 : Nat → Int → List Int → Int → Int → Int → Int → Int → List Int → List Int → List Int → Int → Int → Int → List Int → List Int → List Int → Option (Int × Int × Int × List Int × List Int × List Int × Bool)
  | 0, _, _, _, _, _, _, _, _, _, _, _, _, _, _, _, _ => none
  | k + 1, x2, x24, x25, x26, x656000, x656001, x656002, x656003, x656004, x656005, x672000, x672001, x672002, x672003, x672004, x672005 => if x26 < x25 then (if 0 ≤ x26 then (if x26 < (x24.length : Int) then (if x26 < (x656004.length : Int) then (if x26 < (x672004.length : Int) then (spec_MixModels.l0 k x2 x24 x25 (wrap64 (x26 + 1)) x656000 x656001 x656002 x656003 x656004 x656005 x672000 x672001 x672002 x672003 (x672004.set (x26 : Int).toNat (wrap64 (Int.tdiv (wrap64 ((wrap64 (x2 * (rd x24 x26))) + (wrap64 ((wrap64 (10 - x2)) * (rd x656004 x26))))) 10))) x672005) else (none)) else (none)) else (none)) else (none)) else (some (x672000, x672001, x672002, x672003, x672004, x672005, true))
end
def spec_MixModels.f (k : Nat) (a0_0 : Int) (a0_1 : Int) (a0_2 : Int) (l0_3 : List Int) (l0_4 : List Int) (l0_5 : List Int) (a1_0 : Int) (a1_1 : Int) (a1_2 : Int) (l1_3 : List Int) (l1_4 : List Int) (l1_5 : List Int) (a2 : Int) : Option (Int × Int × Int × List Int × List Int × List Int × Bool) := (spec_rcBoth.f k a0_0 a0_1 a0_2 l0_3 l0_4 l0_5 a1_0 a1_1 a1_2 l1_3 l1_4 l1_5).bind fun t657 => (if t657 = true then ((spec_l1In.f a2 0 10).bind fun t658 => (spec_MixModels.j0 k a2 (!t658) a0_0 a0_1 a0_2 l0_3 l0_4 l0_5 a1_0 a1_1 a1_2 l1_3 l1_4 l1_5)) else (spec_MixModels.j0 k a2 true a0_0 a0_1 a0_2 l0_3 l0_4 l0_5 a1_0 a1_1 a1_2 l1_3 l1_4 l1_5))
theorem spec_MixModels.mono_l : ∀ k, (∀ y0 y1 y2 y3 y4 y5 y6 y7 y8 y9 y10 y11 y12 y13, LeO (spec_MixModels.j0 k y0 y1 y2 y3 y4 y5 y6 y7 y8 y9 y10 y11 y12 y13) (spec_MixModels.j0 (k + 1) y0 y1 y2 y3 y4 y5 y6 y7 y8 y9 y10 y11 y12 y13)) ∧ (∀ y0 y1 y2 y3 y4 y5 y6 y7 y8 y9 y10 y11 y12 y13 y14 y15, LeO (spec_MixModels.l0 k y0 y1 y2 y3 y4 y5 y6 y7 y8 y9 y10 y11 y12 y13 y14 y15) (spec_MixModels.l0 (k + 1) y0 y1 y2 y3 y4 y5 y6 y7 y8 y9 y10 y11 y12 y13 y14 y15))
  | 0 => ⟨fun _ _ _ _ _ _ _ _ _ _ _ _ _ _ r h => by simp [spec_MixModels.j0] at h, fun _ _ _ _ _ _ _ _ _ _ _ _ _ _ _ _ r h => by simp [spec_MixModels.l0] at h⟩
  | k + 1 => by
    obtain ⟨ih0, ih1⟩ := spec_MixModels.mono_l k
    refine ⟨?_, ?_⟩
    · intro y0 y1 y2 y3 y4 y5 y6 y7 y8 y9 y10 y11 y12 y13
      unfold spec_MixModels.j0
      repeat' first
      | (with_reducible exact ih0 _ _ _ _ _ _ _ _ _ _ _ _ _ _)
      | (with_reducible exact ih1 _ _ _ _ _ _ _ _ _ _ _ _ _ _ _ _)
      | (with_reducible exact spec_rcBoth.mono _ _ _ _ _ _ _ _ _ _ _ _ _)
      | (with_reducible exact LeO.refl _)
      | (with_reducible exact LeO.none _)
      | (with_reducible refine LeO.ite ?_ ?_)
      | (with_reducible refine LeO.bind ?_ (fun _ => ?_))
      | exact ih0 _ _ _ _ _ _ _ _ _ _ _ _ _ _
      | exact ih1 _ _ _ _ _ _ _ _ _ _ _ _ _ _ _ _
      | exact spec_rcBoth.mono _ _ _ _ _ _ _ _ _ _ _ _ _
      | exact LeO.none _
      | refine LeO.ite ?_ ?_
      | refine LeO.bind ?_ (fun _ => ?_)
    · intro y0 y1 y2 y3 y4 y5 y6 y7 y8 y9 y10 y11 y12 y13 y14 y15
      unfold spec_MixModels.l0
      repeat' first
      | (with_reducible exact ih0 _ _ _ _ _ _ _ _ _ _ _ _ _ _)
      | (with_reducible exact ih1 _ _ _ _ _ _ _ _ _ _ _ _ _ _ _ _)
      | (with_reducible exact spec_rcBoth.mono _ _ _ _ _ _ _ _ _ _ _ _ _)
      | (with_reducible exact LeO.refl _)
      | (with_reducible exact LeO.none _)
      | (with_reducible refine LeO.ite ?_ ?_)
      | (with_reducible refine LeO.bind ?_ (fun _ => ?_))
      | exact ih0 _ _ _ _ _ _ _ _ _ _ _ _ _ _
      | exact ih1 _ _ _ _ _ _ _ _ _ _ _ _ _ _ _ _
      | exact spec_rcBoth.mono _ _ _ _ _ _ _ _ _ _ _ _ _
      | exact LeO.none _
      | refine LeO.ite ?_ ?_
      | refine LeO.bind ?_ (fun _ => ?_)
theorem spec_MixModels.mono : ∀ a0 a1 a2 a3 a4 a5 a6 a7 a8 a9 a10 a11 a12 k, LeO (spec_MixModels.f k a0 a1 a2 a3 a4 a5 a6 a7 a8 a9 a10 a11 a12) (spec_MixModels.f (k + 1) a0 a1 a2 a3 a4 a5 a6 a7 a8 a9 a10 a11 a12) := by
  intro a0 a1 a2 a3 a4 a5 a6 a7 a8 a9 a10 a11 a12 k
  obtain ⟨ih0, ih1⟩ := spec_MixModels.mono_l k
  unfold spec_MixModels.f
  repeat' first
      | (with_reducible exact ih0 _ _ _ _ _ _ _ _ _ _ _ _ _ _)
      | (with_reducible exact ih1 _ _ _ _ _ _ _ _ _ _ _ _ _ _ _ _)
      | (with_reducible exact spec_rcBoth.mono _ _ _ _ _ _ _ _ _ _ _ _ _)
      | (with_reducible exact LeO.refl _)
      | (with_reducible exact LeO.none _)
      | (with_reducible refine LeO.ite ?_ ?_)
      | (with_reducible refine LeO.bind ?_ (fun _ => ?_))
      | exact ih0 _ _ _ _ _ _ _ _ _ _ _ _ _ _
      | exact ih1 _ _ _ _ _ _ _ _ _ _ _ _ _ _ _ _
      | exact spec_rcBoth.mono _ _ _ _ _ _ _ _ _ _ _ _ _
      | exact LeO.none _
      | refine LeO.ite ?_ ?_
      | refine LeO.bind ?_ (fun _ => ?_)
/-! ### laws_qInts: function 34 -/
def laws_qInts.l0 : Nat → List Int → List Int → Int → Int → Option (Bool)
  | 0, _, _, _, _ => none
  | k + 1, x0, x1, x12, x13 => if x13 < x12 then (if 0 ≤ x13 then (if x13 < (x0.length : Int) then (if x13 < (x1.length : Int) then (if (rd x0 x13) = (rd x1 x13) then (laws_qInts.l0 k x0 x1 x12 (wrap64 (x13 + 1))) else (some false)) else (none)) else (none)) else (none)) else (some true)
def laws_qInts.f (k : Nat) (l0 : List Int) (l1 : List Int) : Option (Bool) := if (l0.length : Int) = (l1.length : Int) then (laws_qInts.l0 k l0 l1 (l0.length : Int) 0) else (some false)
theorem laws_qInts.mono_l : ∀ k, (∀ y0 y1 y2 y3, LeO (laws_qInts.l0 k y0 y1 y2 y3) (laws_qInts.l0 (k + 1) y0 y1 y2 y3))
  | 0 => fun _ _ _ _ r h => by simp [laws_qInts.l0] at h
  | k + 1 => by
    have ih0 := laws_qInts.mono_l k
    · intro y0 y1 y2 y3
      unfold laws_qInts.l0
      repeat' first
      | (with_reducible exact ih0 _ _ _ _)
      | (with_reducible exact LeO.refl _)
      | (with_reducible exact LeO.none _)
      | (with_reducible refine LeO.ite ?_ ?_)
      | (with_reducible refine LeO.bind ?_ (fun _ => ?_))
      | exact ih0 _ _ _ _
      | exact LeO.none _
      | refine LeO.ite ?_ ?_
      | refine LeO.bind ?_ (fun _ => ?_)
theorem laws_qInts.mono : ∀ a0 a1 k, LeO (laws_qInts.f k a0 a1) (laws_qInts.f (k + 1) a0 a1) := by
  intro a0 a1 k
  have ih0 := laws_qInts.mono_l k
  unfold laws_qInts.f
  repeat' first
      | (with_reducible exact ih0 _ _ _ _)
      | (with_reducible exact LeO.refl _)
      | (with_reducible exact LeO.none _)
      | (with_reducible refine LeO.ite ?_ ?_)
      | (with_reducible refine LeO.bind ?_ (fun _ => ?_))
      | exact ih0 _ _ _ _
      | exact LeO.none _
      | refine LeO.ite ?_ ?_
      | refine LeO.bind ?_ (fun _ => ?_)
/-! ### laws_qModel: function 35 -/
def laws_qModel.f (k : Nat) (a0_0 : Int) (a0_1 : Int) (a0_2 : Int) (l0_3 : List Int) (l0_4 : List Int) (l0_5 : List Int) (a1_0 : Int) (a1_1 : Int) (a1_2 : Int) (l1_3 : List Int) (l1_4 : List Int) (l1_5 : List Int) : Option (Bool) := if (a0_0 == a1_0 && (a0_1 == a1_1 && (a0_2 == a1_2))) = true then ((laws_qInts.f k l0_3 l1_3).bind fun t679 => (if t679 = true then ((laws_qInts.f k l0_4 l1_4).bind fun t680 => (if t680 = true then ((laws_qInts.f k l0_5 l1_5).bind fun t681 => (some t681)) else (some false))) else (some false))) else (some false)
theorem laws_qModel.mono : ∀ a0 a1 a2 a3 a4 a5 a6 a7 a8 a9 a10 a11 k, LeO (laws_qModel.f k a0 a1 a2 a3 a4 a5 a6 a7 a8 a9 a10 a11) (laws_qModel.f (k + 1) a0 a1 a2 a3 a4 a5 a6 a7 a8 a9 a10 a11) := by
  intro a0 a1 a2 a3 a4 a5 a6 a7 a8 a9 a10 a11 k
  unfold laws_qModel.f
  repeat' first
      | (with_reducible exact laws_qInts.mono _ _ _)
      | (with_reducible exact LeO.refl _)
      | (with_reducible exact LeO.none _)
      | (with_reducible refine LeO.ite ?_ ?_)
      | (with_reducible refine LeO.bind ?_ (fun _ => ?_))
      | exact laws_qInts.mono _ _ _
      | exact LeO.none _
      | refine LeO.ite ?_ ?_
      | refine LeO.bind ?_ (fun _ => ?_)
/-! ### laws_qSum: function 37 -/
def laws_qSum.l0 : Nat → Int → List Int → Int → Int → Option (Int)
  | 0, _, _, _, _ => none
  | k + 1, x3, x6, x7, x8 => if x8 < x7 then (if 0 ≤ x8 then (if x8 < (x6.length : Int) then (laws_qSum.l0 k (wrap64 (x3 + (rd x6 x8))) x6 x7 (wrap64 (x8 + 1))) else (none)) else (none)) else (some x3)
def laws_qSum.f (k : Nat) (l0 : List Int) : Option (Int) := laws_qSum.l0 k 0 l0 (l0.length : Int) 0
theorem laws_qSum.mono_l : ∀ k, (∀ y0 y1 y2 y3, LeO (laws_qSum.l0 k y0 y1 y2 y3) (laws_qSum.l0 (k + 1) y0 y1 y2 y3))
  | 0 => fun _ _ _ _ r h => by simp [laws_qSum.l0] at h
  | k + 1 => by
    have ih0 := laws_qSum.mono_l k
    · intro y0 y1 y2 y3
      unfold laws_qSum.l0
      repeat' first
      | (with_reducible exact ih0 _ _ _ _)
      | (with_reducible exact LeO.refl _)
      | (with_reducible exact LeO.none _)
      | (with_reducible refine LeO.ite ?_ ?_)
      | (with_reducible refine LeO.bind ?_ (fun _ => ?_))
      | exact ih0 _ _ _ _
      | exact LeO.none _
      | refine LeO.ite ?_ ?_
      | refine LeO.bind ?_ (fun _ => ?_)
theorem laws_qSum.mono : ∀ a0 k, LeO (laws_qSum.f k a0) (laws_qSum.f (k + 1) a0) := by
  intro a0 k
  have ih0 := laws_qSum.mono_l k
  unfold laws_qSum.f
  repeat' first
      | (with_reducible exact ih0 _ _ _ _)
      | (with_reducible exact LeO.refl _)
      | (with_reducible exact LeO.none _)
      | (with_reducible refine LeO.ite ?_ ?_)
      | (with_reducible refine LeO.bind ?_ (fun _ => ?_))
      | exact ih0 _ _ _ _
      | exact LeO.none _
      | refine LeO.ite ?_ ?_
      | refine LeO.bind ?_ (fun _ => ?_)
/-! ### laws_FnSorted: function 4 -/
mutual
def laws_FnSorted.j0 : Nat → Int → Bool → List Int → Int → Int → Int → Int → Bool → Int → Bool → Bool → Int → Int → Int → List Int → List Int → List Int → Int → Int → Int → List Int → List Int → List Int → Int → Int → Int → List Int → List Int → List Int → Int → Int → Int → List Int → List Int → List Int → Int → Int → Int → List Int → List Int → List Int → Int → Int → Int → List Int → List Int → List Int → Int → Int → Int → List Int → List Int → List Int → Int → Int → Int → List Int → List Int → List Int → Option (Bool)
  | 0, _, _, _, _, _, _, _, _, _, _, _, _, _, _, _, _, _, _, _, _, _, _, _, _, _, _, _, _, _, _, _, _, _, _, _, _, _, _, _, _, _, _, _, _, _, _, _, _, _, _, _, _, _, _, _, _, _, _, _ => none
  | k + 1, x7, x9, x10, x15, x16, x19, x20, x22, x27, x29, x179, x710000, x710001, x710002, x710003, x710004, x710005, x739000, x739001, x739002, x739003, x739004, x739005, x753000, x753001, x753002, x753003, x753004, x753005, x767000, x767001, x767002, x767003, x767004, x767005, x793000, x793001, x793002, x793003, x793004, x793005, x794000, x794001, x794002, x794003, x794004, x794005, x808000, x808001, x808002, x808003, x808004, x808005, x822000, x822001, x822002, x822003, x822004, x822005 => if x179 = true then (some false) else (if x22 = true then ((impl_IsModel.f k x753000 x753001 x753002 x753003 x753004 x753005).bind fun t825 => (if t825 = true then (if x19 = x20 then ((laws_qModel.f k x767000 x767001 x767002 x767003 x767004 x767005 x739000 x739001 x739002 x739003 x739004 x739005).bind fun t826 => (laws_FnSorted.j1 k x7 x9 x10 x15 x16 x19 x20 x27 x29 (!t826) x710000 x710001 x710002 x710003 x710004 x710005 x739000 x739001 x739002 x739003 x739004 x739005 x767000 x767001 x767002 x767003 x767004 x767005 x793000 x793001 x793002 x793003 x793004 x793005 x794000 x794001 x794002 x794003 x794004 x794005 x808000 x808001 x808002 x808003 x808004 x808005 x822000 x822001 x822002 x822003 x822004 x822005)) else (laws_FnSorted.j1 k x7 x9 x10 x15 x16 x19 x20 x27 x29 false x710000 x710001 x710002 x710003 x710004 x710005 x739000 x739001 x739002 x739003 x739004 x739005 x767000 x767001 x767002 x767003 x767004 x767005 x793000 x793001 x793002 x793003 x793004 x793005 x794000 x794001 x794002 x794003 x794004 x794005 x808000 x808001 x808002 x808003 x808004 x808005 x822000 x822001 x822002 x822003 x822004 x822005)) else (laws_FnSorted.j1 k x7 x9 x10 x15 x16 x19 x20 x27 x29 true x710000 x710001 x710002 x710003 x710004 x710005 x739000 x739001 x739002 x739003 x739004 x739005 x767000 x767001 x767002 x767003 x767004 x767005 x793000 x793001 x793002 x793003 x793004 x793005 x794000 x794001 x794002 x794003 x794004 x794005 x808000 x808001 x808002 x808003 x808004 x808005 x822000 x822001 x822002 x822003 x822004 x822005))) else (laws_FnSorted.j3 k x7 x9 x10 x15 x16 x27 x29 x710000 x710001 x710002 x710003 x710004 x710005 x793000 x793001 x793002 x793003 x793004 x793005 x794000 x794001 x794002 x794003 x794004 x794005 x808000 x808001 x808002 x808003 x808004 x808005 x822000 x822001 x822002 x822003 x822004 x822005))
def laws_FnSorted.j3 : Nat → Int → Bool → List Int → Int → Int → Int → Bool → Int → Int → Int → List Int → List Int → List Int → Int → Int → Int → List Int → List Int → List Int → Int → Int → Int → List Int → List Int → List Int → Int → Int → Int → List Int → List Int → List Int → Int → Int → Int → List Int → List Int → List Int → Option (Bool)
  | 0, _, _, _, _, _, _, _, _, _, _, _, _, _, _, _, _, _, _, _, _, _, _, _, _, _, _, _, _, _, _, _, _, _, _, _, _, _ => none
  | k + 1, x7, x9, x10, x15, x16, x27, x29, x710000, x710001, x710002, x710003, x710004, x710005, x793000, x793001, x793002, x793003, x793004, x793005, x794000, x794001, x794002, x794003, x794004, x794005, x808000, x808001, x808002, x808003, x808004, x808005, x822000, x822001, x822002, x822003, x822004, x822005 => if x29 = true then (laws_FnSorted.l1 k x7 x9 x10 x15 x16 x27 x822004 (x822004.length : Int) 0 x710000 x710001 x710002 x710003 x710004 x710005 x793000 x793001 x793002 x793003 x793004 x793005 x794000 x794001 x794002 x794003 x794004 x794005 x808000 x808001 x808002 x808003 x808004 x808005 x822000 x822001 x822002 x822003 x822004 x822005) else (laws_FnSorted.j5 k x7 x9 x10 x15 x16 x710000 x710001 x710002 x710003 x710004 x710005)
def laws_FnSorted.j5 : Nat → Int → Bool → List Int → Int → Int → Int → Int → Int → List Int → List Int → List Int → Option (Bool)
  | 0, _, _, _, _, _, _, _, _, _, _, _ => none
  | k + 1, x7, x9, x10, x15, x16, x710000, x710001, x710002, x710003, x710004, x710005 => if x9 = true then (laws_FnSorted.l2 k x7 x10 x15 x16 ([] : List Int) (x710003.length : Int) 0 x710000 x710001 x710002 x710003 x710004 x710005) else (some true)
def laws_FnSorted.l2 : Nat → Int → List Int → Int → Int → List Int → Int → Int → Int → Int → Int → List Int → List Int → List Int → Option (Bool)
  | 0, _, _, _, _, _, _, _, _, _, _, _, _, _ => none
  | k + 1, x7, x10, x15, x16, x38, x280, x281, x710000, x710001, x710002, x710003, x710004, x710005 => if x281 < x280 then (if x38.length < 17592186044416 then (laws_FnSorted.l2 k x7 x10 x15 x16 (x38 ++ [x281]) x280 (wrap64 (x281 + 1)) x710000 x710001 x710002 x710003 x710004 x710005) else (none)) else ((impl_SumsOf.f k x710000 x710001 x710002 x710003 x710004 x710005 x38).bind fun bt840 => ((impl_SortTable.f k x710000 x710001 x710002 x710003 x710004 x710005 x710000 x710001 x710002 x710003 x710004 x710005 x7).bind fun bt843 => ((spec_SortTable.f k x710000 x710001 x710002 x710003 x710004 x710005 x710000 x710001 x710002 x710003 x710004 x710005 x7).bind fun bt847 => (if bt840.2.2 = true then ((laws_qSum.f k x10).bind fun t851 => (if t851 = bt840.1 then (if (wrap64 (x15 + x16)) ≤ bt840.2.1 then (if bt843.2 = true then (if bt847.2 = true then ((laws_qInts.f k bt843.1 bt847.1).bind fun t852 => (if t852 = true then (if 1 < (bt847.1.length : Int) then (if (rd bt847.1 1) = 0 then (if 2 < (bt847.1.length : Int) then (some ((rd bt847.1 2) == 0)) else (none)) else (some false)) else (none)) else (some false))) else (some false)) else (some false)) else (some false)) else (some false))) else (some false)))))
def laws_FnSorted.l1 : Nat → Int → Bool → List Int → Int → Int → Int → List Int → Int → Int → Int → Int → Int → List Int → List Int → List Int → Int → Int → Int → List Int → List Int → List Int → Int → Int → Int → List Int → List Int → List Int → Int → Int → Int → List Int → List Int → List Int → Int → Int → Int → List Int → List Int → List Int → Option (Bool)
  | 0, _, _, _, _, _, _, _, _, _, _, _, _, _, _, _, _, _, _, _, _, _, _, _, _, _, _, _, _, _, _, _, _, _, _, _, _, _, _, _ => none
  | k + 1, x7, x9, x10, x15, x16, x27, x232, x233, x234, x710000, x710001, x710002, x710003, x710004, x710005, x793000, x793001, x793002, x793003, x793004, x793005, x794000, x794001, x794002, x794003, x794004, x794005, x808000, x808001, x808002, x808003, x808004, x808005, x822000, x822001, x822002, x822003, x822004, x822005 => if x234 < x233 then (if 0 ≤ x234 then (if x234 < (x232.length : Int) then (if x234 < (x793004.length : Int) then (if x234 < (x794004.length : Int) then (if (rd x793004 x234) > (rd x794004 x234) then (if (rd x232 x234) < (rd x794004 x234) then (some false) else (if (rd x232 x234) > (rd x793004 x234) then (some false) else (laws_FnSorted.l1 k x7 x9 x10 x15 x16 x27 x232 x233 (wrap64 (x234 + 1)) x710000 x710001 x710002 x710003 x710004 x710005 x793000 x793001 x793002 x793003 x793004 x793005 x794000 x794001 x794002 x794003 x794004 x794005 x808000 x808001 x808002 x808003 x808004 x808005 x822000 x822001 x822002 x822003 x822004 x822005))) else (if (rd x232 x234) < (rd x793004 x234) then (some false) else (if (rd x232 x234) > (rd x794004 x234) then (some false) else (laws_FnSorted.l1 k x7 x9 x10 x15 x16 x27 x232 x233 (wrap64 (x234 + 1)) x710000 x710001 x710002 x710003 x710004 x710005 x793000 x793001 x793002 x793003 x793004 x793005 x794000 x794001 x794002 x794003 x794004 x794005 x808000 x808001 x808002 x808003 x808004 x808005 x822000 x822001 x822002 x822003 x822004 x822005)))) else (none)) else (none)) else (none)) else (none)) else (if x27 = 10 then ((laws_qModel.f k x822000 x822001 x822002 x822003 x822004 x822005 x793000 x793001 x793002 x793003 x793004 x793005).bind fun t834 => (if t834 = true then ((impl_IsModel.f k x808000 x808001 x808002 x808003 x808004 x808005).bind fun t835 => (if t835 = true then (laws_FnSorted.j5 k x7 x9 x10 x15 x16 x710000 x710001 x710002 x710003 x710004 x710005) else (some false))) else (some false))) else ((impl_IsModel.f k x808000 x808001 x808002 x808003 x808004 x808005).bind fun t836 => (if t836 = true then (laws_FnSorted.j5 k x7 x9 x10 x15 x16 x710000 x710001 x710002 x710003 x710004 x710005) else (some false))))
def laws_FnSorted.j1 : Nat → Int → Bool → List Int → Int → Int → Int → Int → Int → Bool → Bool → Int → Int → Int → List Int → List Int → List Int → Int → Int → Int → List Int → List Int → List Int → Int → Int → Int → List Int → List Int → List Int → Int → Int → Int → List Int → List Int → List Int → Int → Int → Int → List Int → List Int → List Int → Int → Int → Int → List Int → List Int → List Int → Int → Int → Int → List Int → List Int → List Int → Option (Bool)
  | 0, _, _, _, _, _, _, _, _, _, _, _, _, _, _, _, _, _, _, _, _, _, _, _, _, _, _, _, _, _, _, _, _, _, _, _, _, _, _, _, _, _, _, _, _, _, _, _, _, _, _, _, _ => none
  | k + 1, x7, x9, x10, x15, x16, x19, x20, x27, x29, x194, x710000, x710001, x710002, x710003, x710004, x710005, x739000, x739001, x739002, x739003, x739004, x739005, x767000, x767001, x767002, x767003, x767004, x767005, x793000, x793001, x793002, x793003, x793004, x793005, x794000, x794001, x794002, x794003, x794004, x794005, x808000, x808001, x808002, x808003, x808004, x808005, x822000, x822001, x822002, x822003, x822004, x822005 => if x194 = true then (some false) else (laws_FnSorted.l0 k x7 x9 x10 x15 x16 x19 x20 x27 x29 x767004 (x767004.length : Int) 0 x710000 x710001 x710002 x710003 x710004 x710005 x739000 x739001 x739002 x739003 x739004 x739005 x793000 x793001 x793002 x793003 x793004 x793005 x794000 x794001 x794002 x794003 x794004 x794005 x808000 x808001 x808002 x808003 x808004 x808005 x822000 x822001 x822002 x822003 x822004 x822005)
def laws_FnSorted.l0 : Nat → Int → Bool → List Int → Int → Int → Int → Int → Int → Bool → List Int → Int → Int → Int → Int → Int → List Int → List Int → List Int → Int → Int → Int → List Int → List Int → List Int → Int → Int → Int → List Int → List Int → List Int → Int → Int → Int → List Int → List Int → List Int → Int → Int → Int → List Int → List Int → List Int → Int → Int → Int → List Int → List Int → List Int → Option (Bool)
  | 0, _, _, _, _, _, _, _, _, _, _, _, _, _, _, _, _, _, _, _, _, _, _, _, _, _, _, _, _, _, _, _, _, _, _, _, _, _, _, _, _, _, _, _, _, _, _, _, _ => none
  | k + 1, x7, x9, x10, x15, x16, x19, x20, x27, x29, x196, x197, x198, x710000, x710001, x710002, x710003, x710004, x710005, x739000, x739001, x739002, x739003, x739004, x739005, x793000, x793001, x793002, x793003, x793004, x793005, x794000, x794001, x794002, x794003, x794004, x794005, x808000, x808001, x808002, x808003, x808004, x808005, x822000, x822001, x822002, x822003, x822004, x822005 => if x198 < x197 then (if 0 ≤ x198 then (if x198 < (x196.length : Int) then (if x19 ≤ x20 then (if x198 < (x739004.length : Int) then (if (rd x196 x198) > (rd x739004 x198) then (some false) else (if x19 ≥ x20 then (if (rd x196 x198) < (rd x739004 x198) then (some false) else (laws_FnSorted.l0 k x7 x9 x10 x15 x16 x19 x20 x27 x29 x196 x197 (wrap64 (x198 + 1)) x710000 x710001 x710002 x710003 x710004 x710005 x739000 x739001 x739002 x739003 x739004 x739005 x793000 x793001 x793002 x793003 x793004 x793005 x794000 x794001 x794002 x794003 x794004 x794005 x808000 x808001 x808002 x808003 x808004 x808005 x822000 x822001 x822002 x822003 x822004 x822005)) else (laws_FnSorted.l0 k x7 x9 x10 x15 x16 x19 x20 x27 x29 x196 x197 (wrap64 (x198 + 1)) x710000 x710001 x710002 x710003 x710004 x710005 x739000 x739001 x739002 x739003 x739004 x739005 x793000 x793001 x793002 x793003 x793004 x793005 x794000 x794001 x794002 x794003 x794004 x794005 x808000 x808001 x808002 x808003 x808004 x808005 x822000 x822001 x822002 x822003 x822004 x822005))) else (none)) else (if x19 ≥ x20 then (if x198 < (x739004.length : Int) then (if (rd x196 x198) < (rd x739004 x198) then (some false) else (laws_FnSorted.l0 k x7 x9 x10 x15 x16 x19 x20 x27 x29 x196 x197 (wrap64 (x198 + 1)) x710000 x710001 x710002 x710003 x710004 x710005 x739000 x739001 x739002 x739003 x739004 x739005 x793000 x793001 x793002 x793003 x793004 x793005 x794000 x794001 x794002 x794003 x794004 x794005 x808000 x808001 x808002 x808003 x808004 x808005 x822000 x822001 x822002 x822003 x822004 x822005)) else (none)) else (laws_FnSorted.l0 k x7 x9 x10 x15 x16 x19 x20 x27 x29 x196 x197 (wrap64 (x198 + 1)) x710000 x710001 x710002 x710003 x710004 x710005 x739000 x739001 x739002 x739003 x739004 x739005 x793000 x793001 x793002 x793003 x793004 x793005 x794000 x794001 x794002 x794003 x794004 x794005 x808000 x808001 x808002 x808003 x808004 x808005 x822000 x822001 x822002 x822003 x822004 x822005))) else (none)) else (none)) else (laws_FnSorted.j3 k x7 x9 x10 x15 x16 x27 x29 x710000 x710001 x710002 x710003 x710004 x710005 x793000 x793001 x793002 x793003 x793004 x793005 x794000 x794001 x794002 x794003 x794004 x794005 x808000 x808001 x808002 x808003 x808004 x808005 x822000 x822001 x822002 x822003 x822004 x822005)
end
def laws_FnSorted.f (k : Nat) (l0 : List Int) (l1 : List Int) : Option (Bool) := if (wrap64 ((l0.length : Int) + (l1.length : Int))) > 1048576 then (some true) else ((spec_DrawSortTable.f k l0).bind fun bt683 => ((impl_SortTable.f k bt683.1 bt683.2.1 bt683.2.2.1 bt683.2.2.2.1 bt683.2.2.2.2.1 bt683.2.2.2.2.2.1 bt683.2.2.2.2.2.2.1 bt683.2.2.2.2.2.2.2.1 bt683.2.2.2.2.2.2.2.2.1 bt683.2.2.2.2.2.2.2.2.2.1 bt683.2.2.2.2.2.2.2.2.2.2.1 bt683.2.2.2.2.2.2.2.2.2.2.2.1 bt683.2.2.2.2.2.2.2.2.2.2.2.2).bind fun bt710 => ((spec_SortTable.f k bt683.1 bt683.2.1 bt683.2.2.1 bt683.2.2.2.1 bt683.2.2.2.2.1 bt683.2.2.2.2.2.1 bt683.2.2.2.2.2.2.1 bt683.2.2.2.2.2.2.2.1 bt683.2.2.2.2.2.2.2.2.1 bt683.2.2.2.2.2.2.2.2.2.1 bt683.2.2.2.2.2.2.2.2.2.2.1 bt683.2.2.2.2.2.2.2.2.2.2.2.1 bt683.2.2.2.2.2.2.2.2.2.2.2.2).bind fun bt714 => ((impl_WrongMetal.f k bt683.1 bt683.2.1 bt683.2.2.1 bt683.2.2.2.1 bt683.2.2.2.2.1 bt683.2.2.2.2.2.1 bt683.2.2.2.2.2.2.1 bt683.2.2.2.2.2.2.2.1 bt683.2.2.2.2.2.2.2.2.1 bt683.2.2.2.2.2.2.2.2.2.1 bt683.2.2.2.2.2.2.2.2.2.2.1 bt683.2.2.2.2.2.2.2.2.2.2.2.1 bt683.2.2.2.2.2.2.2.2.2.2.2.2).bind fun bt718 => ((spec_WrongMetal.f k bt683.1 bt683.2.1 bt683.2.2.1 bt683.2.2.2.1 bt683.2.2.2.2.1 bt683.2.2.2.2.2.1 bt683.2.2.2.2.2.2.1 bt683.2.2.2.2.2.2.2.1 bt683.2.2.2.2.2.2.2.2.1 bt683.2.2.2.2.2.2.2.2.2.1 bt683.2.2.2.2.2.2.2.2.2.2.1 bt683.2.2.2.2.2.2.2.2.2.2.2.1 bt683.2.2.2.2.2.2.2.2.2.2.2.2).bind fun bt721 => ((spec_DrawScaleModel.f k l1).bind fun bt724 => ((impl_ScaleModel.f k bt724.1 bt724.2.1 bt724.2.2.1 bt724.2.2.2.1 bt724.2.2.2.2.1 bt724.2.2.2.2.2.1 bt724.2.2.2.2.2.2.1 bt724.2.2.2.2.2.2.2).bind fun bt739 => ((spec_ScaleModel.f k bt724.1 bt724.2.1 bt724.2.2.1 bt724.2.2.2.1 bt724.2.2.2.2.1 bt724.2.2.2.2.2.1 bt724.2.2.2.2.2.2.1 bt724.2.2.2.2.2.2.2).bind fun bt753 => ((spec_DrawMixModels.f k l1).bind fun bt767 => ((impl_MixModels.f k bt767.1 bt767.2.1 bt767.2.2.1 bt767.2.2.2.1 bt767.2.2.2.2.1 bt767.2.2.2.2.2.1 bt767.2.2.2.2.2.2.1 bt767.2.2.2.2.2.2.2.1 bt767.2.2.2.2.2.2.2.2.1 bt767.2.2.2.2.2.2.2.2.2.1 bt767.2.2.2.2.2.2.2.2.2.2.1 bt767.2.2.2.2.2.2.2.2.2.2.2.1 bt767.2.2.2.2.2.2.2.2.2.2.2.2).bind fun bt794 => ((spec_MixModels.f k bt767.1 bt767.2.1 bt767.2.2.1 bt767.2.2.2.1 bt767.2.2.2.2.1 bt767.2.2.2.2.2.1 bt767.2.2.2.2.2.2.1 bt767.2.2.2.2.2.2.2.1 bt767.2.2.2.2.2.2.2.2.1 bt767.2.2.2.2.2.2.2.2.2.1 bt767.2.2.2.2.2.2.2.2.2.2.1 bt767.2.2.2.2.2.2.2.2.2.2.2.1 bt767.2.2.2.2.2.2.2.2.2.2.2.2).bind fun bt808 => (if (bt710.2 != bt714.2) = true then (laws_FnSorted.j0 k bt683.2.2.2.2.2.2.2.2.2.2.2.2 bt710.2 bt714.1 bt721.1 bt721.2.1 bt724.2.2.2.2.2.2.1 bt724.2.2.2.2.2.2.2 bt739.2.2.2.2.2.2 bt767.2.2.2.2.2.2.2.2.2.2.2.2 bt794.2.2.2.2.2.2 true bt683.2.2.2.2.2.2.1 bt683.2.2.2.2.2.2.2.1 bt683.2.2.2.2.2.2.2.2.1 bt683.2.2.2.2.2.2.2.2.2.1 bt683.2.2.2.2.2.2.2.2.2.2.1 bt683.2.2.2.2.2.2.2.2.2.2.2.1 bt724.1 bt724.2.1 bt724.2.2.1 bt724.2.2.2.1 bt724.2.2.2.2.1 bt724.2.2.2.2.2.1 bt739.1 bt739.2.1 bt739.2.2.1 bt739.2.2.2.1 bt739.2.2.2.2.1 bt739.2.2.2.2.2.1 bt753.1 bt753.2.1 bt753.2.2.1 bt753.2.2.2.1 bt753.2.2.2.2.1 bt753.2.2.2.2.2.1 bt767.1 bt767.2.1 bt767.2.2.1 bt767.2.2.2.1 bt767.2.2.2.2.1 bt767.2.2.2.2.2.1 bt767.2.2.2.2.2.2.1 bt767.2.2.2.2.2.2.2.1 bt767.2.2.2.2.2.2.2.2.1 bt767.2.2.2.2.2.2.2.2.2.1 bt767.2.2.2.2.2.2.2.2.2.2.1 bt767.2.2.2.2.2.2.2.2.2.2.2.1 bt794.1 bt794.2.1 bt794.2.2.1 bt794.2.2.2.1 bt794.2.2.2.2.1 bt794.2.2.2.2.2.1 bt808.1 bt808.2.1 bt808.2.2.1 bt808.2.2.2.1 bt808.2.2.2.2.1 bt808.2.2.2.2.2.1) else ((laws_qInts.f k bt710.1 bt714.1).bind fun t822 => (if t822 = true then (if (bt718.2.2 != bt721.2.2) = true then (laws_FnSorted.j0 k bt683.2.2.2.2.2.2.2.2.2.2.2.2 bt710.2 bt714.1 bt721.1 bt721.2.1 bt724.2.2.2.2.2.2.1 bt724.2.2.2.2.2.2.2 bt739.2.2.2.2.2.2 bt767.2.2.2.2.2.2.2.2.2.2.2.2 bt794.2.2.2.2.2.2 true bt683.2.2.2.2.2.2.1 bt683.2.2.2.2.2.2.2.1 bt683.2.2.2.2.2.2.2.2.1 bt683.2.2.2.2.2.2.2.2.2.1 bt683.2.2.2.2.2.2.2.2.2.2.1 bt683.2.2.2.2.2.2.2.2.2.2.2.1 bt724.1 bt724.2.1 bt724.2.2.1 bt724.2.2.2.1 bt724.2.2.2.2.1 bt724.2.2.2.2.2.1 bt739.1 bt739.2.1 bt739.2.2.1 bt739.2.2.2.1 bt739.2.2.2.2.1 bt739.2.2.2.2.2.1 bt753.1 bt753.2.1 bt753.2.2.1 bt753.2.2.2.1 bt753.2.2.2.2.1 bt753.2.2.2.2.2.1 bt767.1 bt767.2.1 bt767.2.2.1 bt767.2.2.2.1 bt767.2.2.2.2.1 bt767.2.2.2.2.2.1 bt767.2.2.2.2.2.2.1 bt767.2.2.2.2.2.2.2.1 bt767.2.2.2.2.2.2.2.2.1 bt767.2.2.2.2.2.2.2.2.2.1 bt767.2.2.2.2.2.2.2.2.2.2.1 bt767.2.2.2.2.2.2.2.2.2.2.2.1 bt794.1 bt794.2.1 bt794.2.2.1 bt794.2.2.2.1 bt794.2.2.2.2.1 bt794.2.2.2.2.2.1 bt808.1 bt808.2.1 bt808.2.2.1 bt808.2.2.2.1 bt808.2.2.2.2.1 bt808.2.2.2.2.2.1) else (if bt718.1 = bt721.1 then (if bt718.2.1 = bt721.2.1 then (if (bt739.2.2.2.2.2.2 != bt753.2.2.2.2.2.2) = true then (laws_FnSorted.j0 k bt683.2.2.2.2.2.2.2.2.2.2.2.2 bt710.2 bt714.1 bt721.1 bt721.2.1 bt724.2.2.2.2.2.2.1 bt724.2.2.2.2.2.2.2 bt739.2.2.2.2.2.2 bt767.2.2.2.2.2.2.2.2.2.2.2.2 bt794.2.2.2.2.2.2 true bt683.2.2.2.2.2.2.1 bt683.2.2.2.2.2.2.2.1 bt683.2.2.2.2.2.2.2.2.1 bt683.2.2.2.2.2.2.2.2.2.1 bt683.2.2.2.2.2.2.2.2.2.2.1 bt683.2.2.2.2.2.2.2.2.2.2.2.1 bt724.1 bt724.2.1 bt724.2.2.1 bt724.2.2.2.1 bt724.2.2.2.2.1 bt724.2.2.2.2.2.1 bt739.1 bt739.2.1 bt739.2.2.1 bt739.2.2.2.1 bt739.2.2.2.2.1 bt739.2.2.2.2.2.1 bt753.1 bt753.2.1 bt753.2.2.1 bt753.2.2.2.1 bt753.2.2.2.2.1 bt753.2.2.2.2.2.1 bt767.1 bt767.2.1 bt767.2.2.1 bt767.2.2.2.1 bt767.2.2.2.2.1 bt767.2.2.2.2.2.1 bt767.2.2.2.2.2.2.1 bt767.2.2.2.2.2.2.2.1 bt767.2.2.2.2.2.2.2.2.1 bt767.2.2.2.2.2.2.2.2.2.1 bt767.2.2.2.2.2.2.2.2.2.2.1 bt767.2.2.2.2.2.2.2.2.2.2.2.1 bt794.1 bt794.2.1 bt794.2.2.1 bt794.2.2.2.1 bt794.2.2.2.2.1 bt794.2.2.2.2.2.1 bt808.1 bt808.2.1 bt808.2.2.1 bt808.2.2.2.1 bt808.2.2.2.2.1 bt808.2.2.2.2.2.1) else ((laws_qModel.f k bt739.1 bt739.2.1 bt739.2.2.1 bt739.2.2.2.1 bt739.2.2.2.2.1 bt739.2.2.2.2.2.1 bt753.1 bt753.2.1 bt753.2.2.1 bt753.2.2.2.1 bt753.2.2.2.2.1 bt753.2.2.2.2.2.1).bind fun t823 => (if t823 = true then (if (bt794.2.2.2.2.2.2 != bt808.2.2.2.2.2.2) = true then (laws_FnSorted.j0 k bt683.2.2.2.2.2.2.2.2.2.2.2.2 bt710.2 bt714.1 bt721.1 bt721.2.1 bt724.2.2.2.2.2.2.1 bt724.2.2.2.2.2.2.2 bt739.2.2.2.2.2.2 bt767.2.2.2.2.2.2.2.2.2.2.2.2 bt794.2.2.2.2.2.2 true bt683.2.2.2.2.2.2.1 bt683.2.2.2.2.2.2.2.1 bt683.2.2.2.2.2.2.2.2.1 bt683.2.2.2.2.2.2.2.2.2.1 bt683.2.2.2.2.2.2.2.2.2.2.1 bt683.2.2.2.2.2.2.2.2.2.2.2.1 bt724.1 bt724.2.1 bt724.2.2.1 bt724.2.2.2.1 bt724.2.2.2.2.1 bt724.2.2.2.2.2.1 bt739.1 bt739.2.1 bt739.2.2.1 bt739.2.2.2.1 bt739.2.2.2.2.1 bt739.2.2.2.2.2.1 bt753.1 bt753.2.1 bt753.2.2.1 bt753.2.2.2.1 bt753.2.2.2.2.1 bt753.2.2.2.2.2.1 bt767.1 bt767.2.1 bt767.2.2.1 bt767.2.2.2.1 bt767.2.2.2.2.1 bt767.2.2.2.2.2.1 bt767.2.2.2.2.2.2.1 bt767.2.2.2.2.2.2.2.1 bt767.2.2.2.2.2.2.2.2.1 bt767.2.2.2.2.2.2.2.2.2.1 bt767.2.2.2.2.2.2.2.2.2.2.1 bt767.2.2.2.2.2.2.2.2.2.2.2.1 bt794.1 bt794.2.1 bt794.2.2.1 bt794.2.2.2.1 bt794.2.2.2.2.1 bt794.2.2.2.2.2.1 bt808.1 bt808.2.1 bt808.2.2.1 bt808.2.2.2.1 bt808.2.2.2.2.1 bt808.2.2.2.2.2.1) else ((laws_qModel.f k bt794.1 bt794.2.1 bt794.2.2.1 bt794.2.2.2.1 bt794.2.2.2.2.1 bt794.2.2.2.2.2.1 bt808.1 bt808.2.1 bt808.2.2.1 bt808.2.2.2.1 bt808.2.2.2.2.1 bt808.2.2.2.2.2.1).bind fun t824 => (if t824 = true then (laws_FnSorted.j0 k bt683.2.2.2.2.2.2.2.2.2.2.2.2 bt710.2 bt714.1 bt721.1 bt721.2.1 bt724.2.2.2.2.2.2.1 bt724.2.2.2.2.2.2.2 bt739.2.2.2.2.2.2 bt767.2.2.2.2.2.2.2.2.2.2.2.2 bt794.2.2.2.2.2.2 (bt718.2.2 != bt710.2) bt683.2.2.2.2.2.2.1 bt683.2.2.2.2.2.2.2.1 bt683.2.2.2.2.2.2.2.2.1 bt683.2.2.2.2.2.2.2.2.2.1 bt683.2.2.2.2.2.2.2.2.2.2.1 bt683.2.2.2.2.2.2.2.2.2.2.2.1 bt724.1 bt724.2.1 bt724.2.2.1 bt724.2.2.2.1 bt724.2.2.2.2.1 bt724.2.2.2.2.2.1 bt739.1 bt739.2.1 bt739.2.2.1 bt739.2.2.2.1 bt739.2.2.2.2.1 bt739.2.2.2.2.2.1 bt753.1 bt753.2.1 bt753.2.2.1 bt753.2.2.2.1 bt753.2.2.2.2.1 bt753.2.2.2.2.2.1 bt767.1 bt767.2.1 bt767.2.2.1 bt767.2.2.2.1 bt767.2.2.2.2.1 bt767.2.2.2.2.2.1 bt767.2.2.2.2.2.2.1 bt767.2.2.2.2.2.2.2.1 bt767.2.2.2.2.2.2.2.2.1 bt767.2.2.2.2.2.2.2.2.2.1 bt767.2.2.2.2.2.2.2.2.2.2.1 bt767.2.2.2.2.2.2.2.2.2.2.2.1 bt794.1 bt794.2.1 bt794.2.2.1 bt794.2.2.2.1 bt794.2.2.2.2.1 bt794.2.2.2.2.2.1 bt808.1 bt808.2.1 bt808.2.2.1 bt808.2.2.2.1 bt808.2.2.2.2.1 bt808.2.2.2.2.2.1) else (laws_FnSorted.j0 k bt683.2.2.2.2.2.2.2.2.2.2.2.2 bt710.2 bt714.1 bt721.1 bt721.2.1 bt724.2.2.2.2.2.2.1 bt724.2.2.2.2.2.2.2 bt739.2.2.2.2.2.2 bt767.2.2.2.2.2.2.2.2.2.2.2.2 bt794.2.2.2.2.2.2 true bt683.2.2.2.2.2.2.1 bt683.2.2.2.2.2.2.2.1 bt683.2.2.2.2.2.2.2.2.1 bt683.2.2.2.2.2.2.2.2.2.1 bt683.2.2.2.2.2.2.2.2.2.2.1 bt683.2.2.2.2.2.2.2.2.2.2.2.1 bt724.1 bt724.2.1 bt724.2.2.1 bt724.2.2.2.1 bt724.2.2.2.2.1 bt724.2.2.2.2.2.1 bt739.1 bt739.2.1 bt739.2.2.1 bt739.2.2.2.1 bt739.2.2.2.2.1 bt739.2.2.2.2.2.1 bt753.1 bt753.2.1 bt753.2.2.1 bt753.2.2.2.1 bt753.2.2.2.2.1 bt753.2.2.2.2.2.1 bt767.1 bt767.2.1 bt767.2.2.1 bt767.2.2.2.1 bt767.2.2.2.2.1 bt767.2.2.2.2.2.1 bt767.2.2.2.2.2.2.1 bt767.2.2.2.2.2.2.2.1 bt767.2.2.2.2.2.2.2.2.1 bt767.2.2.2.2.2.2.2.2.2.1 bt767.2.2.2.2.2.2.2.2.2.2.1 bt767.2.2.2.2.2.2.2.2.2.2.2.1 bt794.1 bt794.2.1 bt794.2.2.1 bt794.2.2.2.1 bt794.2.2.2.2.1 bt794.2.2.2.2.2.1 bt808.1 bt808.2.1 bt808.2.2.1 bt808.2.2.2.1 bt808.2.2.2.2.1 bt808.2.2.2.2.2.1)))) else (laws_FnSorted.j0 k bt683.2.2.2.2.2.2.2.2.2.2.2.2 bt710.2 bt714.1 bt721.1 bt721.2.1 bt724.2.2.2.2.2.2.1 bt724.2.2.2.2.2.2.2 bt739.2.2.2.2.2.2 bt767.2.2.2.2.2.2.2.2.2.2.2.2 bt794.2.2.2.2.2.2 true bt683.2.2.2.2.2.2.1 bt683.2.2.2.2.2.2.2.1 bt683.2.2.2.2.2.2.2.2.1 bt683.2.2.2.2.2.2.2.2.2.1 bt683.2.2.2.2.2.2.2.2.2.2.1 bt683.2.2.2.2.2.2.2.2.2.2.2.1 bt724.1 bt724.2.1 bt724.2.2.1 bt724.2.2.2.1 bt724.2.2.2.2.1 bt724.2.2.2.2.2.1 bt739.1 bt739.2.1 bt739.2.2.1 bt739.2.2.2.1 bt739.2.2.2.2.1 bt739.2.2.2.2.2.1 bt753.1 bt753.2.1 bt753.2.2.1 bt753.2.2.2.1 bt753.2.2.2.2.1 bt753.2.2.2.2.2.1 bt767.1 bt767.2.1 bt767.2.2.1 bt767.2.2.2.1 bt767.2.2.2.2.1 bt767.2.2.2.2.2.1 bt767.2.2.2.2.2.2.1 bt767.2.2.2.2.2.2.2.1 bt767.2.2.2.2.2.2.2.2.1 bt767.2.2.2.2.2.2.2.2.2.1 bt767.2.2.2.2.2.2.2.2.2.2.1 bt767.2.2.2.2.2.2.2.2.2.2.2.1 bt794.1 bt794.2.1 bt794.2.2.1 bt794.2.2.2.1 bt794.2.2.2.2.1 bt794.2.2.2.2.2.1 bt808.1 bt808.2.1 bt808.2.2.1 bt808.2.2.2.1 bt808.2.2.2.2.1 bt808.2.2.2.2.2.1)))) else (laws_FnSorted.j0 k bt683.2.2.2.2.2.2.2.2.2.2.2.2 bt710.2 bt714.1 bt721.1 bt721.2.1 bt724.2.2.2.2.2.2.1 bt724.2.2.2.2.2.2.2 bt739.2.2.2.2.2.2 bt767.2.2.2.2.2.2.2.2.2.2.2.2 bt794.2.2.2.2.2.2 true bt683.2.2.2.2.2.2.1 bt683.2.2.2.2.2.2.2.1 bt683.2.2.2.2.2.2.2.2.1 bt683.2.2.2.2.2.2.2.2.2.1 bt683.2.2.2.2.2.2.2.2.2.2.1 bt683.2.2.2.2.2.2.2.2.2.2.2.1 bt724.1 bt724.2.1 bt724.2.2.1 bt724.2.2.2.1 bt724.2.2.2.2.1 bt724.2.2.2.2.2.1 bt739.1 bt739.2.1 bt739.2.2.1 bt739.2.2.2.1 bt739.2.2.2.2.1 bt739.2.2.2.2.2.1 bt753.1 bt753.2.1 bt753.2.2.1 bt753.2.2.2.1 bt753.2.2.2.2.1 bt753.2.2.2.2.2.1 bt767.1 bt767.2.1 bt767.2.2.1 bt767.2.2.2.1 bt767.2.2.2.2.1 bt767.2.2.2.2.2.1 bt767.2.2.2.2.2.2.1 bt767.2.2.2.2.2.2.2.1 bt767.2.2.2.2.2.2.2.2.1 bt767.2.2.2.2.2.2.2.2.2.1 bt767.2.2.2.2.2.2.2.2.2.2.1 bt767.2.2.2.2.2.2.2.2.2.2.2.1 bt794.1 bt794.2.1 bt794.2.2.1 bt794.2.2.2.1 bt794.2.2.2.2.1 bt794.2.2.2.2.2.1 bt808.1 bt808.2.1 bt808.2.2.1 bt808.2.2.2.1 bt808.2.2.2.2.1 bt808.2.2.2.2.2.1)) else (laws_FnSorted.j0 k bt683.2.2.2.2.2.2.2.2.2.2.2.2 bt710.2 bt714.1 bt721.1 bt721.2.1 bt724.2.2.2.2.2.2.1 bt724.2.2.2.2.2.2.2 bt739.2.2.2.2.2.2 bt767.2.2.2.2.2.2.2.2.2.2.2.2 bt794.2.2.2.2.2.2 true bt683.2.2.2.2.2.2.1 bt683.2.2.2.2.2.2.2.1 bt683.2.2.2.2.2.2.2.2.1 bt683.2.2.2.2.2.2.2.2.2.1 bt683.2.2.2.2.2.2.2.2.2.2.1 bt683.2.2.2.2.2.2.2.2.2.2.2.1 bt724.1 bt724.2.1 bt724.2.2.1 bt724.2.2.2.1 bt724.2.2.2.2.1 bt724.2.2.2.2.2.1 bt739.1 bt739.2.1 bt739.2.2.1 bt739.2.2.2.1 bt739.2.2.2.2.1 bt739.2.2.2.2.2.1 bt753.1 bt753.2.1 bt753.2.2.1 bt753.2.2.2.1 bt753.2.2.2.2.1 bt753.2.2.2.2.2.1 bt767.1 bt767.2.1 bt767.2.2.1 bt767.2.2.2.1 bt767.2.2.2.2.1 bt767.2.2.2.2.2.1 bt767.2.2.2.2.2.2.1 bt767.2.2.2.2.2.2.2.1 bt767.2.2.2.2.2.2.2.2.1 bt767.2.2.2.2.2.2.2.2.2.1 bt767.2.2.2.2.2.2.2.2.2.2.1 bt767.2.2.2.2.2.2.2.2.2.2.2.1 bt794.1 bt794.2.1 bt794.2.2.1 bt794.2.2.2.1 bt794.2.2.2.2.1 bt794.2.2.2.2.2.1 bt808.1 bt808.2.1 bt808.2.2.1 bt808.2.2.2.1 bt808.2.2.2.2.1 bt808.2.2.2.2.2.1))) else (laws_FnSorted.j0 k bt683.2.2.2.2.2.2.2.2.2.2.2.2 bt710.2 bt714.1 bt721.1 bt721.2.1 bt724.2.2.2.2.2.2.1 bt724.2.2.2.2.2.2.2 bt739.2.2.2.2.2.2 bt767.2.2.2.2.2.2.2.2.2.2.2.2 bt794.2.2.2.2.2.2 true bt683.2.2.2.2.2.2.1 bt683.2.2.2.2.2.2.2.1 bt683.2.2.2.2.2.2.2.2.1 bt683.2.2.2.2.2.2.2.2.2.1 bt683.2.2.2.2.2.2.2.2.2.2.1 bt683.2.2.2.2.2.2.2.2.2.2.2.1 bt724.1 bt724.2.1 bt724.2.2.1 bt724.2.2.2.1 bt724.2.2.2.2.1 bt724.2.2.2.2.2.1 bt739.1 bt739.2.1 bt739.2.2.1 bt739.2.2.2.1 bt739.2.2.2.2.1 bt739.2.2.2.2.2.1 bt753.1 bt753.2.1 bt753.2.2.1 bt753.2.2.2.1 bt753.2.2.2.2.1 bt753.2.2.2.2.2.1 bt767.1 bt767.2.1 bt767.2.2.1 bt767.2.2.2.1 bt767.2.2.2.2.1 bt767.2.2.2.2.2.1 bt767.2.2.2.2.2.2.1 bt767.2.2.2.2.2.2.2.1 bt767.2.2.2.2.2.2.2.2.1 bt767.2.2.2.2.2.2.2.2.2.1 bt767.2.2.2.2.2.2.2.2.2.2.1 bt767.2.2.2.2.2.2.2.2.2.2.2.1 bt794.1 bt794.2.1 bt794.2.2.1 bt794.2.2.2.1 bt794.2.2.2.2.1 bt794.2.2.2.2.2.1 bt808.1 bt808.2.1 bt808.2.2.1 bt808.2.2.2.1 bt808.2.2.2.2.1 bt808.2.2.2.2.2.1)))))))))))))))
theorem laws_FnSorted.mono_l : ∀ k, (∀ y0 y1 y2 y3 y4 y5 y6 y7 y8 y9 y10 y11 y12 y13 y14 y15 y16 y17 y18 y19 y20 y21 y22 y23 y24 y25 y26 y27 y28 y29 y30 y31 y32 y33 y34 y35 y36 y37 y38 y39 y40 y41 y42 y43 y44 y45 y46 y47 y48 y49 y50 y51 y52 y53 y54 y55 y56 y57 y58, LeO (laws_FnSorted.j0 k y0 y1 y2 y3 y4 y5 y6 y7 y8 y9 y10 y11 y12 y13 y14 y15 y16 y17 y18 y19 y20 y21 y22 y23 y24 y25 y26 y27 y28 y29 y30 y31 y32 y33 y34 y35 y36 y37 y38 y39 y40 y41 y42 y43 y44 y45 y46 y47 y48 y49 y50 y51 y52 y53 y54 y55 y56 y57 y58) (laws_FnSorted.j0 (k + 1) y0 y1 y2 y3 y4 y5 y6 y7 y8 y9 y10 y11 y12 y13 y14 y15 y16 y17 y18 y19 y20 y21 y22 y23 y24 y25 y26 y27 y28 y29 y30 y31 y32 y33 y34 y35 y36 y37 y38 y39 y40 y41 y42 y43 y44 y45 y46 y47 y48 y49 y50 y51 y52 y53 y54 y55 y56 y57 y58)) ∧ (∀ y0 y1 y2 y3 y4 y5 y6 y7 y8 y9 y10 y11 y12 y13 y14 y15 y16 y17 y18 y19 y20 y21 y22 y23 y24 y25 y26 y27 y28 y29 y30 y31 y32 y33 y34 y35 y36, LeO (laws_FnSorted.j3 k y0 y1 y2 y3 y4 y5 y6 y7 y8 y9 y10 y11 y12 y13 y14 y15 y16 y17 y18 y19 y20 y21 y22 y23 y24 y25 y26 y27 y28 y29 y30 y31 y32 y33 y34 y35 y36) (laws_FnSorted.j3 (k + 1) y0 y1 y2 y3 y4 y5 y6 y7 y8 y9 y10 y11 y12 y13 y14 y15 y16 y17 y18 y19 y20 y21 y22 y23 y24 y25 y26 y27 y28 y29 y30 y31 y32 y33 y34 y35 y36)) ∧ (∀ y0 y1 y2 y3 y4 y5 y6 y7 y8 y9 y10, LeO (laws_FnSorted.j5 k y0 y1 y2 y3 y4 y5 y6 y7 y8 y9 y10) (laws_FnSorted.j5 (k + 1) y0 y1 y2 y3 y4 y5 y6 y7 y8 y9 y10)) ∧ (∀ y0 y1 y2 y3 y4 y5 y6 y7 y8 y9 y10 y11 y12, LeO (laws_FnSorted.l2 k y0 y1 y2 y3 y4 y5 y6 y7 y8 y9 y10 y11 y12) (laws_FnSorted.l2 (k + 1) y0 y1 y2 y3 y4 y5 y6 y7 y8 y9 y10 y11 y12)) ∧ (∀ y0 y1 y2 y3 y4 y5 y6 y7 y8 y9 y10 y11 y12 y13 y14 y15 y16 y17 y18 y19 y20 y21 y22 y23 y24 y25 y26 y27 y28 y29 y30 y31 y32 y33 y34 y35 y36 y37 y38, LeO (laws_FnSorted.l1 k y0 y1 y2 y3 y4 y5 y6 y7 y8 y9 y10 y11 y12 y13 y14 y15 y16 y17 y18 y19 y20 y21 y22 y23 y24 y25 y26 y27 y28 y29 y30 y31 y32 y33 y34 y35 y36 y37 y38) (laws_FnSorted.l1 (k + 1) y0 y1 y2 y3 y4 y5 y6 y7 y8 y9 y10 y11 y12 y13 y14 y15 y16 y17 y18 y19 y20 y21 y22 y23 y24 y25 y26 y27 y28 y29 y30 y31 y32 y33 y34 y35 y36 y37 y38)) ∧ (∀ y0 y1 y2 y3 y4 y5 y6 y7 y8 y9 y10 y11 y12 y13 y14 y15 y16 y17 y18 y19 y20 y21 y22 y23 y24 y25 y26 y27 y28 y29 y30 y31 y32 y33 y34 y35 y36 y37 y38 y39 y40 y41 y42 y43 y44 y45 y46 y47 y48 y49 y50 y51, LeO (laws_FnSorted.j1 k y0 y1 y2 y3 y4 y5 y6 y7 y8 y9 y10 y11 y12 y13 y14 y15 y16 y17 y18 y19 y20 y21 y22 y23 y24 y25 y26 y27 y28 y29 y30 y31 y32 y33 y34 y35 y36 y37 y38 y39 y40 y41 y42 y43 y44 y45 y46 y47 y48 y49 y50 y51) (laws_FnSorted.j1 (k + 1) y0 y1 y2 y3 y4 y5 y6 y7 y8 y9 y10 y11 y12 y13 y14 y15 y16 y17 y18 y19 y20 y21 y22 y23 y24 y25 y26 y27 y28 y29 y30 y31 y32 y33 y34 y35 y36 y37 y38 y39 y40 y41 y42 y43 y44 y45 y46 y47 y48 y49 y50 y51)) ∧ (∀ y0 y1 y2 y3 y4 y5 y6 y7 y8 y9 y10 y11 y12 y13 y14 y15 y16 y17 y18 y19 y20 y21 y22 y23 y24 y25 y26 y27 y28 y29 y30 y31 y32 y33 y34 y35 y36 y37 y38 y39 y40 y41 y42 y43 y44 y45 y46 y47, LeO (laws_FnSorted.l0 k y0 y1 y2 y3 y4 y5 y6 y7 y8 y9 y10 y11 y12 y13 y14 y15 y16 y17 y18 y19 y20 y21 y22 y23 y24 y25 y26 y27 y28 y29 y30 y31 y32 y33 y34 y35 y36 y37 y38 y39 y40 y41 y42 y43 y44 y45 y46 y47) (laws_FnSorted.l0 (k + 1) y0 y1 y2 y3 y4 y5 y6 y7 y8 y9 y10 y11 y12 y13 y14 y15 y16 y17 y18 y19 y20 y21 y22 y23 y24 y25 y26 y27 y28 y29 y30 y31 y32 y33 y34 y35 y36 y37 y38 y39 y40 y41 y42 y43 y44 y45 y46 y47))
  | 0 => ⟨fun _ _ _ _ _ _ _ _ _ _ _ _ _ _ _ _ _ _ _ _ _ _ _ _ _ _ _ _ _ _ _ _ _ _ _ _ _ _ _ _ _ _ _ _ _ _ _ _ _ _ _ _ _ _ _ _ _ _ _ r h => by simp [laws_FnSorted.j0] at h, fun _ _ _ _ _ _ _ _ _ _ _ _ _ _ _ _ _ _ _ _ _ _ _ _ _ _ _ _ _ _ _ _ _ _ _ _ _ r h => by simp [laws_FnSorted.j3] at h, fun _ _ _ _ _ _ _ _ _ _ _ r h => by simp [laws_FnSorted.j5] at h, fun _ _ _ _ _ _ _ _ _ _ _ _ _ r h => by simp [laws_FnSorted.l2] at h, fun _ _ _ _ _ _ _ _ _ _ _ _ _ _ _ _ _ _ _ _ _ _ _ _ _ _ _ _ _ _ _ _ _ _ _ _ _ _ _ r h => by simp [laws_FnSorted.l1] at h, fun _ _ _ _ _ _ _ _ _ _ _ _ _ _ _ _ _ _ _ _ _ _ _ _ _ _ _ _ _ _ _ _ _ _ _ _ _ _ _ _ _ _ _ _ _ _ _ _ _ _ _ _ r h => by simp [laws_FnSorted.j1] at h, fun _ _ _ _ _ _ _ _ _ _ _ _ _ _ _ _ _ _ _ _ _ _ _ _ _ _ _ _ _ _ _ _ _ _ _ _ _ _ _ _ _ _ _ _ _ _ _ _ r h => by simp [laws_FnSorted.l0] at h⟩
  | k + 1 => by
    obtain ⟨ih0, ih1, ih2, ih3, ih4, ih5, ih6⟩ := laws_FnSorted.mono_l k
    refine ⟨?_, ?_, ?_, ?_, ?_, ?_, ?_⟩
    · intro y0 y1 y2 y3 y4 y5 y6 y7 y8 y9 y10 y11 y12 y13 y14 y15 y16 y17 y18 y19 y20 y21 y22 y23 y24 y25 y26 y27 y28 y29 y30 y31 y32 y33 y34 y35 y36 y37 y38 y39 y40 y41 y42 y43 y44 y45 y46 y47 y48 y49 y50 y51 y52 y53 y54 y55 y56 y57 y58
      unfold laws_FnSorted.j0
      repeat' first
      | (with_reducible exact ih0 _ _ _ _ _ _ _ _ _ _ _ _ _ _ _ _ _ _ _ _ _ _ _ _ _ _ _ _ _ _ _ _ _ _ _ _ _ _ _ _ _ _ _ _ _ _ _ _ _ _ _ _ _ _ _ _ _ _ _)
      | (with_reducible exact ih1 _ _ _ _ _ _ _ _ _ _ _ _ _ _ _ _ _ _ _ _ _ _ _ _ _ _ _ _ _ _ _ _ _ _ _ _ _)
      | (with_reducible exact ih2 _ _ _ _ _ _ _ _ _ _ _)
      | (with_reducible exact ih3 _ _ _ _ _ _ _ _ _ _ _ _ _)
      | (with_reducible exact ih4 _ _ _ _ _ _ _ _ _ _ _ _ _ _ _ _ _ _ _ _ _ _ _ _ _ _ _ _ _ _ _ _ _ _ _ _ _ _ _)
      | (with_reducible exact ih5 _ _ _ _ _ _ _ _ _ _ _ _ _ _ _ _ _ _ _ _ _ _ _ _ _ _ _ _ _ _ _ _ _ _ _ _ _ _ _ _ _ _ _ _ _ _ _ _ _ _ _ _)
      | (with_reducible exact ih6 _ _ _ _ _ _ _ _ _ _ _ _ _ _ _ _ _ _ _ _ _ _ _ _ _ _ _ _ _ _ _ _ _ _ _ _ _ _ _ _ _ _ _ _ _ _ _ _)
      | (with_reducible exact impl_IsModel.mono _ _ _ _ _ _ _)
      | (with_reducible exact impl_MixModels.mono _ _ _ _ _ _ _ _ _ _ _ _ _ _)
      | (with_reducible exact impl_ScaleModel.mono _ _ _ _ _ _ _ _ _)
      | (with_reducible exact impl_SortTable.mono _ _ _ _ _ _ _ _ _ _ _ _ _ _)
      | (with_reducible exact impl_SumsOf.mono _ _ _ _ _ _ _ _)
      | (with_reducible exact impl_WrongMetal.mono _ _ _ _ _ _ _ _ _ _ _ _ _ _)
      | (with_reducible exact laws_qInts.mono _ _ _)
      | (with_reducible exact laws_qModel.mono _ _ _ _ _ _ _ _ _ _ _ _ _)
      | (with_reducible exact laws_qSum.mono _ _)
      | (with_reducible exact spec_DrawMixModels.mono _ _)
      | (with_reducible exact spec_DrawScaleModel.mono _ _)
      | (with_reducible exact spec_DrawSortTable.mono _ _)
      | (with_reducible exact spec_MixModels.mono _ _ _ _ _ _ _ _ _ _ _ _ _ _)
      | (with_reducible exact spec_ScaleModel.mono _ _ _ _ _ _ _ _ _)
      | (with_reducible exact spec_SortTable.mono _ _ _ _ _ _ _ _ _ _ _ _ _ _)
      | (with_reducible exact spec_WrongMetal.mono _ _ _ _ _ _ _ _ _ _ _ _ _ _)
      | (with_reducible exact LeO.refl _)
      | (with_reducible exact LeO.none _)
      | (with_reducible refine LeO.ite ?_ ?_)
      | (with_reducible refine LeO.bind ?_ (fun _ => ?_))
      | exact ih0 _ _ _ _ _ _ _ _ _ _ _ _ _ _ _ _ _ _ _ _ _ _ _ _ _ _ _ _ _ _ _ _ _ _ _ _ _ _ _ _ _ _ _ _ _ _ _ _ _ _ _ _ _ _ _ _ _ _ _
      | exact ih1 _ _ _ _ _ _ _ _ _ _ _ _ _ _ _ _ _ _ _ _ _ _ _ _ _ _ _ _ _ _ _ _ _ _ _ _ _
      | exact ih2 _ _ _ _ _ _ _ _ _ _ _
      | exact ih3 _ _ _ _ _ _ _ _ _ _ _ _ _
      | exact ih4 _ _ _ _ _ _ _ _ _ _ _ _ _ _ _ _ _ _ _ _ _ _ _ _ _ _ _ _ _ _ _ _ _ _ _ _ _ _ _
      | exact ih5 _ _ _ _ _ _ _ _ _ _ _ _ _ _ _ _ _ _ _ _ _ _ _ _ _ _ _ _ _ _ _ _ _ _ _ _ _ _ _ _ _ _ _ _ _ _ _ _ _ _ _ _
      | exact ih6 _ _ _ _ _ _ _ _ _ _ _ _ _ _ _ _ _ _ _ _ _ _ _ _ _ _ _ _ _ _ _ _ _ _ _ _ _ _ _ _ _ _ _ _ _ _ _ _
      | exact impl_IsModel.mono _ _ _ _ _ _ _
      | exact impl_MixModels.mono _ _ _ _ _ _ _ _ _ _ _ _ _ _
      | exact impl_ScaleModel.mono _ _ _ _ _ _ _ _ _
      | exact impl_SortTable.mono _ _ _ _ _ _ _ _ _ _ _ _ _ _
      | exact impl_SumsOf.mono _ _ _ _ _ _ _ _
      | exact impl_WrongMetal.mono _ _ _ _ _ _ _ _ _ _ _ _ _ _
      | exact laws_qInts.mono _ _ _
      | exact laws_qModel.mono _ _ _ _ _ _ _ _ _ _ _ _ _
      | exact laws_qSum.mono _ _
      | exact spec_DrawMixModels.mono _ _
      | exact spec_DrawScaleModel.mono _ _
      | exact spec_DrawSortTable.mono _ _
      | exact spec_MixModels.mono _ _ _ _ _ _ _ _ _ _ _ _ _ _
      | exact spec_ScaleModel.mono _ _ _ _ _ _ _ _ _
      | exact spec_SortTable.mono _ _ _ _ _ _ _ _ _ _ _ _ _ _
      | exact spec_WrongMetal.mono _ _ _ _ _ _ _ _ _ _ _ _ _ _
      | exact LeO.none _
      | refine LeO.ite ?_ ?_
      | refine LeO.bind ?_ (fun _ => ?_)
    · intro y0 y1 y2 y3 y4 y5 y6 y7 y8 y9 y10 y11 y12 y13 y14 y15 y16 y17 y18 y19 y20 y21 y22 y23 y24 y25 y26 y27 y28 y29 y30 y31 y32 y33 y34 y35 y36
      unfold laws_FnSorted.j3
      repeat' first
      | (with_reducible exact ih0 _ _ _ _ _ _ _ _ _ _ _ _ _ _ _ _ _ _ _ _ _ _ _ _ _ _ _ _ _ _ _ _ _ _ _ _ _ _ _ _ _ _ _ _ _ _ _ _ _ _ _ _ _ _ _ _ _ _ _)
      | (with_reducible exact ih1 _ _ _ _ _ _ _ _ _ _ _ _ _ _ _ _ _ _ _ _ _ _ _ _ _ _ _ _ _ _ _ _ _ _ _ _ _)
      | (with_reducible exact ih2 _ _ _ _ _ _ _ _ _ _ _)
      | (with_reducible exact ih3 _ _ _ _ _ _ _ _ _ _ _ _ _)
      | (with_reducible exact ih4 _ _ _ _ _ _ _ _ _ _ _ _ _ _ _ _ _ _ _ _ _ _ _ _ _ _ _ _ _ _ _ _ _ _ _ _ _ _ _)
      | (with_reducible exact ih5 _ _ _ _ _ _ _ _ _ _ _ _ _ _ _ _ _ _ _ _ _ _ _ _ _ _ _ _ _ _ _ _ _ _ _ _ _ _ _ _ _ _ _ _ _ _ _ _ _ _ _ _)
      | (with_reducible exact ih6 _ _ _ _ _ _ _ _ _ _ _ _ _ _ _ _ _ _ _ _ _ _ _ _ _ _ _ _ _ _ _ _ _ _ _ _ _ _ _ _ _ _ _ _ _ _ _ _)
      | (with_reducible exact impl_IsModel.mono _ _ _ _ _ _ _)
      | (with_reducible exact impl_MixModels.mono _ _ _ _ _ _ _ _ _ _ _ _ _ _)
      | (with_reducible exact impl_ScaleModel.mono _ _ _ _ _ _ _ _ _)
      | (with_reducible exact impl_SortTable.mono _ _ _ _ _ _ _ _ _ _ _ _ _ _)
      | (with_reducible exact impl_SumsOf.mono _ _ _ _ _ _ _ _)
      | (with_reducible exact impl_WrongMetal.mono _ _ _ _ _ _ _ _ _ _ _ _ _ _)
      | (with_reducible exact laws_qInts.mono _ _ _)
      | (with_reducible exact laws_qModel.mono _ _ _ _ _ _ _ _ _ _ _ _ _)
      | (with_reducible exact laws_qSum.mono _ _)
      | (with_reducible exact spec_DrawMixModels.mono _ _)
      | (with_reducible exact spec_DrawScaleModel.mono _ _)
      | (with_reducible exact spec_DrawSortTable.mono _ _)
      | (with_reducible exact spec_MixModels.mono _ _ _ _ _ _ _ _ _ _ _ _ _ _)
      | (with_reducible exact spec_ScaleModel.mono _ _ _ _ _ _ _ _ _)
      | (with_reducible exact spec_SortTable.mono _ _ _ _ _ _ _ _ _ _ _ _ _ _)
      | (with_reducible exact spec_WrongMetal.mono _ _ _ _ _ _ _ _ _ _ _ _ _ _)
      | (with_reducible exact LeO.refl _)
      | (with_reducible exact LeO.none _)
      | (with_reducible refine LeO.ite ?_ ?_)
      | (with_reducible refine LeO.bind ?_ (fun _ => ?_))
      | exact ih0 _ _ _ _ _ _ _ _ _ _ _ _ _ _ _ _ _ _ _ _ _ _ _ _ _ _ _ _ _ _ _ _ _ _ _ _ _ _ _ _ _ _ _ _ _ _ _ _ _ _ _ _ _ _ _ _ _ _ _
      | exact ih1 _ _ _ _ _ _ _ _ _ _ _ _ _ _ _ _ _ _ _ _ _ _ _ _ _ _ _ _ _ _ _ _ _ _ _ _ _
      | exact ih2 _ _ _ _ _ _ _ _ _ _ _
      | exact ih3 _ _ _ _ _ _ _ _ _ _ _ _ _
      | exact ih4 _ _ _ _ _ _ _ _ _ _ _ _ _ _ _ _ _ _ _ _ _ _ _ _ _ _ _ _ _ _ _ _ _ _ _ _ _ _ _
      | exact ih5 _ _ _ _ _ _ _ _ _ _ _ _ _ _ _ _ _ _ _ _ _ _ _ _ _ _ _ _ _ _ _ _ _ _ _ _ _ _ _ _ _ _ _ _ _ _ _ _ _ _ _ _
      | exact ih6 _ _ _ _ _ _ _ _ _ _ _ _ _ _ _ _ _ _ _ _ _ _ _ _ _ _ _ _ _ _ _ _ _ _ _ _ _ _ _ _ _ _ _ _ _ _ _ _
      | exact impl_IsModel.mono _ _ _ _ _ _ _
      | exact impl_MixModels.mono _ _ _ _ _ _ _ _ _ _ _ _ _ _
      | exact impl_ScaleModel.mono _ _ _ _ _ _ _ _ _
      | exact impl_SortTable.mono _ _ _ _ _ _ _ _ _ _ _ _ _ _
      | exact impl_SumsOf.mono _ _ _ _ _ _ _ _
      | exact impl_WrongMetal.mono _ _ _ _ _ _ _ _ _ _ _ _ _ _
      | exact laws_qInts.mono _ _ _
      | exact laws_qModel.mono _ _ _ _ _ _ _ _ _ _ _ _ _
      | exact laws_qSum.mono _ _
      | exact spec_DrawMixModels.mono _ _
      | exact spec_DrawScaleModel.mono _ _
      | exact spec_DrawSortTable.mono _ _
      | exact spec_MixModels.mono _ _ _ _ _ _ _ _ _ _ _ _ _ _
      | exact spec_ScaleModel.mono _ _ _ _ _ _ _ _ _
      | exact spec_SortTable.mono _ _ _ _ _ _ _ _ _ _ _ _ _ _
      | exact spec_WrongMetal.mono _ _ _ _ _ _ _ _ _ _ _ _ _ _
      | exact LeO.none _
      | refine LeO.ite ?_ ?_
      | refine LeO.bind ?_ (fun _ => ?_)
    · intro y0 y1 y2 y3 y4 y5 y6 y7 y8 y9 y10
      unfold laws_FnSorted.j5
      repeat' first
      | (with_reducible exact ih0 _ _ _ _ _ _ _ _ _ _ _ _ _ _ _ _ _ _ _ _ _ _ _ _ _ _ _ _ _ _ _ _ _ _ _ _ _ _ _ _ _ _ _ _ _ _ _ _ _ _ _ _ _ _ _ _ _ _ _)
      | (with_reducible exact ih1 _ _ _ _ _ _ _ _ _ _ _ _ _ _ _ _ _ _ _ _ _ _ _ _ _ _ _ _ _ _ _ _ _ _ _ _ _)
      | (with_reducible exact ih2 _ _ _ _ _ _ _ _ _ _ _)
      | (with_reducible exact ih3 _ _ _ _ _ _ _ _ _ _ _ _ _)
      | (with_reducible exact ih4 _ _ _ _ _ _ _ _ _ _ _ _ _ _ _ _ _ _ _ _ _ _ _ _ _ _ _ _ _ _ _ _ _ _ _ _ _ _ _)
      | (with_reducible exact ih5 _ _ _ _ _ _ _ _ _ _ _ _ _ _ _ _ _ _ _ _ _ _ _ _ _ _ _ _ _ _ _ _ _ _ _ _ _ _ _ _ _ _ _ _ _ _ _ _ _ _ _ _)
      | (with_reducible exact ih6 _ _ _ _ _ _ _ _ _ _ _ _ _ _ _ _ _ _ _ _ _ _ _ _ _ _ _ _ _ _ _ _ _ _ _ _ _ _ _ _ _ _ _ _ _ _ _ _)
      | (with_reducible exact impl_IsModel.mono _ _ _ _ _ _ _)
      | (with_reducible exact impl_MixModels.mono _ _ _ _ _ _ _ _ _ _ _ _ _ _)
      | (with_reducible exact impl_ScaleModel.mono _ _ _ _ _ _ _ _ _)
      | (with_reducible exact impl_SortTable.mono _ _ _ _ _ _ _ _ _ _ _ _ _ _)
      | (with_reducible exact impl_SumsOf.mono _ _ _ _ _ _ _ _)
      | (with_reducible exact impl_WrongMetal.mono _ _ _ _ _ _ _ _ _ _ _ _ _ _)
      | (with_reducible exact laws_qInts.mono _ _ _)
      | (with_reducible exact laws_qModel.mono _ _ _ _ _ _ _ _ _ _ _ _ _)
      | (with_reducible exact laws_qSum.mono _ _)
      | (with_reducible exact spec_DrawMixModels.mono _ _)
      | (with_reducible exact spec_DrawScaleModel.mono _ _)
      | (with_reducible exact spec_DrawSortTable.mono _ _)
      | (with_reducible exact spec_MixModels.mono _ _ _ _ _ _ _ _ _ _ _ _ _ _)
      | (with_reducible exact spec_ScaleModel.mono _ _ _ _ _ _ _ _ _)
      | (with_reducible exact spec_SortTable.mono _ _ _ _ _ _ _ _ _ _ _ _ _ _)
      | (with_reducible exact spec_WrongMetal.mono _ _ _ _ _ _ _ _ _ _ _ _ _ _)
      | (with_reducible exact LeO.refl _)
      | (with_reducible exact LeO.none _)
      | (with_reducible refine LeO.ite ?_ ?_)
      | (with_reducible refine LeO.bind ?_ (fun _ => ?_))
      | exact ih0 _ _ _ _ _ _ _ _ _ _ _ _ _ _ _ _ _ _ _ _ _ _ _ _ _ _ _ _ _ _ _ _ _ _ _ _ _ _ _ _ _ _ _ _ _ _ _ _ _ _ _ _ _ _ _ _ _ _ _
      | exact ih1 _ _ _ _ _ _ _ _ _ _ _ _ _ _ _ _ _ _ _ _ _ _ _ _ _ _ _ _ _ _ _ _ _ _ _ _ _
      | exact ih2 _ _ _ _ _ _ _ _ _ _ _
      | exact ih3 _ _ _ _ _ _ _ _ _ _ _ _ _
      | exact ih4 _ _ _ _ _ _ _ _ _ _ _ _ _ _ _ _ _ _ _ _ _ _ _ _ _ _ _ _ _ _ _ _ _ _ _ _ _ _ _
      | exact ih5 _ _ _ _ _ _ _ _ _ _ _ _ _ _ _ _ _ _ _ _ _ _ _ _ _ _ _ _ _ _ _ _ _ _ _ _ _ _ _ _ _ _ _ _ _ _ _ _ _ _ _ _
      | exact ih6 _ _ _ _ _ _ _ _ _ _ _ _ _ _ _ _ _ _ _ _ _ _ _ _ _ _ _ _ _ _ _ _ _ _ _ _ _ _ _ _ _ _ _ _ _ _ _ _
      | exact impl_IsModel.mono _ _ _ _ _ _ _
      | exact impl_MixModels.mono _ _ _ _ _ _ _ _ _ _ _ _ _ _
      | exact impl_ScaleModel.mono _ _ _ _ _ _ _ _ _
      | exact impl_SortTable.mono _ _ _ _ _ _ _ _ _ _ _ _ _ _
      | exact impl_SumsOf.mono _ _ _ _ _ _ _ _
      | exact impl_WrongMetal.mono _ _ _ _ _ _ _ _ _ _ _ _ _ _
      | exact laws_qInts.mono _ _ _
      | exact laws_qModel.mono _ _ _ _ _ _ _ _ _ _ _ _ _
      | exact laws_qSum.mono _ _
      | exact spec_DrawMixModels.mono _ _
      | exact spec_DrawScaleModel.mono _ _
      | exact spec_DrawSortTable.mono _ _
      | exact spec_MixModels.mono _ _ _ _ _ _ _ _ _ _ _ _ _ _
      | exact spec_ScaleModel.mono _ _ _ _ _ _ _ _ _
      | exact spec_SortTable.mono _ _ _ _ _ _ _ _ _ _ _ _ _ _
      | exact spec_WrongMetal.mono _ _ _ _ _ _ _ _ _ _ _ _ _ _
      | exact LeO.none _
      | refine LeO.ite ?_ ?_
      | refine LeO.bind ?_ (fun _ => ?_)
    · intro y0 y1 y2 y3 y4 y5 y6 y7 y8 y9 y10 y11 y12
      unfold laws_FnSorted.l2
      repeat' first
      | (with_reducible exact ih0 _ _ _ _ _ _ _ _ _ _ _ _ _ _ _ _ _ _ _ _ _ _ _ _ _ _ _ _ _ _ _ _ _ _ _ _ _ _ _ _ _ _ _ _ _ _ _ _ _ _ _ _ _ _ _ _ _ _ _)
      | (with_reducible exact ih1 _ _ _ _ _ _ _ _ _ _ _ _ _ _ _ _ _ _ _ _ _ _ _ _ _ _ _ _ _ _ _ _ _ _ _ _ _)
      | (with_reducible exact ih2 _ _ _ _ _ _ _ _ _ _ _)
      | (with_reducible exact ih3 _ _ _ _ _ _ _ _ _ _ _ _ _)
      | (with_reducible exact ih4 _ _ _ _ _ _ _ _ _ _ _ _ _ _ _ _ _ _ _ _ _ _ _ _ _ _ _ _ _ _ _ _ _ _ _ _ _ _ _)
      | (with_reducible exact ih5 _ _ _ _ _ _ _ _ _ _ _ _ _ _ _ _ _ _ _ _ _ _ _ _ _ _ _ _ _ _ _ _ _ _ _ _ _ _ _ _ _ _ _ _ _ _ _ _ _ _ _ _)
      | (with_reducible exact ih6 _ _ _ _ _ _ _ _ _ _ _ _ _ _ _ _ _ _ _ _ _ _ _ _ _ _ _ _ _ _ _ _ _ _ _ _ _ _ _ _ _ _ _ _ _ _ _ _)
      | (with_reducible exact impl_IsModel.mono _ _ _ _ _ _ _)
      | (with_reducible exact impl_MixModels.mono _ _ _ _ _ _ _ _ _ _ _ _ _ _)
      | (with_reducible exact impl_ScaleModel.mono _ _ _ _ _ _ _ _ _)
      | (with_reducible exact impl_SortTable.mono _ _ _ _ _ _ _ _ _ _ _ _ _ _)
      | (with_reducible exact impl_SumsOf.mono _ _ _ _ _ _ _ _)
      | (with_reducible exact impl_WrongMetal.mono _ _ _ _ _ _ _ _ _ _ _ _ _ _)
      | (with_reducible exact laws_qInts.mono _ _ _)
      | (with_reducible exact laws_qModel.mono _ _ _ _ _ _ _ _ _ _ _ _ _)
      | (with_reducible exact laws_qSum.mono _ _)
      | (with_reducible exact spec_DrawMixModels.mono _ _)
      | (with_reducible exact spec_DrawScaleModel.mono _ _)
      | (with_reducible exact spec_DrawSortTable.mono _ _)
      | (with_reducible exact spec_MixModels.mono _ _ _ _ _ _ _ _ _ _ _ _ _ _)
      | (with_reducible exact spec_ScaleModel.mono _ _ _ _ _ _ _ _ _)
      | (with_reducible exact spec_SortTable.mono _ _ _ _ _ _ _ _ _ _ _ _ _ _)
      | (with_reducible exact spec_WrongMetal.mono _ _ _ _ _ _ _ _ _ _ _ _ _ _)
      | (with_reducible exact LeO.refl _)
      | (with_reducible exact LeO.none _)
      | (with_reducible refine LeO.ite ?_ ?_)
      | (with_reducible refine LeO.bind ?_ (fun _ => ?_))
      | exact ih0 _ _ _ _ _ _ _ _ _ _ _ _ _ _ _ _ _ _ _ _ _ _ _ _ _ _ _ _ _ _ _ _ _ _ _ _ _ _ _ _ _ _ _ _ _ _ _ _ _ _ _ _ _ _ _ _ _ _ _
      | exact ih1 _ _ _ _ _ _ _ _ _ _ _ _ _ _ _ _ _ _ _ _ _ _ _ _ _ _ _ _ _ _ _ _ _ _ _ _ _
      | exact ih2 _ _ _ _ _ _ _ _ _ _ _
      | exact ih3 _ _ _ _ _ _ _ _ _ _ _ _ _
      | exact ih4 _ _ _ _ _ _ _ _ _ _ _ _ _ _ _ _ _ _ _ _ _ _ _ _ _ _ _ _ _ _ _ _ _ _ _ _ _ _ _
      | exact ih5 _ _ _ _ _ _ _ _ _ _ _ _ _ _ _ _ _ _ _ _ _ _ _ _ _ _ _ _ _ _ _ _ _ _ _ _ _ _ _ _ _ _ _ _ _ _ _ _ _ _ _ _
      | exact ih6 _ _ _ _ _ _ _ _ _ _ _ _ _ _ _ _ _ _ _ _ _ _ _ _ _ _ _ _ _ _ _ _ _ _ _ _ _ _ _ _ _ _ _ _ _ _ _ _
      | exact impl_IsModel.mono _ _ _ _ _ _ _
      | exact impl_MixModels.mono _ _ _ _ _ _ _ _ _ _ _ _ _ _
      | exact impl_ScaleModel.mono _ _ _ _ _ _ _ _ _
      | exact impl_SortTable.mono _ _ _ _ _ _ _ _ _ _ _ _ _ _
      | exact impl_SumsOf.mono _ _ _ _ _ _ _ _
      | exact impl_WrongMetal.mono _ _ _ _ _ _ _ _ _ _ _ _ _ _
      | exact laws_qInts.mono _ _ _
      | exact laws_qModel.mono _ _ _ _ _ _ _ _ _ _ _ _ _
      | exact laws_qSum.mono _ _
      | exact spec_DrawMixModels.mono _ _
      | exact spec_DrawScaleModel.mono _ _
      | exact spec_DrawSortTable.mono _ _
      | exact spec_MixModels.mono _ _ _ _ _ _ _ _ _ _ _ _ _ _
      | exact spec_ScaleModel.mono _ _ _ _ _ _ _ _ _
      | exact spec_SortTable.mono _ _ _ _ _ _ _ _ _ _ _ _ _ _
      | exact spec_WrongMetal.mono _ _ _ _ _ _ _ _ _ _ _ _ _ _
      | exact LeO.none _
      | refine LeO.ite ?_ ?_
      | refine LeO.bind ?_ (fun _ => ?_)
    · intro y0 y1 y2 y3 y4 y5 y6 y7 y8 y9 y10 y11 y12 y13 y14 y15 y16 y17 y18 y19 y20 y21 y22 y23 y24 y25 y26 y27 y28 y29 y30 y31 y32 y33 y34 y35 y36 y37 y38
      unfold laws_FnSorted.l1
      repeat' first
      | (with_reducible exact ih0 _ _ _ _ _ _ _ _ _ _ _ _ _ _ _ _ _ _ _ _ _ _ _ _ _ _ _ _ _ _ _ _ _ _ _ _ _ _ _ _ _ _ _ _ _ _ _ _ _ _ _ _ _ _ _ _ _ _ _)
      | (with_reducible exact ih1 _ _ _ _ _ _ _ _ _ _ _ _ _ _ _ _ _ _ _ _ _ _ _ _ _ _ _ _ _ _ _ _ _ _ _ _ _)
      | (with_reducible exact ih2 _ _ _ _ _ _ _ _ _ _ _)
      | (with_reducible exact ih3 _ _ _ _ _ _ _ _ _ _ _ _ _)
      | (with_reducible exact ih4 _ _ _ _ _ _ _ _ _ _ _ _ _ _ _ _ _ _ _ _ _ _ _ _ _ _ _ _ _ _ _ _ _ _ _ _ _ _ _)
      | (with_reducible exact ih5 _ _ _ _ _ _ _ _ _ _ _ _ _ _ _ _ _ _ _ _ _ _ _ _ _ _ _ _ _ _ _ _ _ _ _ _ _ _ _ _ _ _ _ _ _ _ _ _ _ _ _ _)
      | (with_reducible exact ih6 _ _ _ _ _ _ _ _ _ _ _ _ _ _ _ _ _ _ _ _ _ _ _ _ _ _ _ _ _ _ _ _ _ _ _ _ _ _ _ _ _ _ _ _ _ _ _ _)
      | (with_reducible exact impl_IsModel.mono _ _ _ _ _ _ _)
      | (with_reducible exact impl_MixModels.mono _ _ _ _ _ _ _ _ _ _ _ _ _ _)
      | (with_reducible exact impl_ScaleModel.mono _ _ _ _ _ _ _ _ _)
      | (with_reducible exact impl_SortTable.mono _ _ _ _ _ _ _ _ _ _ _ _ _ _)
      | (with_reducible exact impl_SumsOf.mono _ _ _ _ _ _ _ _)
      | (with_reducible exact impl_WrongMetal.mono _ _ _ _ _ _ _ _ _ _ _ _ _ _)
      | (with_reducible exact laws_qInts.mono _ _ _)
      | (with_reducible exact laws_qModel.mono _ _ _ _ _ _ _ _ _ _ _ _ _)
      | (with_reducible exact laws_qSum.mono _ _)
      | (with_reducible exact spec_DrawMixModels.mono _ _)
      | (with_reducible exact spec_DrawScaleModel.mono _ _)
      | (with_reducible exact spec_DrawSortTable.mono _ _)
      | (with_reducible exact spec_MixModels.mono _ _ _ _ _ _ _ _ _ _ _ _ _ _)
      | (with_reducible exact spec_ScaleModel.mono _ _ _ _ _ _ _ _ _)
      | (with_reducible exact spec_SortTable.mono _ _ _ _ _ _ _ _ _ _ _ _ _ _)
      | (with_reducible exact spec_WrongMetal.mono _ _ _ _ _ _ _ _ _ _ _ _ _ _)
      | (with_reducible exact LeO.refl _)
      | (with_reducible exact LeO.none _)
      | (with_reducible refine LeO.ite ?_ ?_)
      | (with_reducible refine LeO.bind ?_ (fun _ => ?_))
      | exact ih0 _ _ _ _ _ _ _ _ _ _ _ _ _ _ _ _ _ _ _ _ _ _ _ _ _ _ _ _ _ _ _ _ _ _ _ _ _ _ _ _ _ _ _ _ _ _ _ _ _ _ _ _ _ _ _ _ _ _ _
      | exact ih1 _ _ _ _ _ _ _ _ _ _ _ _ _ _ _ _ _ _ _ _ _ _ _ _ _ _ _ _ _ _ _ _ _ _ _ _ _
      | exact ih2 _ _ _ _ _ _ _ _ _ _ _
      | exact ih3 _ _ _ _ _ _ _ _ _ _ _ _ _
      | exact ih4 _ _ _ _ _ _ _ _ _ _ _ _ _ _ _ _ _ _ _ _ _ _ _ _ _ _ _ _ _ _ _ _ _ _ _ _ _ _ _
      | exact ih5 _ _ _ _ _ _ _ _ _ _ _ _ _ _ _ _ _ _ _ _ _ _ _ _ _ _ _ _ _ _ _ _ _ _ _ _ _ _ _ _ _ _ _ _ _ _ _ _ _ _ _ _
      | exact ih6 _ _ _ _ _ _ _ _ _ _ _ _ _ _ _ _ _ _ _ _ _ _ _ _ _ _ _ _ _ _ _ _ _ _ _ _ _ _ _ _ _ _ _ _ _ _ _ _
      | exact impl_IsModel.mono _ _ _ _ _ _ _
      | exact impl_MixModels.mono _ _ _ _ _ _ _ _ _ _ _ _ _ _
      | exact impl_ScaleModel.mono _ _ _ _ _ _ _ _ _
      | exact impl_SortTable.mono _ _ _ _ _ _ _ _ _ _ _ _ _ _
      | exact impl_SumsOf.mono _ _ _ _ _ _ _ _
      | exact impl_WrongMetal.mono _ _ _ _ _ _ _ _ _ _ _ _ _ _
      | exact laws_qInts.mono _ _ _
      | exact laws_qModel.mono _ _ _ _ _ _ _ _ _ _ _ _ _
      | exact laws_qSum.mono _ _
      | exact spec_DrawMixModels.mono _ _
      | exact spec_DrawScaleModel.mono _ _
      | exact spec_DrawSortTable.mono _ _
      | exact spec_MixModels.mono _ _ _ _ _ _ _ _ _ _ _ _ _ _
      | exact spec_ScaleModel.mono _ _ _ _ _ _ _ _ _
      | exact spec_SortTable.mono _ _ _ _ _ _ _ _ _ _ _ _ _ _
      | exact spec_WrongMetal.mono _ _ _ _ _ _ _ _ _ _ _ _ _ _
      | exact LeO.none _
      | refine LeO.ite ?_ ?_
      | refine LeO.bind ?_ (fun _ => ?_)
    · intro y0 y1 y2 y3 y4 y5 y6 y7 y8 y9 y10 y11 y12 y13 y14 y15 y16 y17 y18 y19 y20 y21 y22 y23 y24 y25 y26 y27 y28 y29 y30 y31 y32 y33 y34 y35 y36 y37 y38 y39 y40 y41 y42 y43 y44 y45 y46 y47 y48 y49 y50 y51
      unfold laws_FnSorted.j1
      repeat' first
      | (with_reducible exact ih0 _ _ _ _ _ _ _ _ _ _ _ _ _ _ _ _ _ _ _ _ _ _ _ _ _ _ _ _ _ _ _ _ _ _ _ _ _ _ _ _ _ _ _ _ _ _ _ _ _ _ _ _ _ _ _ _ _ _ _)
      | (with_reducible exact ih1 _ _ _ _ _ _ _ _ _ _ _ _ _ _ _ _ _ _ _ _ _ _ _ _ _ _ _ _ _ _ _ _ _ _ _ _ _)
      | (with_reducible exact ih2 _ _ _ _ _ _ _ _ _ _ _)
      | (with_reducible exact ih3 _ _ _ _ _ _ _ _ _ _ _ _ _)
      | (with_reducible exact ih4 _ _ _ _ _ _ _ _ _ _ _ _ _ _ _ _ _ _ _ _ _ _ _ _ _ _ _ _ _ _ _ _ _ _ _ _ _ _ _)
      | (with_reducible exact ih5 _ _ _ _ _ _ _ _ _ _ _ _ _ _ _ _ _ _ _ _ _ _ _ _ _ _ _ _ _ _ _ _ _ _ _ _ _ _ _ _ _ _ _ _ _ _ _ _ _ _ _ _)
      | (with_reducible exact ih6 _ _ _ _ _ _ _ _ _ _ _ _ _ _ _ _ _ _ _ _ _ _ _ _ _ _ _ _ _ _ _ _ _ _ _ _ _ _ _ _ _ _ _ _ _ _ _ _)
      | (with_reducible exact impl_IsModel.mono _ _ _ _ _ _ _)
      | (with_reducible exact impl_MixModels.mono _ _ _ _ _ _ _ _ _ _ _ _ _ _)
      | (with_reducible exact impl_ScaleModel.mono _ _ _ _ _ _ _ _ _)
      | (with_reducible exact impl_SortTable.mono _ _ _ _ _ _ _ _ _ _ _ _ _ _)
      | (with_reducible exact impl_SumsOf.mono _ _ _ _ _ _ _ _)
      | (with_reducible exact impl_WrongMetal.mono _ _ _ _ _ _ _ _ _ _ _ _ _ _)
      | (with_reducible exact laws_qInts.mono _ _ _)
      | (with_reducible exact laws_qModel.mono _ _ _ _ _ _ _ _ _ _ _ _ _)
      | (with_reducible exact laws_qSum.mono _ _)
      | (with_reducible exact spec_DrawMixModels.mono _ _)
      | (with_reducible exact spec_DrawScaleModel.mono _ _)
      | (with_reducible exact spec_DrawSortTable.mono _ _)
      | (with_reducible exact spec_MixModels.mono _ _ _ _ _ _ _ _ _ _ _ _ _ _)
      | (with_reducible exact spec_ScaleModel.mono _ _ _ _ _ _ _ _ _)
      | (with_reducible exact spec_SortTable.mono _ _ _ _ _ _ _ _ _ _ _ _ _ _)
      | (with_reducible exact spec_WrongMetal.mono _ _ _ _ _ _ _ _ _ _ _ _ _ _)
      | (with_reducible exact LeO.refl _)
      | (with_reducible exact LeO.none _)
      | (with_reducible refine LeO.ite ?_ ?_)
      | (with_reducible refine LeO.bind ?_ (fun _ => ?_))
      | exact ih0 _ _ _ _ _ _ _ _ _ _ _ _ _ _ _ _ _ _ _ _ _ _ _ _ _ _ _ _ _ _ _ _ _ _ _ _ _ _ _ _ _ _ _ _ _ _ _ _ _ _ _ _ _ _ _ _ _ _ _
      | exact ih1 _ _ _ _ _ _ _ _ _ _ _ _ _ _ _ _ _ _ _ _ _ _ _ _ _ _ _ _ _ _ _ _ _ _ _ _ _
      | exact ih2 _ _ _ _ _ _ _ _ _ _ _
      | exact ih3 _ _ _ _ _ _ _ _ _ _ _ _ _
      | exact ih4 _ _ _ _ _ _ _ _ _ _ _ _ _ _ _ _ _ _ _ _ _ _ _ _ _ _ _ _ _ _ _ _ _ _ _ _ _ _ _
      | exact ih5 _ _ _ _ _ _ _ _ _ _ _ _ _ _ _ _ _ _ _ _ _ _ _ _ _ _ _ _ _ _ _ _ _ _ _ _ _ _ _ _ _ _ _ _ _ _ _ _ _ _ _ _
      | exact ih6 _ _ _ _ _ _ _ _ _ _ _ _ _ _ _ _ _ _ _ _ _ _ _ _ _ _ _ _ _ _ _ _ _ _ _ _ _ _ _ _ _ _ _ _ _ _ _ _
      | exact impl_IsModel.mono _ _ _ _ _ _ _
      | exact impl_MixModels.mono _ _ _ _ _ _ _ _ _ _ _ _ _ _
      | exact impl_ScaleModel.mono _ _ _ _ _ _ _ _ _
      | exact impl_SortTable.mono _ _ _ _ _ _ _ _ _ _ _ _ _ _
      | exact impl_SumsOf.mono _ _ _ _ _ _ _ _
      | exact impl_WrongMetal.mono _ _ _ _ _ _ _ _ _ _ _ _ _ _
      | exact laws_qInts.mono _ _ _
      | exact laws_qModel.mono _ _ _ _ _ _ _ _ _ _ _ _ _
      | exact laws_qSum.mono _ _
      | exact spec_DrawMixModels.mono _ _
      | exact spec_DrawScaleModel.mono _ _
      | exact spec_DrawSortTable.mono _ _
      | exact spec_MixModels.mono _ _ _ _ _ _ _ _ _ _ _ _ _ _
      | exact spec_ScaleModel.mono _ _ _ _ _ _ _ _ _
      | exact spec_SortTable.mono _ _ _ _ _ _ _ _ _ _ _ _ _ _
      | exact spec_WrongMetal.mono _ _ _ _ _ _ _ _ _ _ _ _ _ _
      | exact LeO.none _
      | refine LeO.ite ?_ ?_
      | refine LeO.bind ?_ (fun _ => ?_)
    · intro y0 y1 y2 y3 y4 y5 y6 y7 y8 y9 y10 y11 y12 y13 y14 y15 y16 y17 y18 y19 y20 y21 y22 y23 y24 y25 y26 y27 y28 y29 y30 y31 y32 y33 y34 y35 y36 y37 y38 y39 y40 y41 y42 y43 y44 y45 y46 y47
      unfold laws_FnSorted.l0
      repeat' first
      | (with_reducible exact ih0 _ _ _ _ _ _ _ _ _ _ _ _ _ _ _ _ _ _ _ _ _ _ _ _ _ _ _ _ _ _ _ _ _ _ _ _ _ _ _ _ _ _ _ _ _ _ _ _ _ _ _ _ _ _ _ _ _ _ _)
      | (with_reducible exact ih1 _ _ _ _ _ _ _ _ _ _ _ _ _ _ _ _ _ _ _ _ _ _ _ _ _ _ _ _ _ _ _ _ _ _ _ _ _)
      | (with_reducible exact ih2 _ _ _ _ _ _ _ _ _ _ _)
      | (with_reducible exact ih3 _ _ _ _ _ _ _ _ _ _ _ _ _)
      | (with_reducible exact ih4 _ _ _ _ _ _ _ _ _ _ _ _ _ _ _ _ _ _ _ _ _ _ _ _ _ _ _ _ _ _ _ _ _ _ _ _ _ _ _)
      | (with_reducible exact ih5 _ _ _ _ _ _ _ _ _ _ _ _ _ _ _ _ _ _ _ _ _ _ _ _ _ _ _ _ _ _ _ _ _ _ _ _ _ _ _ _ _ _ _ _ _ _ _ _ _ _ _ _)
      | (with_reducible exact ih6 _ _ _ _ _ _ _ _ _ _ _ _ _ _ _ _ _ _ _ _ _ _ _ _ _ _ _ _ _ _ _ _ _ _ _ _ _ _ _ _ _ _ _ _ _ _ _ _)
      | (with_reducible exact impl_IsModel.mono _ _ _ _ _ _ _)
      | (with_reducible exact impl_MixModels.mono _ _ _ _ _ _ _ _ _ _ _ _ _ _)
      | (with_reducible exact impl_ScaleModel.mono _ _ _ _ _ _ _ _ _)
      | (with_reducible exact impl_SortTable.mono _ _ _ _ _ _ _ _ _ _ _ _ _ _)
      | (with_reducible exact impl_SumsOf.mono _ _ _ _ _ _ _ _)
      | (with_reducible exact impl_WrongMetal.mono _ _ _ _ _ _ _ _ _ _ _ _ _ _)
      | (with_reducible exact laws_qInts.mono _ _ _)
      | (with_reducible exact laws_qModel.mono _ _ _ _ _ _ _ _ _ _ _ _ _)
      | (with_reducible exact laws_qSum.mono _ _)
      | (with_reducible exact spec_DrawMixModels.mono _ _)
      | (with_reducible exact spec_DrawScaleModel.mono _ _)
      | (with_reducible exact spec_DrawSortTable.mono _ _)
      | (with_reducible exact spec_MixModels.mono _ _ _ _ _ _ _ _ _ _ _ _ _ _)
      | (with_reducible exact spec_ScaleModel.mono _ _ _ _ _ _ _ _ _)
      | (with_reducible exact spec_SortTable.mono _ _ _ _ _ _ _ _ _ _ _ _ _ _)
      | (with_reducible exact spec_WrongMetal.mono _ _ _ _ _ _ _ _ _ _ _ _ _ _)
      | (with_reducible exact LeO.refl _)
      | (with_reducible exact LeO.none _)
      | (with_reducible refine LeO.ite ?_ ?_)
      | (with_reducible refine LeO.bind ?_ (fun _ => ?_))
      | exact ih0 _ _ _ _ _ _ _ _ _ _ _ _ _ _ _ _ _ _ _ _ _ _ _ _ _ _ _ _ _ _ _ _ _ _ _ _ _ _ _ _ _ _ _ _ _ _ _ _ _ _ _ _ _ _ _ _ _ _ _
      | exact ih1 _ _ _ _ _ _ _ _ _ _ _ _ _ _ _ _ _ _ _ _ _ _ _ _ _ _ _ _ _ _ _ _ _ _ _ _ _
      | exact ih2 _ _ _ _ _ _ _ _ _ _ _
      | exact ih3 _ _ _ _ _ _ _ _ _ _ _ _ _
      | exact ih4 _ _ _ _ _ _ _ _ _ _ _ _ _ _ _ _ _ _ _ _ _ _ _ _ _ _ _ _ _ _ _ _ _ _ _ _ _ _ _
      | exact ih5 _ _ _ _ _ _ _ _ _ _ _ _ _ _ _ _ _ _ _ _ _ _ _ _ _ _ _ _ _ _ _ _ _ _ _ _ _ _ _ _ _ _ _ _ _ _ _ _ _ _ _ _
      | exact ih6 _ _ _ _ _ _ _ _ _ _ _ _ _ _ _ _ _ _ _ _ _ _ _ _ _ _ _ _ _ _ _ _ _ _ _ _ _ _ _ _ _ _ _ _ _ _ _ _
      | exact impl_IsModel.mono _ _ _ _ _ _ _
      | exact impl_MixModels.mono _ _ _ _ _ _ _ _ _ _ _ _ _ _
      | exact impl_ScaleModel.mono _ _ _ _ _ _ _ _ _
      | exact impl_SortTable.mono _ _ _ _ _ _ _ _ _ _ _ _ _ _
      | exact impl_SumsOf.mono _ _ _ _ _ _ _ _
      | exact impl_WrongMetal.mono _ _ _ _ _ _ _ _ _ _ _ _ _ _
      | exact laws_qInts.mono _ _ _
      | exact laws_qModel.mono _ _ _ _ _ _ _ _ _ _ _ _ _
      | exact laws_qSum.mono _ _
      | exact spec_DrawMixModels.mono _ _
      | exact spec_DrawScaleModel.mono _ _
      | exact spec_DrawSortTable.mono _ _
      | exact spec_MixModels.mono _ _ _ _ _ _ _ _ _ _ _ _ _ _
      | exact spec_ScaleModel.mono _ _ _ _ _ _ _ _ _
      | exact spec_SortTable.mono _ _ _ _ _ _ _ _ _ _ _ _ _ _
      | exact spec_WrongMetal.mono _ _ _ _ _ _ _ _ _ _ _ _ _ _
      | exact LeO.none _
      | refine LeO.ite ?_ ?_
      | refine LeO.bind ?_ (fun _ => ?_)
theorem laws_FnSorted.mono : ∀ a0 a1 k, LeO (laws_FnSorted.f k a0 a1) (laws_FnSorted.f (k + 1) a0 a1) := by
  intro a0 a1 k
  obtain ⟨ih0, ih1, ih2, ih3, ih4, ih5, ih6⟩ := laws_FnSorted.mono_l k
  unfold laws_FnSorted.f
  repeat' first
      | (with_reducible exact ih0 _ _ _ _ _ _ _ _ _ _ _ _ _ _ _ _ _ _ _ _ _ _ _ _ _ _ _ _ _ _ _ _ _ _ _ _ _ _ _ _ _ _ _ _ _ _ _ _ _ _ _ _ _ _ _ _ _ _ _)
      | (with_reducible exact ih1 _ _ _ _ _ _ _ _ _ _ _ _ _ _ _ _ _ _ _ _ _ _ _ _ _ _ _ _ _ _ _ _ _ _ _ _ _)
      | (with_reducible exact ih2 _ _ _ _ _ _ _ _ _ _ _)
      | (with_reducible exact ih3 _ _ _ _ _ _ _ _ _ _ _ _ _)
      | (with_reducible exact ih4 _ _ _ _ _ _ _ _ _ _ _ _ _ _ _ _ _ _ _ _ _ _ _ _ _ _ _ _ _ _ _ _ _ _ _ _ _ _ _)
      | (with_reducible exact ih5 _ _ _ _ _ _ _ _ _ _ _ _ _ _ _ _ _ _ _ _ _ _ _ _ _ _ _ _ _ _ _ _ _ _ _ _ _ _ _ _ _ _ _ _ _ _ _ _ _ _ _ _)
      | (with_reducible exact ih6 _ _ _ _ _ _ _ _ _ _ _ _ _ _ _ _ _ _ _ _ _ _ _ _ _ _ _ _ _ _ _ _ _ _ _ _ _ _ _ _ _ _ _ _ _ _ _ _)
      | (with_reducible exact impl_IsModel.mono _ _ _ _ _ _ _)
      | (with_reducible exact impl_MixModels.mono _ _ _ _ _ _ _ _ _ _ _ _ _ _)
      | (with_reducible exact impl_ScaleModel.mono _ _ _ _ _ _ _ _ _)
      | (with_reducible exact impl_SortTable.mono _ _ _ _ _ _ _ _ _ _ _ _ _ _)
      | (with_reducible exact impl_SumsOf.mono _ _ _ _ _ _ _ _)
      | (with_reducible exact impl_WrongMetal.mono _ _ _ _ _ _ _ _ _ _ _ _ _ _)
      | (with_reducible exact laws_qInts.mono _ _ _)
      | (with_reducible exact laws_qModel.mono _ _ _ _ _ _ _ _ _ _ _ _ _)
      | (with_reducible exact laws_qSum.mono _ _)
      | (with_reducible exact spec_DrawMixModels.mono _ _)
      | (with_reducible exact spec_DrawScaleModel.mono _ _)
      | (with_reducible exact spec_DrawSortTable.mono _ _)
      | (with_reducible exact spec_MixModels.mono _ _ _ _ _ _ _ _ _ _ _ _ _ _)
      | (with_reducible exact spec_ScaleModel.mono _ _ _ _ _ _ _ _ _)
      | (with_reducible exact spec_SortTable.mono _ _ _ _ _ _ _ _ _ _ _ _ _ _)
      | (with_reducible exact spec_WrongMetal.mono _ _ _ _ _ _ _ _ _ _ _ _ _ _)
      | (with_reducible exact LeO.refl _)
      | (with_reducible exact LeO.none _)
      | (with_reducible refine LeO.ite ?_ ?_)
      | (with_reducible refine LeO.bind ?_ (fun _ => ?_))
      | exact ih0 _ _ _ _ _ _ _ _ _ _ _ _ _ _ _ _ _ _ _ _ _ _ _ _ _ _ _ _ _ _ _ _ _ _ _ _ _ _ _ _ _ _ _ _ _ _ _ _ _ _ _ _ _ _ _ _ _ _ _
      | exact ih1 _ _ _ _ _ _ _ _ _ _ _ _ _ _ _ _ _ _ _ _ _ _ _ _ _ _ _ _ _ _ _ _ _ _ _ _ _
      | exact ih2 _ _ _ _ _ _ _ _ _ _ _
      | exact ih3 _ _ _ _ _ _ _ _ _ _ _ _ _
      | exact ih4 _ _ _ _ _ _ _ _ _ _ _ _ _ _ _ _ _ _ _ _ _ _ _ _ _ _ _ _ _ _ _ _ _ _ _ _ _ _ _
      | exact ih5 _ _ _ _ _ _ _ _ _ _ _ _ _ _ _ _ _ _ _ _ _ _ _ _ _ _ _ _ _ _ _ _ _ _ _ _ _ _ _ _ _ _ _ _ _ _ _ _ _ _ _ _
      | exact ih6 _ _ _ _ _ _ _ _ _ _ _ _ _ _ _ _ _ _ _ _ _ _ _ _ _ _ _ _ _ _ _ _ _ _ _ _ _ _ _ _ _ _ _ _ _ _ _ _
      | exact impl_IsModel.mono _ _ _ _ _ _ _
      | exact impl_MixModels.mono _ _ _ _ _ _ _ _ _ _ _ _ _ _
      | exact impl_ScaleModel.mono _ _ _ _ _ _ _ _ _
      | exact impl_SortTable.mono _ _ _ _ _ _ _ _ _ _ _ _ _ _
      | exact impl_SumsOf.mono _ _ _ _ _ _ _ _
      | exact impl_WrongMetal.mono _ _ _ _ _ _ _ _ _ _ _ _ _ _
      | exact laws_qInts.mono _ _ _
      | exact laws_qModel.mono _ _ _ _ _ _ _ _ _ _ _ _ _
      | exact laws_qSum.mono _ _
      | exact spec_DrawMixModels.mono _ _
      | exact spec_DrawScaleModel.mono _ _
      | exact spec_DrawSortTable.mono _ _
      | exact spec_MixModels.mono _ _ _ _ _ _ _ _ _ _ _ _ _ _
      | exact spec_ScaleModel.mono _ _ _ _ _ _ _ _ _
      | exact spec_SortTable.mono _ _ _ _ _ _ _ _ _ _ _ _ _ _
      | exact spec_WrongMetal.mono _ _ _ _ _ _ _ _ _ _ _ _ _ _
      | exact LeO.none _
      | refine LeO.ite ?_ ?_
      | refine LeO.bind ?_ (fun _ => ?_)
def laws_FnSorted.Pure : Prop := ∀ (l0 : List Int) (l1 : List Int), l0.length ≤ maxLen → l0.length * 1 ≤ 140737488351232 → (∀ x ∈ l0, (Lit.int .u8 x).wf = true) → l1.length ≤ maxLen → l1.length * 1 ≤ 140737488351232 → (∀ x ∈ l1, (Lit.int .u8 x).wf = true) → ∃ k, laws_FnSorted.f k l0 l1 = some true
end Go.Proofs.Ytfakhgopbhnocaa.PFnSorted
