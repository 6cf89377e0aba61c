/- What the functions of the program compute, in plain words. -/
import Derived.Test.YtbkolnbdcifnlaaKit
set_option linter.unusedVariables false
namespace Go.Proofs.Ytbkolnbdcifnlaa.Model
open Go.RowKit Go.Proofs.YtbkolnbdcifnlaaW.PrintWords Go.Proofs.Ytbkolnbdcifnlaa.Kit

/-- Numbers within bounds, all of them. -/
def allIn (lo hi : Int) : List Int → Bool
  | [] => true
  | y :: ys => decide (lo ≤ y ∧ y ≤ hi) && allIn lo hi ys
theorem allIn_mem {lo hi : Int} : ∀ {ys : List Int}, allIn lo hi ys = true → ∀ y ∈ ys, lo ≤ y ∧ y ≤ hi
  | [], _, y, hy => by cases hy
  | z :: zs, h, y, hy => by
    simp only [allIn, Bool.and_eq_true, decide_eq_true_eq] at h
    rcases List.mem_cons.1 hy with rfl | hy
    · exact h.1
    · exact allIn_mem h.2 y hy
theorem allIn_get {lo hi : Int} {ys : List Int} (h : allIn lo hi ys = true) {i : Nat} {y : Int} (hy : ys[i]? = some y) : lo ≤ y ∧ y ≤ hi := allIn_mem h y (List.mem_of_getElem? hy)
theorem allIn_of {lo hi : Int} : ∀ {ys : List Int}, (∀ y ∈ ys, lo ≤ y ∧ y ≤ hi) → allIn lo hi ys = true
  | [], _ => rfl
  | z :: zs, h => by simp only [allIn, Bool.and_eq_true, decide_eq_true_eq]; exact ⟨h z (by simp), allIn_of fun y hy => h y (by simp [hy])⟩

/-- The greatest number of 'false' behind each other; m: so far; n: those just before. -/
def down : List Bool → Int → Int → Int
  | [], m, _ => m
  | b :: bs, m, n => if b = true then down bs (max m 0) 0 else down bs (max m (n + 1)) (n + 1)

def mixStep (a x : Int) : Int := Int.tmod (wrap64 ((Int.tmod (wrap64 ((wrap64 ((wrap64 (33 * a)) + x)) + 11)) 1000003) * (wrap64 ((wrap64 (Int.tdiv (Int.tmod (wrap64 ((wrap64 ((wrap64 (33 * a)) + x)) + 11)) 1000003) 16)) + 7)))) 1000003
def mix (l : List Int) : Int := (l ++ [5, 2]).foldl mixStep (wrap64 (6007 + (l.length : Int)))
def keyOk (l : List Int) : Bool := decide (l.length ≤ 8) && allIn 0 1000000000 l

def gridOk (x y z : Int) : Bool := decide (1 ≤ x ∧ x ≤ 8 ∧ 1 ≤ y ∧ y ≤ 6 ∧ 1 ≤ z ∧ z ≤ 5 ∧ x * y * z ≤ 120)
theorem grid_prod {x y z : Int} (hx : 1 ≤ x ∧ x ≤ 8) (hy : 1 ≤ y ∧ y ≤ 6) (hz : 1 ≤ z ∧ z ≤ 5) : 1 ≤ x * y ∧ x * y ≤ 48 ∧ 1 ≤ x * y * z ∧ x * y * z ≤ 240 := by
  rcases (by omega : x = 1 ∨ x = 2 ∨ x = 3 ∨ x = 4 ∨ x = 5 ∨ x = 6 ∨ x = 7 ∨ x = 8) with rfl | rfl | rfl | rfl | rfl | rfl | rfl | rfl <;>
    rcases (by omega : z = 1 ∨ z = 2 ∨ z = 3 ∨ z = 4 ∨ z = 5) with rfl | rfl | rfl | rfl | rfl <;> omega
theorem grid_ok {x y z : Int} (h : gridOk x y z = true) : (1 ≤ x ∧ x ≤ 8) ∧ (1 ≤ y ∧ y ≤ 6) ∧ (1 ≤ z ∧ z ≤ 5) ∧ 1 ≤ x * y ∧ x * y ≤ 48 ∧ 1 ≤ x * y * z ∧ x * y * z ≤ 120 := by
  simp only [gridOk, decide_eq_true_eq] at h
  have := grid_prod (x := x) (y := y) (z := z) (by omega) (by omega) (by omega)
  omega
theorem grid_wrap {x y z : Int} (hx : 1 ≤ x ∧ x ≤ 8) (hy : 1 ≤ y ∧ y ≤ 6) (hz : 1 ≤ z ∧ z ≤ 5) : wrap64 (wrap64 (x * y) * z) = x * y * z := by
  have := grid_prod hx hy hz
  rw [wrap_id (x := x * y) (by omega) (by omega), wrap_id (by omega) (by omega)]
def holeOk (gx gy gz x y z t g : Int) : Bool := decide (0 ≤ x ∧ x < 10 * gx ∧ 0 ≤ y ∧ y < 10 * gy ∧ 0 ≤ z ∧ z < 10 * gz ∧ 1 ≤ t ∧ t ≤ 1000 ∧ 0 ≤ g ∧ g ≤ 1000)
def benchOk (x y : Int) (l : List Int) : Bool := decide (1 ≤ x ∧ x ≤ 8 ∧ 1 ≤ y ∧ y ≤ 6 ∧ (l.length : Int) = x * y) && allIn (-1000000) 1000000 l
theorem bench_prod {x y : Int} (hx : 1 ≤ x ∧ x ≤ 8) (hy : 1 ≤ y ∧ y ≤ 6) : 1 ≤ x * y ∧ x * y ≤ 48 := by
  rcases (by omega : x = 1 ∨ x = 2 ∨ x = 3 ∨ x = 4 ∨ x = 5 ∨ x = 6 ∨ x = 7 ∨ x = 8) with rfl | rfl | rfl | rfl | rfl | rfl | rfl | rfl <;> omega
def rowHolds (l : List Int) : Bool := decide (rd l 0 = wrap64 (wrap64 (rd l 2 + rd l 4) + rd l 6)) && (rd l 1 == wrap64 (wrap64 (rd l 3 + rd l 5) + rd l 7))
def rowOk (l : List Int) : Bool := decide (l.length = 12) && allIn 0 100000000000 l
end Go.Proofs.Ytbkolnbdcifnlaa.Model
