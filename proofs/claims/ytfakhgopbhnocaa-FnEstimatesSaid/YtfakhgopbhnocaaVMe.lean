/- The value machine: what a call computes, told as values; part 5. Every operation of the machine stands for what the model does. -/
import Derived.Test.YtfakhgopbhnocaaVMd
set_option linter.unusedVariables false
set_option linter.unusedSimpArgs false
namespace Go.Proofs.YtfakhgopbhnocaaVM
open Go

/-! ### rules: names that are nowhere, what falls -/
section
variable {f : Bool} {e : List V} {s o i j lo : Nat} {k : IntKind} {x : Int} {b : Bool} {cs : List V} {es : List (List V)} {u : Value} {l : TL} {d : Nat} {v : V} {bb : BL}
theorem absB_t : absB lo ((d, v) :: l) bb = (noTB lo v && absB lo l bb) := by simp only [absB, List.all_cons, Bool.and_assoc]
theorem absB_b0 : absB lo [] ((i, none) :: bb) = (!(lo ≤ i && i < lo + 8) && absB lo [] bb) := by simp [absB]
theorem absB_b1 {y : Blk} : absB lo [] ((i, some y) :: bb) = (!(lo ≤ i && i < lo + 8) && (noBB lo y && absB lo [] bb)) := by simp [absB, Bool.and_assoc]
theorem absB_nil : absB lo [] [] = true := rfl
theorem noBB_row {t : TypeId} : noBB lo (.row t s es) = true := rfl
theorem noBB_box : noBB lo (.box cs) = cs.all (noLB lo) := rfl
theorem noTB_int : noTB lo (.int k x) = true := rfl
theorem noAB_int : noAB lo (.int k x) = true := rfl
theorem noLB_int : noLB lo (.int k x) = true := rfl
theorem killT_int : killT i (.int k x) = .int k x := rfl
theorem killA_int : killA i (.int k x) = .int k x := rfl
theorem killL_int : killL i (.int k x) = .int k x := rfl
theorem noTB_bool : noTB lo (.bool b) = true := rfl
theorem noAB_bool : noAB lo (.bool b) = true := rfl
theorem noLB_bool : noLB lo (.bool b) = true := rfl
theorem killT_bool : killT i (.bool b) = .bool b := rfl
theorem killA_bool : killA i (.bool b) = .bool b := rfl
theorem killL_bool : killL i (.bool b) = .bool b := rfl
theorem noTB_nil : noTB lo (.nil) = true := rfl
theorem noAB_nil : noAB lo (.nil) = true := rfl
theorem noLB_nil : noLB lo (.nil) = true := rfl
theorem killT_nil : killT i (.nil) = .nil := rfl
theorem killA_nil : killA i (.nil) = .nil := rfl
theorem killL_nil : killL i (.nil) = .nil := rfl
theorem noTB_und : noTB lo (.und) = true := rfl
theorem noAB_und : noAB lo (.und) = true := rfl
theorem noLB_und : noLB lo (.und) = true := rfl
theorem killT_und : killT i (.und) = .und := rfl
theorem killA_und : killA i (.und) = .und := rfl
theorem killL_und : killL i (.und) = .und := rfl
theorem noTB_skip : noTB lo (.skip) = true := rfl
theorem noAB_skip : noAB lo (.skip) = true := rfl
theorem noLB_skip : noLB lo (.skip) = true := rfl
theorem killT_skip : killT i (.skip) = .skip := rfl
theorem killA_skip : killA i (.skip) = .skip := rfl
theorem killL_skip : killL i (.skip) = .skip := rfl
theorem noTB_sl : noTB lo (.sl f s es) = true := rfl
theorem noAB_sl : noAB lo (.sl f s es) = true := rfl
theorem noLB_sl : noLB lo (.sl f s es) = true := rfl
theorem killT_sl : killT i (.sl f s es) = .sl f s es := rfl
theorem killA_sl : killA i (.sl f s es) = .sl f s es := rfl
theorem killL_sl : killL i (.sl f s es) = .sl f s es := rfl
theorem noTB_fat : noTB lo (.fat f e o) = true := rfl
theorem noAB_fat : noAB lo (.fat f e o) = true := rfl
theorem noLB_fat : noLB lo (.fat f e o) = true := rfl
theorem killT_fat : killT i (.fat f e o) = .fat f e o := rfl
theorem killA_fat : killA i (.fat f e o) = .fat f e o := rfl
theorem killL_fat : killL i (.fat f e o) = .fat f e o := rfl
theorem noTB_ref : noTB lo (.ref j) = !(lo ≤ j && j < lo + 8) := rfl
theorem noAB_ref : noAB lo (.ref j) = !(lo ≤ j && j < lo + 8) := rfl
theorem noLB_ref : noLB lo (.ref j) = !(lo ≤ j && j < lo + 8) := rfl
theorem killT_ref0 : killT i (.ref i) = .und := by simp [killT, killA, killL, kill0]
theorem killT_ref (h : (j == i) = false) : killT i (.ref j) = .ref j := by simp [killT, killA, killL, kill0, h]
theorem killA_ref0 : killA i (.ref i) = .und := by simp [killT, killA, killL, kill0]
theorem killA_ref (h : (j == i) = false) : killA i (.ref j) = .ref j := by simp [killT, killA, killL, kill0, h]
theorem killL_ref0 : killL i (.ref i) = .und := by simp [killT, killA, killL, kill0]
theorem killL_ref (h : (j == i) = false) : killL i (.ref j) = .ref j := by simp [killT, killA, killL, kill0, h]
theorem noTB_ptr : noTB lo (.ptr j s o) = !(lo ≤ j && j < lo + 8) := rfl
theorem noAB_ptr : noAB lo (.ptr j s o) = !(lo ≤ j && j < lo + 8) := rfl
theorem noLB_ptr : noLB lo (.ptr j s o) = !(lo ≤ j && j < lo + 8) := rfl
theorem killT_ptr0 : killT i (.ptr i s o) = .und := by simp [killT, killA, killL, kill0]
theorem killT_ptr (h : (j == i) = false) : killT i (.ptr j s o) = .ptr j s o := by simp [killT, killA, killL, kill0, h]
theorem killA_ptr0 : killA i (.ptr i s o) = .und := by simp [killT, killA, killL, kill0]
theorem killA_ptr (h : (j == i) = false) : killA i (.ptr j s o) = .ptr j s o := by simp [killT, killA, killL, kill0, h]
theorem killL_ptr0 : killL i (.ptr i s o) = .und := by simp [killT, killA, killL, kill0]
theorem killL_ptr (h : (j == i) = false) : killL i (.ptr j s o) = .ptr j s o := by simp [killT, killA, killL, kill0, h]
theorem noTB_agg : noTB lo (.agg cs) = cs.all (noLB lo) := rfl
theorem noAB_agg : noAB lo (.agg cs) = cs.all (noLB lo) := rfl
theorem noTB_tup : noTB lo (.tup cs) = cs.all (noAB lo) := rfl
theorem noLB_con_sl : noLB lo (.con u (.sl f s es)) = true := rfl
theorem noLB_con_nil : noLB lo (.con u .nil) = true := rfl
theorem killT_agg : killT i (.agg cs) = .agg (cs.map (killL i)) := rfl
theorem killA_agg : killA i (.agg cs) = .agg (cs.map (killL i)) := rfl
theorem killT_tup : killT i (.tup cs) = .tup (cs.map (killA i)) := rfl
theorem killL_con_sl : killL i (.con u (.sl f s es)) = .con u (.sl f s es) := rfl
theorem killL_con_nil : killL i (.con u .nil) = .con u .nil := rfl
theorem killTL_nil : killTL i [] = [] := rfl
theorem killTL_cons : killTL i ((d, v) :: l) = (d, killT i v) :: killTL i l := rfl
theorem killBL_nil : killBL i [] = [] := rfl
theorem killBL_none : killBL i ((d, none) :: bb) = (d, none) :: killBL i bb := rfl
theorem killBL_row {t : TypeId} : killBL i ((d, some (.row t s es)) :: bb) = (d, some (.row t s es)) :: killBL i bb := rfl
theorem killBL_box : killBL i ((d, some (.box cs)) :: bb) = (d, some (.box (cs.map (killL i)))) :: killBL i bb := rfl
theorem shut1_int : shut1 (.int k x) = true := rfl
theorem shut1_bool : shut1 (.bool b) = true := rfl
theorem shut1_nil : shut1 .nil = true := rfl
theorem shut1_sl : shut1 (.sl true s es) = true := rfl
theorem scal_int : scal (.int k x) = true := rfl
theorem scal_bool : scal (.bool b) = true := rfl
end
section
variable {k : IntKind} {x : Int} {b : Bool} {f : Bool} {s i j o : Nat} {es : List (List V)} {e : List V}
theorem known1_int : known1 (.int k x) = true := rfl
theorem known1_bool : known1 (.bool b) = true := rfl
theorem known1_nil : known1 .nil = true := rfl
theorem known1_sl : known1 (.sl f s es) = true := rfl
theorem known1_ref : known1 (.ref i) = true := rfl
end
theorem lim8 {a : Nat} (h : a < 17592186044416) : ((a + 1) * 8 ≤ 140737488355328) = True := eq_true (by omega)
theorem lim24 {a : Nat} (h : a < 5864062014805) : ((a + 1) * 24 ≤ 140737488355328) = True := eq_true (by omega)
theorem lim40 {a : Nat} (h : a < 3518437208883) : ((a + 1) * 40 ≤ 140737488355328) = True := eq_true (by omega)
theorem lim16 {a : Nat} (h : a < 8796093022208) : ((a + 1) * 16 ≤ 140737488355328) = True := eq_true (by omega)
theorem lim32 {a : Nat} (h : a < 4398046511104) : ((a + 1) * 32 ≤ 140737488355328) = True := eq_true (by omega)
theorem lim1 {a : Nat} (h : a < 140737488355328) : ((a + 1) * 1 ≤ 140737488355328) = True := eq_true (by omega)
theorem opdL_call {f : FuncId} {as : Array Operand} {ts : Array TypeId} : opdL (.call ⟨.value (.func f), as, ts⟩) = .func f :: as.toList := by simp [opdL, Op.operands, Call.operands]
theorem nm0_func {l : TL} {nm : List Nat} {f : FuncId} : nm0 l nm (.func f) = true := by
  simp only [nm0_eq, ev]
  induction nm with
  | nil => rfl
  | cons i is ih => simp [nmV, ih, noTB, noAB, no0B]
theorem intsOf_nil : intsOf [] = some [] := rfl
theorem intsOf_cons {n : Int} {xs : List V} : intsOf (.int .i64 n :: xs) = (intsOf xs).map (n :: ·) := rfl
def eqA (neq : Bool) : Option Nat → Option (List Int) → Option (List Int) → Option (Prop × V)
  | some n, some as, some bs => some (as.length = n ∧ bs.length = n, .bool (bif neq then as != bs else as == bs))
  | _, _, _ => none
theorem qBin_eqA {E : Env} {t : TypeId} {xs ys : List V} : qBin E t .eql (.agg xs) (.agg ys) = eqA false (E.eqs t) (intsOf xs) (intsOf ys) := by
  simp only [qBin, eqA]
  cases E.eqs t <;> cases intsOf xs <;> cases intsOf ys <;> rfl
theorem qBin_neA {E : Env} {t : TypeId} {xs ys : List V} : qBin E t .neq (.agg xs) (.agg ys) = eqA true (E.eqs t) (intsOf xs) (intsOf ys) := by
  simp only [qBin, eqA]
  cases E.eqs t <;> cases intsOf xs <;> cases intsOf ys <;> rfl
theorem eqA_eq {n : Nat} {ps qs : List Int} : eqA false (some n) (some ps) (some qs) = some (ps.length = n ∧ qs.length = n, .bool (ps == qs)) := rfl
theorem eqA_ne {n : Nat} {ps qs : List Int} : eqA true (some n) (some ps) (some qs) = some (ps.length = n ∧ qs.length = n, .bool (!(ps == qs))) := rfl
theorem nil_beq : (([] : List Int) == []) = true := rfl
theorem idx0 {i : Int} (h0 : (0 ≤ i) = True) (h1 : (i < ((([] : List Int).length : Nat) : Int)) = True) : False := by
  have a := of_eq_true h0
  have b := of_eq_true h1
  simp at b
  omega
theorem renT_ref {i j : Nat} (h : (j < 8) = True) : renT i (.ref j) = .ref (i + j) := by simp [renT, renA, ren0, of_eq_true h]
theorem renA_ref {i j : Nat} (h : (j < 8) = True) : renA i (.ref j) = .ref (i + j) := by simp [renA, ren0, of_eq_true h]
theorem renL_ref {i j : Nat} (h : (j < 8) = True) : renL i (.ref j) = .ref (i + j) := by simp [renL, ren0, of_eq_true h]
theorem rowsD_cons {i s : Nat} {e : TypeId} {es : List (List V)} {rs : List RowD} : rowsD i ((e, s, es) :: rs) = (i, some (.row e s es)) :: rowsD (i + 1) rs := rfl
def lenR : Option Blk → Option (Prop × V)
  | some (.row _ _ es) => some (True, .int .i64 es.length)
  | _ => none
theorem qLen_refR {B : Nat → Option Blk} {e : TypeId} {i : Nat} : qLen B (some e) (.ref i) = lenR (B i) := by
  simp only [qLen, lenR]
  rcases B i with _ | x
  · rfl
  · cases x <;> rfl
theorem lenR_some {e : TypeId} {s : Nat} {es : List (List V)} : lenR (some (.row e s es)) = some (True, .int .i64 es.length) := rfl
theorem tn_lt {i : Int} {n : Nat} (h0 : 0 ≤ i) (h1 : i < (n : Int)) : (i.toNat < n) = True := eq_true (by omega)
theorem rowI_getn {xs : List Int} {i : Int} (h0 : 0 ≤ i) (h1 : i < (xs.length : Int)) : (mp mkI xs).getD i.toNat [] = [.int .i64 (xs.getD i.toNat 0)] := by
  have hl : i.toNat < xs.length := by omega
  simp [mp, mkI, hl]
theorem rowI_set {xs : List Int} {i : Nat} {n : Int} : (mp mkI xs).set i [.int .i64 n] = mp mkI (xs.set i n) := by simp [mp, mkI]
theorem nlit (n : Nat) : ((no_index (OfNat.ofNat n) : Nat) : Int) = OfNat.ofNat n := rfl
theorem lim8b {a b : Nat} (h : a + b < 17592186044416) : ((a + b) * 8 ≤ 140737488355328) = True := eq_true (by omega)
theorem lim24b {a b : Nat} (h : a + b < 5864062014805) : ((a + b) * 24 ≤ 140737488355328) = True := eq_true (by omega)
theorem lim40b {a b : Nat} (h : a + b < 3518437208883) : ((a + b) * 40 ≤ 140737488355328) = True := eq_true (by omega)
theorem lim16b {a b : Nat} (h : a + b < 8796093022208) : ((a + b) * 16 ≤ 140737488355328) = True := eq_true (by omega)
theorem lim32b {a b : Nat} (h : a + b < 4398046511104) : ((a + b) * 32 ≤ 140737488355328) = True := eq_true (by omega)
theorem rowI_scal (xs : List Int) : (∀ e ∈ mp mkI xs, ∀ v ∈ e, scal v = true) = True := eq_true (by simp [mp, mkI, scal])
theorem mp_nil {α : Type} (f : α → List V) : mp f [] = [] := rfl
theorem rowI_cons (n : Int) (ys : List Int) : [V.int .i64 n] :: mp mkI ys = mp mkI (n :: ys) := rfl
theorem rowI_len (xs : List Int) : (∀ e ∈ mp mkI xs, e.length = 1) = True := eq_true (by simp [mp, mkI])
theorem retF_mk {E : Env} {rs : List RV} {ids : List Nat} {l : TL} {b : BL} {us : Nat → Value} {mem : Option (List V)} {res : V} {rows : List RowD} {mem' : Option (List V)} {C : Prop} {vs ws : List V} (h1 : rets E ⟨tg l, bg b⟩ rs = some (C, vs)) (hC : C) (h2 : outAs (bg b) ids vs = some ws) (h3 : wkT (tup1 ws) res) (h4 : rowsAt (bg b) ids rows) (h5 : memQ (bg b) us mem mem') : retF E rs ids l b us mem res rows mem' := by
  simp only [retF, h1, h2]
  exact ⟨hC, h3, h4, h5⟩
end Go.Proofs.YtfakhgopbhnocaaVM
