/- The value machine: what a call computes, told as values; part 4. Every operation of the machine stands for what the model does. -/
import Derived.Test.YtfakhgopbhnocaaVMc
set_option linter.unusedVariables false
set_option linter.unusedSimpArgs false
namespace Go.Proofs.YtfakhgopbhnocaaVM
open Go

/-! ### more rules -/
theorem contains_hasB (d : Nat) : ∀ l : List Nat, l.contains d = hasB l d
  | [] => rfl
  | x :: xs => by
    rw [List.contains_cons, contains_hasB d xs]
    simp only [hasB]
    by_cases h : x = d
    · subst h; simp
    · rw [beq_false_of_ne h, beq_false_of_ne (Ne.symm h)]; rfl
section
variable {E : Env} {B : Nat → Option Blk} {t : TypeId} {f : Bool} {e : List V} {s n o i j : Nat} {z : List V} {k : IntKind} {x y : Int} {b c : Bool}
theorem qLoad_fat1 : qLoad E ⟨s, false, n, z⟩ B (.fat f e o) = some (o < e.length, rt f (e.getD o .und)) := rfl
theorem qLoad_fat2 : qLoad E ⟨s, true, n, z⟩ B (.fat f e o) = some (o + s ≤ e.length, .agg (((e.drop o).take s).map (rt f))) := rfl
/-- where the pointer leads -/
def ldB (E : Env) (s : Nat) (g : Bool) (j o : Nat) : Option Blk → Option (Prop × V)
  | some (.box cs) => match j with
    | 0 => match g with
      | true => some (o + s ≤ cs.length, .agg (((cs.drop o).take s).map unc))
      | false => match cs[o]? with
        | some v => some (True, unc v)
        | none => none
    | _ => none
  | some (.row e s' es) => match E.ti e with
    | some y => match g with
      | true => some (j < es.length ∧ o + s ≤ s', .agg ((((es.getD j y.zero).drop o).take s).map (rt true)))
      | false => some (j < es.length ∧ o < s', rt true ((es.getD j y.zero).getD o .und))
    | none => none
  | none => none
theorem qLoad_ptr {g : Bool} : qLoad E ⟨s, g, n, z⟩ B (.ptr i j o) = ldB E s g j o (B i) := by
  simp only [qLoad]
  rcases B i with _ | x
  · rfl
  · cases x with
    | box cs => rfl
    | row e s' es => rfl
def ld1 : Option V → Option (Prop × V)
  | some v => some (True, unc v)
  | none => none
theorem ldB_box1 {cs : List V} : ldB E s false 0 o (some (.box cs)) = ld1 cs[o]? := by
  simp only [ldB]; cases cs[o]? <;> rfl
theorem ld1_some {v : V} : ld1 (some v) = some (True, unc v) := rfl
theorem ldB_box2 {cs : List V} : ldB E s true 0 o (some (.box cs)) = some (o + s ≤ cs.length, .agg (((cs.drop o).take s).map unc)) := rfl
def ldR (g : Bool) (s j o s' : Nat) (es : List (List V)) : Option TI → Option (Prop × V)
  | some y => match g with
      | true => some (j < es.length ∧ o + s ≤ s', .agg ((((es.getD j y.zero).drop o).take s).map (rt true)))
      | false => some (j < es.length ∧ o < s', rt true ((es.getD j y.zero).getD o .und))
  | none => none
theorem ldB_row {g : Bool} {e : TypeId} {s' : Nat} {es : List (List V)} : ldB E s g j o (some (.row e s' es)) = ldR g s j o s' es (E.ti e) := by
  simp only [ldB, ldR]
theorem ldR_1 {y : TI} {s' : Nat} {es : List (List V)} : ldR false s j o s' es (some y) = some (j < es.length ∧ o < s', rt true ((es.getD j y.zero).getD o .und)) := rfl
theorem ldR_2 {y : TI} {s' : Nat} {es : List (List V)} : ldR true s j o s' es (some y) = some (j < es.length ∧ o + s ≤ s', .agg ((((es.getD j y.zero).drop o).take s).map (rt true))) := rfl
theorem unc_int : unc (.int k x) = .int k x := rfl
theorem unc_bool : unc (.bool b) = .bool b := rfl
theorem unc_nil : unc .nil = .nil := rfl
theorem unc_ref : unc (.ref i) = .ref i := rfl
theorem unc_sl {es : List (List V)} : unc (.sl f s es) = .sl f s es := rfl
theorem unc_con_sl {u : Value} {es : List (List V)} : unc (.con u (.sl f s es)) = .sl f s es := rfl
theorem unc_con_nil {u : Value} : unc (.con u .nil) = .nil := rfl
theorem rt_int : rt f (.int k x) = .int k x := rfl
theorem rt_bool : rt f (.bool b) = .bool b := rfl
theorem rt_nil : rt f .nil = .nil := rfl
theorem rt_sl {g : Bool} {es : List (List V)} : rt f (.sl g s es) = .sl f s es := rfl
/-- an element's place -/
def ixS (f : Bool) (s : Nat) (es : List (List V)) (i : Int) : Option TI → Option (Prop × V)
  | some y => some (0 ≤ i ∧ i < (es.length : Int) ∧ y.size = s, .fat f (es.getD i.toNat y.zero) 0)
  | none => none
def ixT (E : Env) (f : Bool) (s : Nat) (es : List (List V)) (i : Int) : Option TypeId → Option (Prop × V)
  | some e => ixS f s es i (E.ti e)
  | none => none
theorem qIndex_sl {es : List (List V)} : qIndex E t B (.sl f s es) (.int k x) = ixT E f s es x (E.el t) := by
  simp only [qIndex, ixT]
  cases E.el t with
  | none => rfl
  | some e => simp only [ixS]; cases E.ti e <;> rfl
theorem ixT_some {es : List (List V)} {e : TypeId} : ixT E f s es x (some e) = ixS f s es x (E.ti e) := rfl
theorem ixS_some {es : List (List V)} {y : TI} : ixS f s es x (some y) = some (0 ≤ x ∧ x < (es.length : Int) ∧ y.size = s, .fat f (es.getD x.toNat y.zero) 0) := rfl
def ixR (E : Env) (i : Nat) (x : Int) : Option TypeId → Option Blk → Option (Prop × V)
  | some e, some (.row _ s es) => match E.ti e with
    | some y => some (0 ≤ x ∧ x < (es.length : Int) ∧ y.size = s, .ptr i x.toNat 0)
    | none => none
  | _, _ => none
theorem qIndex_ref : qIndex E t B (.ref i) (.int k x) = ixR E i x (E.el t) (B i) := by
  simp only [qIndex, ixR]
  cases E.el t with
  | none => rfl
  | some e =>
    rcases B i with _ | y
    · rfl
    · cases y <;> rfl
def ixR1 (i : Nat) (x : Int) (s : Nat) (es : List (List V)) : Option TI → Option (Prop × V)
  | some y => some (0 ≤ x ∧ x < (es.length : Int) ∧ y.size = s, .ptr i x.toNat 0)
  | none => none
theorem ixR_some {e e' : TypeId} {es : List (List V)} : ixR E i x (some e) (some (.row e' s es)) = ixR1 i x s es (E.ti e) := by
  simp only [ixR, ixR1]
theorem ixR1_some {es : List (List V)} {y : TI} : ixR1 i x s es (some y) = some (0 ≤ x ∧ x < (es.length : Int) ∧ y.size = s, .ptr i x.toNat 0) := rfl
/-! what is handed to a callee -/
theorem argPtr_nil : argPtr [] = none := rfl
theorem argPtr_ptr {vs : List V} : argPtr (.ptr i 0 0 :: vs) = some i := rfl
theorem argPtr_int {vs : List V} : argPtr (.int k x :: vs) = argPtr vs := rfl
theorem argPtr_bool {vs : List V} : argPtr (.bool b :: vs) = argPtr vs := rfl
theorem argPtr_sl {vs : List V} {es : List (List V)} : argPtr (.sl f s es :: vs) = argPtr vs := rfl
theorem argPtr_ref {vs : List V} : argPtr (.ref i :: vs) = argPtr vs := rfl
theorem argPtr_nl {vs : List V} : argPtr (.nil :: vs) = argPtr vs := rfl
theorem argPtr_agg {vs cs : List V} : argPtr (.agg cs :: vs) = argPtr vs := rfl
theorem memIn_none {l : BL} : memIn l none = some none := rfl
def mi2 : Option (List V) → Option (Option (List V))
  | some ws => some (some ws)
  | none => none
def mi1 (B : Nat → Option Blk) : Option Blk → Option (Option (List V))
  | some (.box cs) => mi2 (viewLs B (cs.map unc))
  | _ => none
theorem memIn_some {l : BL} : memIn l (some i) = mi1 (bg l) (bg l i) := by
  simp only [memIn, mi1]
  rcases bg l i with _ | x
  · rfl
  · cases x with
    | row e s es => rfl
    | box cs => simp only [mi2]; cases viewLs (bg l) (cs.map unc) <;> rfl
theorem mi1_box {cs : List V} : mi1 B (some (.box cs)) = mi2 (viewLs B (cs.map unc)) := rfl
theorem mi2_some {ws : List V} : mi2 (some ws) = some (some ws) := rfl
theorem viewL_int : viewL B (.int k x) = some (.int k x) := rfl
theorem viewL_bool : viewL B (.bool b) = some (.bool b) := rfl
theorem viewL_nil : viewL B .nil = some .nil := rfl
theorem viewL_sl {es : List (List V)} : viewL B (.sl f s es) = some (.sl false s es) := rfl
def vwR : Option Blk → Option V
  | some (.row _ s es) => some (.sl false s es)
  | _ => none
theorem viewL_ref : viewL B (.ref i) = vwR (B i) := rfl
theorem vwR_some {e : TypeId} {es : List (List V)} : vwR (some (.row e s es)) = some (.sl false s es) := rfl
def cons2 : Option V → Option (List V) → Option (List V)
  | some w, some ws => some (w :: ws)
  | _, _ => none
theorem cons2_some {v : V} {vs : List V} : cons2 (some v) (some vs) = some (v :: vs) := rfl
theorem viewLs_nil : viewLs B [] = some [] := rfl
theorem viewLs_cons {v : V} {vs : List V} : viewLs B (v :: vs) = cons2 (viewL B v) (viewLs B vs) := rfl
theorem viewAs_nil {p : Option Nat} : viewAs p B [] = some [] := rfl
theorem viewAs_cons {p : Option Nat} {v : V} {vs : List V} : viewAs p B (v :: vs) = cons2 (viewA p B v) (viewAs p B vs) := rfl
theorem viewA_int {p : Option Nat} : viewA p B (.int k x) = some (.int k x) := rfl
theorem viewA_bool {p : Option Nat} : viewA p B (.bool b) = some (.bool b) := rfl
theorem viewA_nil {p : Option Nat} : viewA p B .nil = some .nil := rfl
theorem viewA_sl {p : Option Nat} {es : List (List V)} : viewA p B (.sl f s es) = some (.sl false s es) := rfl
theorem viewA_ref {p : Option Nat} : viewA p B (.ref i) = vwR (B i) := rfl
def agg1 : Option (List V) → Option V
  | some ws => some (.agg ws)
  | none => none
theorem viewA_agg {p : Option Nat} {cs : List V} : viewA p B (.agg cs) = agg1 (viewLs B cs) := by simp only [viewA, agg1]; cases viewLs B cs <;> rfl
theorem agg1_some {ws : List V} : agg1 (some ws) = some (.agg ws) := rfl
theorem viewA_ptr : viewA (some i) B (.ptr i 0 0) = some (.ptr 0 0 0) := by simp [viewA]
def sC2 (f : FuncId) (mem : Option (List V)) (p : Option Nat) : Option (List V) → St
  | some vargs => .call f vargs mem p
  | none => .bad
theorem sC_go {g : FuncId} {l : BL} {p : Option Nat} {vs : List V} {mem : Option (List V)} : sC g l p vs (some mem) = sC2 g mem p (viewAs p (bg l) vs) := by
  simp only [sC, sC2]; cases viewAs p (bg l) vs <;> rfl
theorem sC2_some {g : FuncId} {p : Option Nat} {vs : List V} {mem : Option (List V)} : sC2 g mem p (some vs) = .call g vs mem p := rfl
/-! what comes back -/
theorem renT_int : renT i (.int k x) = .int k x := rfl
theorem renT_bool : renT i (.bool b) = .bool b := rfl
theorem renT_nil : renT i .nil = .nil := rfl
theorem renT_sl {es : List (List V)} : renT i (.sl f s es) = .sl f s es := rfl
theorem renT_agg {cs : List V} : renT i (.agg cs) = .agg (cs.map (renL i)) := rfl
theorem renT_tup {cs : List V} : renT i (.tup cs) = .tup (cs.map (renA i)) := rfl
theorem renA_int : renA i (.int k x) = .int k x := rfl
theorem renA_bool : renA i (.bool b) = .bool b := rfl
theorem renA_nil : renA i .nil = .nil := rfl
theorem renA_sl {es : List (List V)} : renA i (.sl f s es) = .sl f s es := rfl
theorem renA_agg {cs : List V} : renA i (.agg cs) = .agg (cs.map (renL i)) := rfl
theorem renL_int : renL i (.int k x) = .int k x := rfl
theorem renL_bool : renL i (.bool b) = .bool b := rfl
theorem renL_nil : renL i .nil = .nil := rfl
theorem renL_sl {es : List (List V)} : renL i (.sl f s es) = .sl f s es := rfl
theorem rowsD_nil : rowsD i [] = [] := rfl
theorem memD_none {m : Option (List V)} : memD B none m = [] := rfl
def md1 (i : Nat) (vs : List V) : Option Blk → Dl
  | some (.box os) => [(i, some (.box (mergeL os vs)))]
  | _ => []
theorem memD_some {vs : List V} : memD B (some i) (some vs) = md1 i vs (B i) := by
  simp only [memD, md1]
  rcases B i with _ | x
  · rfl
  · cases x <;> rfl
theorem md1_box {os vs : List V} : md1 i vs (some (.box os)) = [(i, some (.box (mergeL os vs)))] := rfl
theorem mergeL_nil : mergeL [] [] = [] := rfl
theorem mergeL_int {v : V} {os vs : List V} : mergeL (v :: os) (.int k x :: vs) = .int k x :: mergeL os vs := rfl
theorem mergeL_bool {v : V} {os vs : List V} : mergeL (v :: os) (.bool b :: vs) = .bool b :: mergeL os vs := rfl
theorem mergeL_sl {v : V} {os vs : List V} {es : List (List V)} : mergeL (v :: os) (.sl f s es :: vs) = v :: mergeL os vs := rfl
theorem mergeL_nl {v : V} {os vs : List V} : mergeL (v :: os) (.nil :: vs) = v :: mergeL os vs := rfl
/-! structs -/
def sF (d : Nat) (l : TL) (b : BL) : Option (List V) → St
  | some cs => .go True ((d, .agg cs) :: l) b
  | none => .bad
def sP (T : Nat → V) (parts : List (Nat × Operand)) (d : Nat) (l : TL) (b : BL) : Option TI → Option (List (Nat × Nat)) → St
  | some y, some ps => sF d l b (fillV T ps y.zero parts)
  | _, _ => .bad
section
variable {ow : List Nat} {d : Nat} {l : TL} {bb : BL}
theorem stO_build {parts : Array (Nat × Operand)} : stO E ow d l bb (.build t parts) = sP (tg l) parts.toList d l bb (E.ti t) (E.pl t) := by
  simp only [stO, qop, sP]
  cases E.ti t with
  | none => rfl
  | some y =>
    cases E.pl t with
    | none => rfl
    | some ps => simp only [sF]; cases fillV (tg l) ps y.zero parts.toList <;> rfl
theorem sP_some {T : Nat → V} {parts : List (Nat × Operand)} {y : TI} {ps : List (Nat × Nat)} : sP T parts d l bb (some y) (some ps) = sF d l bb (fillV T ps y.zero parts) := rfl
theorem sF_some {cs : List V} : sF d l bb (some cs) = .go True ((d, .agg cs) :: l) bb := rfl
def fl1 (T : Nat → V) (ps : List (Nat × Nat)) (cs : List V) (rest : List (Nat × Operand)) : Option (Nat × Nat) → Option (List V) → Option (List V)
  | some (off, n), some vs => bif vs.length == n && Nat.ble (off + n) cs.length then fillV T ps (cs.take off ++ vs ++ cs.drop (off + n)) rest else none
  | _, _ => none
theorem fillV_nil {T : Nat → V} {ps : List (Nat × Nat)} {cs : List V} : fillV T ps cs [] = some cs := rfl
theorem fillV_cons {T : Nat → V} {ps : List (Nat × Nat)} {cs : List V} {x : Operand} {rest : List (Nat × Operand)} : fillV T ps cs ((i, x) :: rest) = fl1 T ps cs rest ps[i]? (boxV (ev T x)) := by
  simp only [fillV, fl1]
  cases ps[i]? with
  | none => rfl
  | some p => cases boxV (ev T x) <;> rfl
theorem fl1_go {T : Nat → V} {ps : List (Nat × Nat)} {cs vs : List V} {rest : List (Nat × Operand)} {off n : Nat} (h : (vs.length == n && Nat.ble (off + n) cs.length) = true) : fl1 T ps cs rest (some (off, n)) (some vs) = fillV T ps (cs.take off ++ vs ++ cs.drop (off + n)) rest := by simp only [fl1, h, cond_true]
def qNil : V → Option (Prop × V)
  | .ptr i j o => some (True, .ptr i j o)
  | _ => none
theorem stO_nilCheck {x : Operand} : stO E ow d l bb (.nilCheck x) = sQ d l bb (qNil (ev (tg l) x)) := by
  simp only [stO, qop, qNil]
  cases ev (tg l) x <;> rfl
theorem qNil_ptr : qNil (.ptr i j o) = some (True, .ptr i j o) := rfl
def qMin : V → V → Option (Prop × V)
  | .int k a, .int k' c => some (k = k', .int k (if c < a then c else a))
  | _, _ => none
theorem stO_min {x y : Operand} {ts : Array TypeId} : stO E ow d l bb (.call ⟨.builtin .min, #[x, y], ts⟩) = sQ d l bb (qMin (ev (tg l) x) (ev (tg l) y)) := by
  simp only [stO, qop, qCall, qMin]
  cases ev (tg l) x <;> cases ev (tg l) y <;> rfl
theorem qMin_int {x y : Int} {k : IntKind} : qMin (.int k x) (.int k y) = some (True, .int k (if y < x then y else x)) := by simp [qMin]
def qMax : V → V → Option (Prop × V)
  | .int k a, .int k' c => some (k = k', .int k (if a < c then c else a))
  | _, _ => none
theorem stO_max {x y : Operand} {ts : Array TypeId} : stO E ow d l bb (.call ⟨.builtin .max, #[x, y], ts⟩) = sQ d l bb (qMax (ev (tg l) x) (ev (tg l) y)) := by
  simp only [stO, qop, qCall, qMax]
  cases ev (tg l) x <;> cases ev (tg l) y <;> rfl
theorem qMax_int {x y : Int} {k : IntKind} : qMax (.int k x) (.int k y) = some (True, .int k (if x < y then y else x)) := by simp [qMax]
/-! rows that are made -/
def sM (d : Nat) (l : TL) (b : BL) (e : TypeId) : Option TI → V → V → St
  | some y, .int _ n, .int _ m => .go (n = m ∧ 0 ≤ n ∧ n * y.bytes ≤ 281474976710656) ((d, .ref (8 * (d + 1))) :: l) ((8 * (d + 1), some (.row e y.size (List.replicate n.toNat y.zero))) :: b)
  | _, _, _ => .bad
def sMe (E : Env) (d : Nat) (l : TL) (b : BL) (v w : V) : Option TypeId → St
  | some e => sM d l b e (E.ti e) v w
  | none => .bad
theorem stO_make {x y : Operand} : stO E ow d l bb (.makeSlice t x y) = sMe E d l bb (ev (tg l) x) (ev (tg l) y) (E.el t) := by
  simp only [stO, qop, sMe]
  cases E.el t with
  | none => rfl
  | some e => simp only [sM]; cases E.ti e <;> cases ev (tg l) x <;> cases ev (tg l) y <;> rfl
theorem sMe_some {v w : V} {e : TypeId} : sMe E d l bb v w (some e) = sM d l bb e (E.ti e) v w := rfl
theorem sM_some {y : TI} {e : TypeId} {a c : Int} {k k' : IntKind} : sM d l bb e (some y) (.int k a) (.int k' c) = .go (a = c ∧ 0 ≤ a ∧ a * y.bytes ≤ 281474976710656) ((d, .ref (8 * (d + 1))) :: l) ((8 * (d + 1), some (.row e y.size (List.replicate a.toNat y.zero))) :: bb) := rfl
def sS (d : Nat) (l : TL) (b : BL) (len : Nat) (e : TypeId) : Bool → Option TI → Option (List (List V)) → St
  | true, some y, some es => .go (es.length = len ∧ len * y.size ≤ 16777216 ∧ ∀ e ∈ es, e.length = y.size) ((d, .ref (8 * (d + 1))) :: l) ((8 * (d + 1), some (.row e y.size es)) :: b)
  | false, some y, some es => .go (es.length = len ∧ len * y.size ≤ 16777216 ∧ ∀ e ∈ es, e.length = y.size) ((d, .sl true y.size es) :: l) b
  | _, _, _ => .bad
def sSe (E : Env) (d : Nat) (l : TL) (b : BL) (len : Nat) (w : Bool) (r : Option (List (List V))) : Option TypeId → St
  | some e => sS d l b len e w (E.ti e) r
  | none => .bad
theorem stO_slice {len : Nat} {parts : Array (Nat × Operand)} : stO E ow d l bb (.buildSlice t len parts) = sSe E d l bb len (hasB ow d) (rowsV (tg l) 0 parts.toList) (E.el t) := by
  rw [← contains_hasB]
  simp only [stO, qop, sSe]
  cases E.el t with
  | none => rfl
  | some e =>
    simp only [sS]
    cases E.ti e <;> cases rowsV (tg l) 0 parts.toList <;> cases ow.contains d <;> rfl
theorem sSe_some {len : Nat} {w : Bool} {r : Option (List (List V))} {e : TypeId} : sSe E d l bb len w r (some e) = sS d l bb len e w (E.ti e) r := rfl
theorem sS_own {len : Nat} {e : TypeId} {y : TI} {es : List (List V)} : sS d l bb len e true (some y) (some es) = .go (es.length = len ∧ len * y.size ≤ 16777216 ∧ ∀ e ∈ es, e.length = y.size) ((d, .ref (8 * (d + 1))) :: l) ((8 * (d + 1), some (.row e y.size es)) :: bb) := rfl
theorem sS_fix {len : Nat} {e : TypeId} {y : TI} {es : List (List V)} : sS d l bb len e false (some y) (some es) = .go (es.length = len ∧ len * y.size ≤ 16777216 ∧ ∀ e ∈ es, e.length = y.size) ((d, .sl true y.size es) :: l) bb := rfl
def rv1 : Option (List V) → Option (List (List V)) → Option (List (List V))
  | some c, some cs => some (c :: cs)
  | _, _ => none
theorem rowsV_nil {T : Nat → V} {m : Nat} : rowsV T m [] = some [] := rfl
theorem rowsV_cons {T : Nat → V} {m : Nat} {x : Operand} {ps : List (Nat × Operand)} (h : (i == m) = true) : rowsV T m ((i, x) :: ps) = rv1 (rowV (ev T x)) (rowsV T (m + 1) ps) := by
  simp only [rowsV, h, cond_true]
  cases rowV (ev T x) <;> cases rowsV T (m + 1) ps <;> rfl
theorem rv1_some {c : List V} {cs : List (List V)} : rv1 (some c) (some cs) = some (c :: cs) := rfl
theorem rowV_int : rowV (.int k x) = some [.int k x] := rfl
theorem rowV_bool : rowV (.bool b) = some [.bool b] := rfl
theorem rowV_nil : rowV .nil = some [.nil] := rfl
theorem rowV_sl {es : List (List V)} : rowV (.sl true s es) = some [.sl true s es] := rfl
theorem rowV_agg {cs : List V} (h : cs.all shut1 = true) : rowV (.agg cs) = some cs := by simp only [rowV, h, cond_true]
/-! append, and writing -/
def sApp (E : Env) (d : Nat) (l : TL) (b : BL) (t t' : TypeId) : Option (Prop × Option Nat × Blk) → St
  | some (C, none, blk) => .go (t = t' ∧ C ∧ absB (8 * (d + 1)) l b = true) ((d, .ref (8 * (d + 1))) :: l) ((8 * (d + 1), some blk) :: b)
  | some (C, some i, blk) => .go (t = t' ∧ C ∧ (i = 8 * (d + 1) ∨ absB (8 * (d + 1)) l b = true)) ((d, .ref (8 * (d + 1))) :: killTL i l) ((8 * (d + 1), some blk) :: (i, none) :: killBL i b)
  | none => .bad
theorem stO_append {x y : Operand} {t t' : TypeId} : stO E ow d l bb (.call ⟨.builtin .append, #[x, y], #[t, t']⟩) = sApp E d l bb t t' (qApp E (bg bb) (tg l) t x y) := by
  simp only [stO, sApp]
  rcases qApp E (bg bb) (tg l) t x y with _ | ⟨C, _ | i, blk⟩ <;> rfl
theorem sApp_new {t t' : TypeId} {C : Prop} {blk : Blk} : sApp E d l bb t t' (some (C, none, blk)) = .go (t = t' ∧ C ∧ absB (8 * (d + 1)) l bb = true) ((d, .ref (8 * (d + 1))) :: l) ((8 * (d + 1), some blk) :: bb) := rfl
theorem sApp_on {t t' : TypeId} {C : Prop} {blk : Blk} : sApp E d l bb t t' (some (C, some i, blk)) = .go (t = t' ∧ C ∧ (i = 8 * (d + 1) ∨ absB (8 * (d + 1)) l bb = true)) ((d, .ref (8 * (d + 1))) :: killTL i l) ((8 * (d + 1), some blk) :: (i, none) :: killBL i bb) := rfl
/-! writing -/
def qS1 (vs : List V) (y : TI) : Option (Prop × Nat × Blk) → Option (Prop × Nat × Blk)
  | some (C, i, blk) => some (vs.all known1 = true ∧ vs.length = y.size ∧ C, i, blk)
  | none => none
def qS2 (B : Nat → Option Blk) (p : V) : Option TI → Option (List V) → Option (Prop × Nat × Blk)
  | some y, some vs => qS1 vs y (stored1 B vs p)
  | _, _ => none
theorem qStore_eq {T : Nat → V} {p x : Operand} : qStore E B T t p x = qS2 B (ev T p) (E.ti t) (boxV (ev T x)) := by
  simp only [qStore, qS2]
  cases E.ti t with
  | none => rfl
  | some y =>
    cases boxV (ev T x) with
    | none => rfl
    | some vs => simp only [qS1]; rcases stored1 B vs (ev T p) with _ | ⟨C, i, blk⟩ <;> rfl
theorem qS2_some {p : V} {y : TI} {vs : List V} : qS2 B p (some y) (some vs) = qS1 vs y (stored1 B vs p) := rfl
theorem qS1_some {y : TI} {vs : List V} {C : Prop} {blk : Blk} : qS1 vs y (some (C, i, blk)) = some (vs.all known1 = true ∧ vs.length = y.size ∧ C, i, blk) := rfl
def qA2 (B : Nat → Option Blk) (e : TypeId) (y : TI) : V → V → Option (Prop × Option Nat × Blk)
  | .nil, .sl f ss ys => some (ss = y.size ∧ (f = true ∨ ∀ e ∈ ys, ∀ v ∈ e, scal v = true) ∧ ys ≠ [] ∧ ys.length * y.bytes ≤ 140737488355328, none, .row e y.size ys)
  | .ref i, .sl f ss ys => match B i with
    | some (.row e' s' es) => some (e' = e ∧ s' = y.size ∧ 0 ≠ i ∧ ss = y.size ∧ (f = true ∨ ∀ e ∈ ys, ∀ v ∈ e, scal v = true) ∧ (es.length + ys.length) * y.bytes ≤ 140737488355328, some i, .row e y.size (es ++ ys))
    | _ => none
  | _, _ => none
def qA1 (B : Nat → Option Blk) (v w : V) (e : TypeId) : Option TI → Option (Prop × Option Nat × Blk)
  | some y => qA2 B e y v w
  | none => none
def qA0 (E : Env) (B : Nat → Option Blk) (v w : V) : Option TypeId → Option (Prop × Option Nat × Blk)
  | some e => qA1 B v w e (E.ti e)
  | none => none
theorem qApp_eq {T : Nat → V} {x y : Operand} : qApp E B T t x y = qA0 E B (ev T x) (ev T y) (E.el t) := by
  simp only [qApp, qA0]
  cases E.el t with
  | none => rfl
  | some e =>
    simp only [qA1]
    cases E.ti e with
    | none => rfl
    | some z =>
      simp only [qA2]
      cases ev T x <;> cases ev T y <;> rfl
theorem qA0_some {v w : V} {e : TypeId} : qA0 E B v w (some e) = qA1 B v w e (E.ti e) := rfl
theorem qA1_some {v w : V} {e : TypeId} {y : TI} : qA1 B v w e (some y) = qA2 B e y v w := rfl
theorem qA2_nil {e : TypeId} {y : TI} {ss : Nat} {ys : List (List V)} : qA2 B e y .nil (.sl f ss ys) = some (ss = y.size ∧ (f = true ∨ ∀ e ∈ ys, ∀ v ∈ e, scal v = true) ∧ ys ≠ [] ∧ ys.length * y.bytes ≤ 140737488355328, none, .row e y.size ys) := rfl
def qA3 (f : Bool) (e : TypeId) (y : TI) (i ss : Nat) (ys : List (List V)) : Option Blk → Option (Prop × Option Nat × Blk)
  | some (.row e' s' es) => some (e' = e ∧ s' = y.size ∧ 0 ≠ i ∧ ss = y.size ∧ (f = true ∨ ∀ e ∈ ys, ∀ v ∈ e, scal v = true) ∧ (es.length + ys.length) * y.bytes ≤ 140737488355328, some i, .row e y.size (es ++ ys))
  | _ => none
theorem qA2_ref {e : TypeId} {y : TI} {ss : Nat} {ys : List (List V)} : qA2 B e y (.ref i) (.sl f ss ys) = qA3 f e y i ss ys (B i) := by
  simp only [qA2, qA3]
def st1 (vs : List V) (i j o : Nat) : Option Blk → Option (Prop × Nat × Blk)
  | some (.box cs) => match j with
    | 0 => some (o + vs.length ≤ cs.length, i, .box (setL cs o vs))
    | _ => none
  | some (.row e s es) => bif vs.all shut1 then some (j < es.length ∧ o + vs.length ≤ s, i, .row e s (es.set j (setL (es.getD j []) o vs))) else none
  | none => none
theorem stored1_ptr {vs : List V} : stored1 B vs (.ptr i j o) = st1 vs i j o (B i) := by
  simp only [stored1, st1]
  rcases B i with _ | z
  · rfl
  · cases z <;> rfl
theorem st1_box {vs cs : List V} : st1 vs i 0 o (some (.box cs)) = some (o + vs.length ≤ cs.length, i, .box (setL cs o vs)) := rfl
theorem st1_row {vs : List V} {e : TypeId} {s' : Nat} {es : List (List V)} (h : vs.all shut1 = true) : st1 vs i j o (some (.row e s' es)) = some (j < es.length ∧ o + vs.length ≤ s', i, .row e s' (es.set j (setL (es.getD j []) o vs))) := by simp only [st1, h, cond_true]
theorem setL_nil {cs : List V} : setL cs o [] = cs := rfl
theorem setL_cons {cs vs : List V} {v : V} : setL cs o (v :: vs) = setL (cs.set o v) (o + 1) vs := rfl
theorem qA3_some {e e' : TypeId} {y : TI} {ss s' : Nat} {ys es : List (List V)} : qA3 f e y i ss ys (some (.row e' s' es)) = some (e' = e ∧ s' = y.size ∧ 0 ≠ i ∧ ss = y.size ∧ (f = true ∨ ∀ e ∈ ys, ∀ v ∈ e, scal v = true) ∧ (es.length + ys.length) * y.bytes ≤ 140737488355328, some i, .row e y.size (es ++ ys)) := rfl
end
end
end Go.Proofs.YtfakhgopbhnocaaVM
