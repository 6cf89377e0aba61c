/- The value machine: what a call computes, told as values; part 3. Every operation of the machine stands for what the model does. -/
import Derived.Test.YtfakhgopbhnocaaVMb
set_option linter.unusedVariables false
set_option linter.unusedSimpArgs false
namespace Go.Proofs.YtfakhgopbhnocaaVM
open Go

/-! ### the run of a region, by rules -/
def kS (E : Env) (fl : Fl) (gd : List (Nat × Nat)) (ow : List Nat) (d : Nat) (rest : List Oper) (l : TL) (b : BL) (K : TL → BL → Prop) : St → Prop
  | .go C l' b' => C ∧ runF E fl gd ow rest l' b' K
  | .call f vargs mem p => (E.loud f = mem.isSome) ∧ CallN E f vargs mem fun res rows mem' => runF E fl gd ow rest ((d, renT (8 * (d + 1)) res) :: l) (rowsD (8 * (d + 1)) rows ++ memD (bg b) p mem' ++ b) K
  | .bad => False
def kQ (E : Env) (fl : Fl) (gd : List (Nat × Nat)) (ow : List Nat) (rest : List Oper) (l : TL) (b : BL) (K : TL → BL → Prop) : Option (Prop × Nat × Blk) → Prop
  | some (C, i, blk) => C ∧ runF E fl gd ow rest l ((i, some blk) :: b) K
  | none => False
def kG (E : Env) (fl : Fl) (gd : List (Nat × Nat)) (ow : List Nat) (dst : Option Nat) (op : Op) (rest : List Oper) (l : TL) (b : BL) (K : TL → BL → Prop) : Option Bool → Prop
  | some true => match dst with
    | some d => kS E fl gd ow d rest l b K (stO E ow d l b op)
    | none => match op with
      | .store t p x => kQ E fl gd ow rest l b K (qStore E (bg b) (tg l) t p x)
      | _ => False
  | some false => match dst with
    | some d => runF E fl gd ow rest ((d, .skip) :: l) b K
    | none => runF E fl gd ow rest l b K
  | none => False
section
variable {E : Env} {fl : Fl} {gd : List (Nat × Nat)} {ow : List Nat} {rest : List Oper} {l : TL} {b : BL} {K : TL → BL → Prop} {d : Nat}
theorem runF_nil : runF E fl gd ow [] l b K = K l b := rfl
theorem runF_cons {o : Oper} : runF E fl gd ow (o :: rest) l b K = (flagB fl o l = true ∧ kG E fl gd ow o.dst o.op rest l b K (guardB gd (tg l) o.guard)) := by
  simp only [runF]
  congr 1
theorem kG_go {op : Op} : kG E fl gd ow (some d) op rest l b K (some true) = kS E fl gd ow d rest l b K (stO E ow d l b op) := rfl
theorem kG_store {t : TypeId} {p x : Operand} : kG E fl gd ow none (.store t p x) rest l b K (some true) = kQ E fl gd ow rest l b K (qStore E (bg b) (tg l) t p x) := rfl
theorem kG_skip {op : Op} : kG E fl gd ow (some d) op rest l b K (some false) = runF E fl gd ow rest ((d, .skip) :: l) b K := rfl
theorem kG_pass {op : Op} : kG E fl gd ow none op rest l b K (some false) = runF E fl gd ow rest l b K := rfl
theorem kS_go {C : Prop} {l' : TL} {b' : BL} : kS E fl gd ow d rest l b K (.go C l' b') = (C ∧ runF E fl gd ow rest l' b' K) := rfl
theorem kS_call {f : FuncId} {vargs : List V} {mem : Option (List V)} {p : Option Nat} : kS E fl gd ow d rest l b K (.call f vargs mem p) = ((E.loud f = mem.isSome) ∧ CallN E f vargs mem fun res rows mem' => runF E fl gd ow rest ((d, renT (8 * (d + 1)) res) :: l) (rowsD (8 * (d + 1)) rows ++ memD (bg b) p mem' ++ b) K) := rfl
theorem kQ_go {C : Prop} {i : Nat} {blk : Blk} : kQ E fl gd ow rest l b K (some (C, i, blk)) = (C ∧ runF E fl gd ow rest l ((i, some blk) :: b) K) := rfl
end

/-! flags -/
theorem flagB_no {o : Oper} {l : TL} : flagB ⟨[], [], []⟩ o l = true := by
  simp [flagB, inFl, hasB]
theorem inFl_some {d : Nat} {ls : List Nat} {op : Op} {ty : TypeId} {ps : String} {af : Array Edge} {g : Option (Nat × Bool)} : inFl ls ⟨some d, op, ty, ps, af, g⟩ = hasB ls d := rfl
theorem inFl_store {ls : List Nat} {t : TypeId} {p : Nat} {x : Operand} {ty : TypeId} {ps : String} {af : Array Edge} {g : Option (Nat × Bool)} : inFl ls ⟨none, .store t (.tmp p) x, ty, ps, af, g⟩ = hasB ls (100000 + p) := rfl
theorem hasB_nil {d : Nat} : hasB [] d = false := rfl
theorem hasB_hit {l : List Nat} {d : Nat} : hasB (d :: l) d = true := by simp [hasB]
theorem hasB_miss {l : List Nat} {d e : Nat} (h : (e == d) = false) : hasB (e :: l) d = hasB l d := by simp [hasB, h]
def orB : Bool → Bool → Bool
  | true, _ => true
  | false, b => b
def clB (l : TL) (nm : List Nat) (op : Op) : Bool → Bool
  | true => (opdL op).all (nm0 l nm)
  | false => true
def wrB (l : TL) (nm : List Nat) (op : Op) : Bool → Bool
  | true => (opdL op).all fun x => pt0 nm (ev (tg l) x)
  | false => true
theorem flagB_eq {c w nm : List Nat} {o : Oper} {l : TL} : flagB ⟨c, w, nm⟩ o l = (clB l nm o.op (inFl c o) && wrB l nm o.op (inFl w o)) := by
  unfold flagB
  cases inFl c o <;> cases inFl w o <;> rfl
theorem clB_no {l : TL} {nm : List Nat} {op : Op} : clB l nm op false = true := rfl
theorem wrB_no {l : TL} {nm : List Nat} {op : Op} : wrB l nm op false = true := rfl
theorem clB_yes {l : TL} {nm : List Nat} {op : Op} : clB l nm op true = (opdL op).all (nm0 l nm) := rfl
theorem wrB_store {l : TL} {nm : List Nat} {t : TypeId} {p x : Operand} : wrB l nm (.store t p x) true = (pt0 nm (ev (tg l) p) && pt0 nm (ev (tg l) x)) := by
  simp [wrB, opdL, Op.operands]
theorem wrB_call {l : TL} {nm : List Nat} {f : FuncId} {as : Array Operand} {ts : Array TypeId} : wrB l nm (.call ⟨.value (.func f), as, ts⟩) true = as.toList.all fun x => pt0 nm (ev (tg l) x) := by
  simp only [wrB, opdL, Op.operands, Call.operands]
  simp [ev, pt0]
theorem opdL_load {t : TypeId} {x : Operand} : opdL (.load t x) = [x] := rfl
theorem opdL_index {t : TypeId} {x i : Operand} : opdL (.indexAddr t x i) = [x, i] := rfl
theorem opdL_len {x : Operand} {t : TypeId} : opdL (.call ⟨.builtin .len, #[x], #[t]⟩) = [x] := rfl
theorem nm0_eq {l : TL} {nm : List Nat} {x : Operand} : nm0 l nm x = nmV (ev (tg l) x) nm := rfl
theorem nmV_nil {v : V} : nmV v [] = true := rfl
theorem nmV_cons {v : V} {i : Nat} {is : List Nat} : nmV v (i :: is) = (noTB i v && nmV v is) := rfl
theorem pt0_ptr {nm : List Nat} {i j o : Nat} : pt0 nm (.ptr i j o) = hasB nm i := rfl
theorem pt0_int {nm : List Nat} {k : IntKind} {n : Int} : pt0 nm (.int k n) = true := rfl
theorem pt0_bool {nm : List Nat} {b : Bool} : pt0 nm (.bool b) = true := rfl
theorem pt0_sl {nm : List Nat} {f : Bool} {s : Nat} {es : List (List V)} : pt0 nm (.sl f s es) = true := rfl
theorem pt0_nil {nm : List Nat} : pt0 nm .nil = true := rfl
theorem pt0_ref {nm : List Nat} {i : Nat} : pt0 nm (.ref i) = true := rfl
theorem pt0_agg {nm : List Nat} {cs : List V} : pt0 nm (.agg cs) = true := rfl

/-! guards -/
def gB : Bool → V → Option Bool
  | true, .bool b => some b
  | false, .bool b => some (!b)
  | _, .skip => some false
  | _, _ => none
def gL (gd : List (Nat × Nat)) (w : Bool) (l : TL) : Option Nat → Option Bool
  | some d => gB w (tg l d)
  | none => none
theorem guardB_none {gd : List (Nat × Nat)} {T : Nat → V} : guardB gd T none = some true := rfl
theorem guardB_some {gd : List (Nat × Nat)} {l : TL} {j : Nat} {w : Bool} : guardB gd (tg l) (some (j, w)) = gL gd w l (look gd j) := by
  simp only [guardB]
  cases look gd j with
  | none => rfl
  | some d => simp only [gL, gB]; cases tg l d <;> cases w <;> rfl
theorem gL_some {gd : List (Nat × Nat)} {w : Bool} {l : TL} {d : Nat} : gL gd w l (some d) = gB w (tg l d) := rfl
theorem gB_true {b : Bool} : gB true (.bool b) = some b := rfl
theorem gB_false {b : Bool} : gB false (.bool b) = some (!b) := rfl
theorem gB_skip {w : Bool} : gB w .skip = some false := by cases w <;> rfl
theorem look_hit {l : List (Nat × Nat)} {i d : Nat} : look ((i, d) :: l) i = some d := by simp [look]
theorem look_miss {l : List (Nat × Nat)} {i j d : Nat} (h : (i == j) = false) : look ((i, d) :: l) j = look l j := by simp [look, h]
theorem tg_hit {l : TL} {d : Nat} {v : V} : tg ((d, v) :: l) d = v := by simp [tg]
theorem tg_miss {l : TL} {d t : Nat} {v : V} (h : (d == t) = false) : tg ((d, v) :: l) t = tg l t := by simp [tg, h]
theorem bg_hit {l : BL} {d : Nat} {v : Option Blk} : bg ((d, v) :: l) d = v := by simp [bg]
theorem bg_miss {l : BL} {d t : Nat} {v : Option Blk} (h : (d == t) = false) : bg ((d, v) :: l) t = bg l t := by simp [bg, h]
theorem ev_tmp {T : Nat → V} {t : Nat} : ev T (.tmp t) = T t := rfl
theorem ev_int {T : Nat → V} {k : IntKind} {n : Int} : ev T (.const (.int k n)) = .int k n := rfl
theorem ev_bool {T : Nat → V} {x : Bool} : ev T (.const (.bool x)) = .bool x := rfl
theorem ev_nil {T : Nat → V} : ev T (.const (.slice none 0 0)) = .nil := rfl
theorem ev_agg {T : Nat → V} {a : Array Value} : ev T (.const (.agg a)) = .agg (a.toList.map cv0) := rfl

/-! operations -/
def sQ (d : Nat) (l : TL) (b : BL) : Option (Prop × V) → St
  | some (C, v) => .go C ((d, v) :: l) b
  | none => .bad
theorem sQ_some {d : Nat} {l : TL} {b : BL} {C : Prop} {v : V} : sQ d l b (some (C, v)) = .go C ((d, v) :: l) b := rfl
def qUn : UnOp → V → Option (Prop × V)
  | .not, .bool b => some (True, .bool (!b))
  | .neg, .int k n => some (True, .int k (k.wrap (0 - n)))
  | _, _ => none
def qPick : V → V → V → Option (Prop × V)
  | .bool true, a, _ => some (True, a)
  | .bool false, _, b => some (True, b)
  | _, _, _ => none
def qField : Option Nat → V → Option (Prop × V)
  | some f, .ptr i j o => some (True, .ptr i j (o + f))
  | some f, .fat g e o => some (True, .fat g e (o + f))
  | _, _ => none
def qLd (E : Env) (B : Nat → Option Blk) : Option TI → V → Option (Prop × V)
  | some y, p => qLoad E y B p
  | none, _ => none
def qEx : V → Nat → Option (Prop × V)
  | .tup vs, i => match vs[i]? with
    | some (.tup _) => none
    | some v => some (True, v)
    | none => none
  | _, _ => none
def qConv : Option IntKind → Option IntKind → V → Option (Prop × V)
  | some _, some k, .int _ n => some (True, .int k (k.wrap n))
  | _, _, _ => none
def sB (d : Nat) (l : TL) (b : BL) : Option (List V) → St
  | some cs => .go True ((d, .ptr (8 * (d + 1)) 0 0) :: l) ((8 * (d + 1), some (.box cs)) :: b)
  | none => .bad
def sA (d : Nat) (l : TL) (b : BL) : Option TI → St
  | some y => .go True ((d, .ptr (8 * (d + 1)) 0 0) :: l) ((8 * (d + 1), some (.box y.zero)) :: b)
  | none => .bad
def qLen (B : Nat → Option Blk) : Option TypeId → V → Option (Prop × V)
  | some _, .sl _ _ es => some (True, .int .i64 es.length)
  | some _, .nil => some (True, .int .i64 0)
  | some _, .ref i => match B i with
    | some (.row _ _ es) => some (True, .int .i64 es.length)
    | _ => none
  | _, _ => none
def sC (f : FuncId) (b : BL) (p : Option Nat) (vs : List V) : Option (Option (List V)) → St
  | some mem => match viewAs p (bg b) vs with
    | some vargs => .call f vargs mem p
    | none => .bad
  | none => .bad
section
variable {E : Env} {ow : List Nat} {d : Nat} {l : TL} {b : BL}
theorem stO_move {x : Operand} : stO E ow d l b (.move x) = .go True ((d, ev (tg l) x) :: l) b := rfl
theorem stO_assign {x : Operand} : stO E ow d l b (.assign x) = .go True ((d, ev (tg l) x) :: l) b := rfl
theorem stO_pick {c x y : Operand} : stO E ow d l b (.pick c x y) = sQ d l b (qPick (ev (tg l) c) (ev (tg l) x) (ev (tg l) y)) := by
  simp only [stO, qop, qPick]
  cases ev (tg l) c with
  | bool z => cases z <;> rfl
  | _ => rfl
theorem stO_un {o : UnOp} {t : TypeId} {x : Operand} : stO E ow d l b (.unOp o t x) = sQ d l b (qUn o (ev (tg l) x)) := by
  simp only [stO, qop, qUn]
  cases o <;> cases ev (tg l) x <;> rfl
theorem stO_bin {o : BinOp} {t : TypeId} {x y : Operand} {z : _} : stO E ow d l b (.binOp o t x y z) = sQ d l b (qBin E t o (ev (tg l) x) (ev (tg l) y)) := by
  simp only [stO, qop]
  cases qBin E t o (ev (tg l) x) (ev (tg l) y) <;> rfl
theorem stO_field {t : TypeId} {x : Operand} {k : Nat} : stO E ow d l b (.fieldAddr t x k) = sQ d l b (qField (E.fo t k) (ev (tg l) x)) := by
  simp only [stO, qop, qField]
  cases E.fo t k <;> cases ev (tg l) x <;> rfl
theorem stO_load {t : TypeId} {x : Operand} : stO E ow d l b (.load t x) = sQ d l b (qLd E (bg b) (E.ti t) (ev (tg l) x)) := by
  simp only [stO, qop, qLd]
  cases E.ti t with
  | none => rfl
  | some y => simp only; cases qLoad E y (bg b) (ev (tg l) x) <;> rfl
theorem stO_index {t : TypeId} {x i : Operand} : stO E ow d l b (.indexAddr t x i) = sQ d l b (qIndex E t (bg b) (ev (tg l) x) (ev (tg l) i)) := by
  simp only [stO, qop]
  cases qIndex E t (bg b) (ev (tg l) x) (ev (tg l) i) <;> rfl
theorem stO_extract {x : Operand} {i : Nat} : stO E ow d l b (.extract x i) = sQ d l b (qEx (ev (tg l) x) i) := by
  simp only [stO, qop, qEx]
  cases ev (tg l) x with
  | tup vs =>
    simp only
    cases vs[i]? with
    | none => rfl
    | some v => cases v <;> rfl
  | _ => rfl
theorem stO_conv {s t : TypeId} {x : Operand} : stO E ow d l b (.convert s t x) = sQ d l b (qConv (E.io s) (E.io t) (ev (tg l) x)) := by
  simp only [stO, qop, qConv]
  cases E.io s <;> cases E.io t <;> cases ev (tg l) x <;> rfl
theorem stO_box {t : TypeId} {x : Operand} : stO E ow d l b (.box t x) = sB d l b (boxV (ev (tg l) x)) := by
  simp only [stO, qop, sB]
  cases boxV (ev (tg l) x) <;> rfl
theorem stO_alloc {t : TypeId} : stO E ow d l b (.alloc t) = sA d l b (E.ti t) := by
  simp only [stO, qop, sA]
  cases E.ti t <;> rfl
theorem stO_len {x : Operand} {t : TypeId} : stO E ow d l b (.call ⟨.builtin .len, #[x], #[t]⟩) = sQ d l b (qLen (bg b) (E.el t) (ev (tg l) x)) := by
  simp only [stO, qop, qCall, qLen]
  cases E.el t with
  | none => rfl
  | some e =>
    simp only
    cases ev (tg l) x with
    | ref i =>
      simp only
      cases bg b i with
      | none => rfl
      | some x => cases x <;> rfl
    | _ => rfl
theorem stO_call {f : FuncId} {as : Array Operand} {ts : Array TypeId} : stO E ow d l b (.call ⟨.value (.func f), as, ts⟩) = sC f b (argPtr (as.toList.map (ev (tg l)))) (as.toList.map (ev (tg l))) (memIn b (argPtr (as.toList.map (ev (tg l))))) := by
  simp only [stO, sC]
  cases memIn b (argPtr (as.toList.map (ev (tg l)))) <;> rfl
end
theorem qUn_not {x : Bool} : qUn .not (.bool x) = some (True, .bool (!x)) := rfl
theorem qUn_neg {k : IntKind} {n : Int} : qUn .neg (.int k n) = some (True, .int k (k.wrap (0 - n))) := rfl
theorem qPick_true {x y : V} : qPick (.bool true) x y = some (True, x) := rfl
theorem qPick_false {x y : V} : qPick (.bool false) x y = some (True, y) := rfl
theorem qField_ptr {f i j o : Nat} : qField (some f) (.ptr i j o) = some (True, .ptr i j (o + f)) := rfl
theorem qField_fat {f o : Nat} {g : Bool} {e : List V} : qField (some f) (.fat g e o) = some (True, .fat g e (o + f)) := rfl
theorem qLd_some {E : Env} {B : Nat → Option Blk} {y : TI} {p : V} : qLd E B (some y) p = qLoad E y B p := rfl
theorem qConv_some {j k k' : IntKind} {n : Int} : qConv (some j) (some k) (.int k' n) = some (True, .int k (k.wrap n)) := rfl
theorem sB_some {d : Nat} {l : TL} {b : BL} {cs : List V} : sB d l b (some cs) = .go True ((d, .ptr (8 * (d + 1)) 0 0) :: l) ((8 * (d + 1), some (.box cs)) :: b) := rfl
theorem sA_some {d : Nat} {l : TL} {b : BL} {y : TI} : sA d l b (some y) = .go True ((d, .ptr (8 * (d + 1)) 0 0) :: l) ((8 * (d + 1), some (.box y.zero)) :: b) := rfl
theorem qLen_sl {B : Nat → Option Blk} {e : TypeId} {f : Bool} {s : Nat} {es : List (List V)} : qLen B (some e) (.sl f s es) = some (True, .int .i64 es.length) := rfl
theorem qLen_nil {B : Nat → Option Blk} {e : TypeId} : qLen B (some e) .nil = some (True, .int .i64 0) := rfl
theorem qLen_ref {B : Nat → Option Blk} {e : TypeId} {i : Nat} : qLen B (some e) (.ref i) = match B i with
    | some (.row _ _ es) => some (True, .int .i64 es.length)
    | _ => none := rfl
theorem sC_some {f : FuncId} {b : BL} {p : Option Nat} {vs : List V} {mem : Option (List V)} : sC f b p vs (some mem) = match viewAs p (bg b) vs with
    | some vargs => .call f vargs mem p
    | none => .bad := rfl
theorem boxV_agg {cs : List V} : boxV (.agg cs) = some cs := rfl
theorem boxV_int {k : IntKind} {n : Int} : boxV (.int k n) = some [.int k n] := rfl
theorem boxV_bool {x : Bool} : boxV (.bool x) = some [.bool x] := rfl
theorem boxV_nil : boxV .nil = some [.nil] := rfl
theorem boxV_sl {f : Bool} {s : Nat} {es : List (List V)} : boxV (.sl f s es) = some [.sl f s es] := rfl
theorem boxV_ref {i : Nat} : boxV (.ref i) = some [.ref i] := rfl
section
variable {E : Env} {t : TypeId} {a c : Int} {k : IntKind} {x y : Bool}
theorem qBin_add : qBin E t .add (.int k a) (.int k c) = some (True, .int k (k.wrap (a + c))) := by simp [qBin]
theorem qBin_sub : qBin E t .sub (.int k a) (.int k c) = some (True, .int k (k.wrap (a - c))) := by simp [qBin]
theorem qBin_mul : qBin E t .mul (.int k a) (.int k c) = some (True, .int k (k.wrap (a * c))) := by simp [qBin]
theorem qBin_quo : qBin E t .quo (.int k a) (.int k c) = some (¬ c = 0, .int k (k.wrap (a.tdiv c))) := by simp [qBin]
theorem qBin_rem : qBin E t .rem (.int k a) (.int k c) = some (¬ c = 0, .int k (a.tmod c)) := by simp [qBin]
theorem qBin_and : qBin E t .and (.int k a) (.int k c) = some (True, .int k (bits .and k a c)) := by simp [qBin]
theorem qBin_or : qBin E t .or (.int k a) (.int k c) = some (True, .int k (bits .or k a c)) := by simp [qBin]
theorem qBin_shr {k' : IntKind} : qBin E t .shr (.int k a) (.int k' c) = some (0 ≤ c ∧ c ≤ (k.bits : Int), .int k (a / 2 ^ c.toNat)) := rfl
theorem qBin_shl {k' : IntKind} : qBin E t .shl (.int k a) (.int k' c) = some (0 ≤ c ∧ c ≤ (k.bits : Int), .int k (k.wrap (a * 2 ^ c.toNat))) := rfl
theorem qBin_eql : qBin E t .eql (.int k a) (.int k c) = some (True, .bool (decide (a = c))) := by simp [qBin, ibeq]
theorem qBin_neq : qBin E t .neq (.int k a) (.int k c) = some (True, .bool (!decide (a = c))) := by simp [qBin, ibne]
theorem qBin_lss : qBin E t .lss (.int k a) (.int k c) = some (True, .bool (decide (a < c))) := by simp [qBin]
theorem qBin_leq : qBin E t .leq (.int k a) (.int k c) = some (True, .bool (decide (a ≤ c))) := by simp [qBin]
theorem qBin_gtr : qBin E t .gtr (.int k a) (.int k c) = some (True, .bool (decide (a > c))) := by simp [qBin]
theorem qBin_geq : qBin E t .geq (.int k a) (.int k c) = some (True, .bool (decide (a ≥ c))) := by simp [qBin]
theorem qBin_beq : qBin E t .eql (.bool x) (.bool y) = some (E.bo t = true, .bool (x == y)) := rfl
theorem qBin_bne : qBin E t .neq (.bool x) (.bool y) = some (E.bo t = true, .bool (x != y)) := rfl
end
theorem qEx_tup {vs : List V} {i : Nat} : qEx (.tup vs) i = match vs[i]? with
    | some (.tup _) => none
    | some v => some (True, v)
    | none => none := rfl
theorem keepT_nil {l : TL} : keepT l [] = [] := rfl
theorem keepT_cons {l : TL} {t : Nat} {ts : List Nat} : keepT l (t :: ts) = (t, tg l t) :: keepT l ts := rfl
theorem keepB_nil {l : BL} : keepB l [] = [] := rfl
theorem keepB_cons {l : BL} {t : Nat} {ts : List Nat} : keepB l (t :: ts) = (t, bg l t) :: keepB l ts := rfl
/-- a box of one's own, and a pointer into it -/
theorem qLoad_box0 {E : Env} {s n : Nat} {z : List V} {B : Nat → Option Blk} {i o : Nat} : qLoad E ⟨s, false, n, z⟩ B (.ptr i 0 o) = match B i with
    | some (.box cs) => match cs[o]? with
      | some v => some (True, unc v)
      | none => none
    | some (.row e s' es) => match E.ti e with
      | some y => some (0 < es.length ∧ o < s', rt true ((es.getD 0 y.zero).getD o .und))
      | none => none
    | none => none := by
  simp only [qLoad]
  rcases B i with _ | x
  · rfl
  · cases x <;> rfl
end Go.Proofs.YtfakhgopbhnocaaVM
namespace Go.Proofs.YtfakhgopbhnocaaVM
open Go

def allT : TL → (Nat → V) → Prop
  | [], _ => True
  | (d, v) :: l, T => T d = v ∧ allT l T
def allB : BL → (Nat → Option Blk) → Prop
  | [], _ => True
  | (d, v) :: l, T => T d = v ∧ allB l T
/-- the state holds these -/
def At (l : TL) (b : BL) (S : AS) : Prop := allT l S.T ∧ allB b S.B
theorem allT_spec : ∀ (l : TL) (T : Nat → V), allT l T → ∀ t, tg l t = T t ∨ tg l t = .und
  | [], _, _, t => .inr rfl
  | (d, v) :: l, T, h, t => by
    simp only [tg]
    cases hd : d == t
    · exact allT_spec l T h.2 t
    · have : d = t := by simpa using hd
      subst this; exact .inl h.1.symm
theorem allB_spec : ∀ (l : BL) (T : Nat → Option Blk), allB l T → ∀ t, bg l t = T t ∨ bg l t = none
  | [], _, _, t => .inr rfl
  | (d, v) :: l, T, h, t => by
    simp only [bg]
    cases hd : d == t
    · exact allB_spec l T h.2 t
    · have : d = t := by simpa using hd
      subst this; exact .inl h.1.symm
theorem allT_keep (l : TL) : ∀ ts, allT (keepT l ts) (tg l)
  | [] => trivial
  | t :: ts => ⟨rfl, allT_keep l ts⟩
theorem allB_keep (l : BL) : ∀ ts, allB (keepB l ts) (bg l)
  | [] => trivial
  | t :: ts => ⟨rfl, allB_keep l ts⟩
theorem At_keep {l : TL} {b : BL} (ts bs : List Nat) : At (keepT l ts) (keepB b bs) ⟨tg l, bg b⟩ := ⟨allT_keep l ts, allB_keep b bs⟩
section
variable {E : Env} {N : Nat} {l : TL} {b : BL} {Q : Exit → AS → Prop}
theorem AW_at {c : Code} {S : AS} (h : At l b S) (h1 : AL E N c l b Q) : AW E N c S Q := AW_forget (S := S) _ _ (allT_spec l _ h.1) (allB_spec b _ h.2) h1
theorem AL_cut {c : Code} (J : AS → Prop) (h1 : AL E N c l b (thenQ J Q)) (h2 : ∀ S, J S → Q .normal S) : AL E N c l b Q := AW_mono h1 fun e S h => by
  cases e with
  | normal => exact h2 S h
  | _ => exact h
theorem AL_then {x : Operand} {c d : Code} (hc : ev (tg l) x = .bool true) (h : AL E N c l b Q) : AL E N (.cond x c d) l b Q := AW_cond (S := ⟨tg l, bg b⟩) hc (fun _ => h) (fun h => by cases h)
theorem AL_else {x : Operand} {c d : Code} (hc : ev (tg l) x = .bool false) (h : AL E N d l b Q) : AL E N (.cond x c d) l b Q := AW_cond (S := ⟨tg l, bg b⟩) hc (fun h => by cases h) (fun _ => h)
theorem AL_skip (h : Q .normal ⟨tg l, bg b⟩) : AL E N .skip l b Q := AW_skip h
theorem AL_exit {id : Nat} (h : Q (.exit id) ⟨tg l, bg b⟩) : AL E N (.exit id) l b Q := AW_exit h
theorem AL_block {id : Nat} {c : Code} (h : AL E N c l b (blockQ id Q)) : AL E N (.block id c) l b Q := AW_block h
theorem AL_loop {c : Code} (R : Nat → AS → Prop) {n : Nat} (h0 : R n ⟨tg l, bg b⟩) (round : ∀ n S, R n S → AW E N c S (thenQ (fun S' => ∃ m, m < n ∧ R m S') Q)) : AL E N (.loop c) l b Q := AW_loop R h0 round
theorem AL_end {rs : List RV} {ids : List Nat} {us : Nat → Value} {mem : Option (List V)} {res : V} {rows : List RowD} {mem' : Option (List V)} (h : retF E rs ids l b us mem res rows mem') : RetQ E rs ids us mem res rows mem' .normal ⟨tg l, bg b⟩ := retF_spec (.inl rfl) h
end

theorem AL_again {R : Nat → AS → Prop} {n m : Nat} {Q : Exit → AS → Prop} {S : AS} (h : m < n) (hR : R m S) : thenQ (fun S' => ∃ m, m < n ∧ R m S') Q .normal S := ⟨m, h, hR⟩
theorem blockQ_n {id : Nat} {Q : Exit → AS → Prop} {S : AS} (h : Q .normal S) : blockQ id Q .normal S := h
theorem blockQ_hit {id : Nat} {Q : Exit → AS → Prop} {S : AS} (h : Q .normal S) : blockQ id Q (.exit id) S := by simp [blockQ, h]
theorem blockQ_miss {id k : Nat} {Q : Exit → AS → Prop} {S : AS} (hk : (k == id) = false) (h : Q (.exit k) S) : blockQ id Q (.exit k) S := by
  have : ¬ k = id := by simpa using hk
  simp [blockQ, this, h]
theorem thenQ_x {k : Nat} {f : AS → Prop} {Q : Exit → AS → Prop} {S : AS} (h : Q (.exit k) S) : thenQ f Q (.exit k) S := h
theorem AL_meet {J : AS → Prop} {Q : Exit → AS → Prop} {S : AS} (h : J S) : thenQ J Q .normal S := h

/-! ### what a printed function's answer tells -/
theorem ite_or {α : Type} {p : Prop} [Decidable p] {A B : Option α} {r : α} (h : (if p then A else B) = some r) : (p ∧ A = some r) ∨ (¬ p ∧ B = some r) := by
  by_cases hp : p
  · rw [if_pos hp] at h; exact .inl ⟨hp, h⟩
  · rw [if_neg hp] at h; exact .inr ⟨hp, h⟩
theorem ite_l {α : Type} {p : Prop} [Decidable p] {A : Option α} {r : α} (h : (if p then A else none) = some r) : p ∧ A = some r := (ite_or h).elim id fun h => by cases h.2
theorem ite_r {α : Type} {p : Prop} [Decidable p] {A : Option α} {r : α} (h : (if p then none else A) = some r) : ¬ p ∧ A = some r := (ite_or h).elim (fun h => by cases h.2) id
theorem bind_or {α β : Type} {o : Option α} {f : α → Option β} {r : β} (h : o.bind f = some r) : ∃ x, o = some x ∧ f x = some r := by
  cases o with
  | none => cases h
  | some x => exact ⟨x, rfl, h⟩

/-! ### rows of whole numbers -/
def mkI (n : Int) : List V := [.int .i64 n]
def mkB (n : Int) : List V := [.int .u8 n]
theorem mkI_eq (n : Int) : mkI n = [.int .i64 n] := rfl
theorem mkB_eq (n : Int) : mkB n = [.int .u8 n] := rfl
theorem getD_map {α β : Type} (f : α → β) (xs : List α) (i : Nat) (d : α) : (xs.map f).getD i (f d) = f (xs.getD i d) := by
  simp only [List.getD_eq_getElem?_getD, List.getElem?_map]
  cases xs[i]? <;> rfl
/-- a row out of a list -/
def mp {α : Type} (f : α → List V) (xs : List α) : List (List V) := xs.map f
theorem mp_length {α : Type} (f : α → List V) (xs : List α) : (mp f xs).length = xs.length := by simp [mp]
theorem mp_app {α : Type} (f : α → List V) (xs ys : List α) : mp f xs ++ mp f ys = mp f (xs ++ ys) := by simp [mp]
theorem mp_ne {α : Type} (f : α → List V) (xs : List α) : (mp f xs = []) = (xs = []) := by simp [mp]
theorem mp_getD {α : Type} (f : α → List V) (xs : List α) (i : Nat) (d : α) : (mp f xs).getD i (f d) = f (xs.getD i d) := getD_map f xs i d
theorem mp_set {α : Type} (f : α → List V) (xs : List α) (i : Nat) (d : α) : (mp f xs).set i (f d) = mp f (xs.set i d) := by simp [mp]
theorem mp_zero {α : Type} (f : α → List V) (n : Nat) (d : α) : List.replicate n (f d) = mp f (List.replicate n d) := by simp [mp]
theorem rowI_one (n : Int) : [[V.int .i64 n]] = mp mkI [n] := rfl
theorem rowI_zero (n : Nat) : List.replicate n [V.int .i64 0] = mp mkI (List.replicate n (0 : Int)) := by simp [mp, mkI]
end Go.Proofs.YtfakhgopbhnocaaVM
