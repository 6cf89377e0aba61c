/- Rules by which runs are reckoned. -/
import Derived.Test.YtfakhgopbhnocaaPFnEstimatesx0
import Derived.Test.YtfakhgopbhnocaaVE
set_option linter.unusedVariables false
set_option linter.unusedSimpArgs false
namespace Go.Proofs.Ytfakhgopbhnocaa.PFnEstimates
open Go Go.Proofs.YtfakhgopbhnocaaVM Go.Proofs.Ytfakhgopbhnocaa.VE Go.RowKit Go.Proofs.YtfakhgopbhnocaaW.PrintWords Go.Proofs.YtfakhgopbhnocaaW.PrintLast Go.Proofs.YtfakhgopbhnocaaW.PrintMore
theorem ti_3 : E.ti 3 = some ⟨1, false, 8, [V.int .i64 0]⟩ := rfl
theorem ti_5 : E.ti 5 = some ⟨1, false, 1, [V.int .u8 0]⟩ := rfl
theorem ti_22 : E.ti 22 = some ⟨1, false, 24, [V.nil]⟩ := rfl
theorem ti_24 : E.ti 24 = some ⟨3, true, 24, [V.int .i64 0, V.int .i64 0, V.int .i64 0]⟩ := rfl
theorem ti_25 : E.ti 25 = some ⟨1, false, 24, [V.nil]⟩ := rfl
theorem ti_27 : E.ti 27 = some ⟨6, true, 96, [V.int .i64 0, V.int .i64 0, V.int .i64 0, V.nil, V.nil, V.nil]⟩ := rfl
theorem ti_68 : E.ti 68 = some ⟨5, true, 40, [V.int .i64 0, V.int .i64 0, V.int .i64 0, V.int .i64 0, V.int .i64 0]⟩ := rfl
theorem ti_127 : E.ti 127 = some ⟨1, false, 8, [V.int .u64 0]⟩ := rfl
theorem ti_129 : E.ti 129 = some ⟨3, true, 40, [V.nil, V.int .i64 0, V.int .u64 0]⟩ := rfl
theorem el_22 : E.el 22 = some 5 := rfl
theorem el_25 : E.el 25 = some 3 := rfl
theorem el_32 : E.el 32 = some 25 := rfl
theorem el_60 : E.el 60 = some 68 := rfl
theorem el_205 : E.el 205 = some 24 := rfl
theorem fo_24_0 : E.fo 24 0 = some 0 := rfl
theorem fo_24_1 : E.fo 24 1 = some 1 := rfl
theorem fo_24_2 : E.fo 24 2 = some 2 := rfl
theorem fo_27_0 : E.fo 27 0 = some 0 := rfl
theorem fo_27_1 : E.fo 27 1 = some 3 := rfl
theorem fo_27_2 : E.fo 27 2 = some 4 := rfl
theorem fo_27_3 : E.fo 27 3 = some 5 := rfl
theorem fo_68_0 : E.fo 68 0 = some 0 := rfl
theorem fo_68_1 : E.fo 68 1 = some 1 := rfl
theorem fo_68_2 : E.fo 68 2 = some 2 := rfl
theorem fo_68_3 : E.fo 68 3 = some 3 := rfl
theorem fo_68_4 : E.fo 68 4 = some 4 := rfl
theorem fo_129_0 : E.fo 129 0 = some 0 := rfl
theorem fo_129_1 : E.fo 129 1 = some 1 := rfl
theorem fo_129_2 : E.fo 129 2 = some 2 := rfl
theorem bo_4 : E.bo 4 = true := rfl
theorem io_3 : E.io 3 = some .i64 := rfl
theorem io_5 : E.io 5 = some .u8 := rfl
theorem io_127 : E.io 127 = some .u64 := rfl
theorem pl_24 : E.pl 24 = some [(0, 1), (1, 1), (2, 1)] := rfl
theorem pl_27 : E.pl 27 = some [(0, 3), (3, 1), (4, 1), (5, 1)] := rfl
theorem pl_68 : E.pl 68 = some [(0, 1), (1, 1), (2, 1), (3, 1), (4, 1)] := rfl
theorem pl_129 : E.pl 129 = some [(0, 1), (1, 1), (2, 1)] := rfl
theorem eqs_24 : E.eqs 24 = some 3 := rfl
theorem loud_6 : E.loud 6 = false := rfl
theorem loud_36 : E.loud 36 = false := rfl
theorem loud_38 : E.loud 38 = false := rfl
theorem loud_46 : E.loud 46 = false := rfl
theorem loud_50 : E.loud 50 = false := rfl
theorem loud_51 : E.loud 51 = false := rfl
theorem loud_52 : E.loud 52 = false := rfl
theorem loud_53 : E.loud 53 = false := rfl
theorem loud_56 : E.loud 56 = false := rfl
theorem loud_57 : E.loud 57 = false := rfl
theorem loud_58 : E.loud 58 = false := rfl
theorem loud_59 : E.loud 59 = false := rfl
theorem loud_60 : E.loud 60 = false := rfl
theorem loud_61 : E.loud 61 = false := rfl
theorem loud_62 : E.loud 62 = false := rfl
theorem loud_63 : E.loud 63 = false := rfl
theorem loud_64 : E.loud 64 = false := rfl
theorem loud_65 : E.loud 65 = false := rfl
theorem loud_66 : E.loud 66 = false := rfl
theorem loud_67 : E.loud 67 = false := rfl
theorem loud_68 : E.loud 68 = false := rfl
theorem loud_69 : E.loud 69 = false := rfl
theorem loud_70 : E.loud 70 = false := rfl
theorem loud_71 : E.loud 71 = false := rfl
theorem loud_96 : E.loud 96 = true := rfl
theorem loud_97 : E.loud 97 = false := rfl
theorem loud_100 : E.loud 100 = false := rfl
theorem loud_103 : E.loud 103 = false := rfl
theorem loud_105 : E.loud 105 = false := rfl
theorem loud_108 : E.loud 108 = false := rfl
theorem loud_109 : E.loud 109 = false := rfl
theorem loud_110 : E.loud 110 = true := rfl
theorem loud_111 : E.loud 111 = true := rfl
theorem loud_112 : E.loud 112 = false := rfl
theorem loud_118 : E.loud 118 = false := rfl
theorem loud_119 : E.loud 119 = false := rfl
theorem loud_120 : E.loud 120 = false := rfl
theorem loud_121 : E.loud 121 = false := rfl
theorem loud_122 : E.loud 122 = false := rfl
theorem loud_123 : E.loud 123 = false := rfl
theorem loud_124 : E.loud 124 = false := rfl
theorem loud_125 : E.loud 125 = false := rfl
theorem loud_127 : E.loud 127 = false := rfl
theorem loud_128 : E.loud 128 = false := rfl
theorem loud_129 : E.loud 129 = false := rfl
theorem loud_130 : E.loud 130 = false := rfl
theorem loud_131 : E.loud 131 = false := rfl
theorem loud_132 : E.loud 132 = false := rfl
theorem loud_133 : E.loud 133 = true := rfl
theorem loud_134 : E.loud 134 = false := rfl
theorem loud_135 : E.loud 135 = false := rfl
theorem loud_136 : E.loud 136 = true := rfl
theorem loud_137 : E.loud 137 = true := rfl
theorem loud_138 : E.loud 138 = false := rfl
theorem loud_139 : E.loud 139 = false := rfl
theorem loud_140 : E.loud 140 = false := rfl
theorem loud_141 : E.loud 141 = false := rfl
theorem loud_142 : E.loud 142 = false := rfl
theorem loud_143 : E.loud 143 = false := rfl
theorem loud_144 : E.loud 144 = false := rfl
theorem loud_145 : E.loud 145 = true := rfl
theorem loud_177 : E.loud 177 = false := rfl
theorem loud_178 : E.loud 178 = true := rfl
theorem loud_180 : E.loud 180 = false := rfl
theorem loud_183 : E.loud 183 = true := rfl
theorem loud_184 : E.loud 184 = false := rfl
theorem loud_185 : E.loud 185 = false := rfl
theorem loud_186 : E.loud 186 = true := rfl
theorem loud_187 : E.loud 187 = false := rfl
theorem loud_188 : E.loud 188 = false := rfl
theorem loud_189 : E.loud 189 = true := rfl
theorem loud_190 : E.loud 190 = false := rfl
theorem loud_191 : E.loud 191 = false := rfl
theorem loud_192 : E.loud 192 = false := rfl
theorem loud_193 : E.loud 193 = false := rfl
theorem loud_194 : E.loud 194 = false := rfl
theorem loud_195 : E.loud 195 = false := rfl
theorem i64w (n : Int) : IntKind.i64.wrap n = wrap64 n := by unfold wrap64; exact IntKind.wrap_i64 n
theorem td_60 (x : Int) : Int.tdiv 60 x = 60 / x := Int.tdiv_eq_ediv_of_nonneg (by decide)
theorem wl {a : Int} (h0 : -9223372036854775808 ≤ a) (h1 : a ≤ 9223372036854775807) : wrap64 a = a := by unfold wrap64; omega
theorem mx_rule (x y : Int) : (if x < y then y else x) = mx x y := rfl
theorem mn_rule (x y : Int) : (if y < x then y else x) = mn x y := rfl
theorem rowI_get (xs : List Int) (i : Int) : (mp mkI xs).getD i.toNat [.int .i64 0] = [.int .i64 (rd xs i)] := getD_map mkI xs i.toNat 0
theorem rowB_get (xs : List Int) (i : Int) : (mp mkB xs).getD i.toNat [.int .u8 0] = [.int .u8 (rd xs i)] := getD_map mkB xs i.toNat 0
def mkS68 (x : S68) : List V := [.int .i64 x.f0, .int .i64 x.f1, .int .i64 x.f2, .int .i64 x.f3, .int .i64 x.f4]
theorem mkS68_eq (x : S68) : mkS68 x = [.int .i64 x.f0, .int .i64 x.f1, .int .i64 x.f2, .int .i64 x.f3, .int .i64 x.f4] := rfl
theorem rowS68_get (xs : List S68) (i : Int) : (mp mkS68 xs).getD i.toNat [.int .i64 0, .int .i64 0, .int .i64 0, .int .i64 0, .int .i64 0] = mkS68 (rd_T68 xs i) := getD_map mkS68 xs i.toNat z68
theorem rowS68_one (a0 : Int) (a1 : Int) (a2 : Int) (a3 : Int) (a4 : Int) : [[.int .i64 a0, .int .i64 a1, .int .i64 a2, .int .i64 a3, .int .i64 a4]] = mp mkS68 [(⟨a0, a1, a2, a3, a4⟩ : S68)] := rfl
theorem rowS68_cons (a0 : Int) (a1 : Int) (a2 : Int) (a3 : Int) (a4 : Int) (ys : List S68) : [.int .i64 a0, .int .i64 a1, .int .i64 a2, .int .i64 a3, .int .i64 a4] :: mp mkS68 ys = mp mkS68 ((⟨a0, a1, a2, a3, a4⟩ : S68) :: ys) := rfl
theorem rowS68_len (xs : List S68) : (∀ e ∈ mp mkS68 xs, e.length = 5) = True := eq_true (by simp [mp, mkS68])
def mkS24 (x : S24) : List V := [.int .i64 x.f0, .int .i64 x.f1, .int .i64 x.f2]
theorem mkS24_eq (x : S24) : mkS24 x = [.int .i64 x.f0, .int .i64 x.f1, .int .i64 x.f2] := rfl
theorem rowS24_get (xs : List S24) (i : Int) : (mp mkS24 xs).getD i.toNat [.int .i64 0, .int .i64 0, .int .i64 0] = mkS24 (rd_T24 xs i) := getD_map mkS24 xs i.toNat z24
theorem rowS24_one (a0 : Int) (a1 : Int) (a2 : Int) : [[.int .i64 a0, .int .i64 a1, .int .i64 a2]] = mp mkS24 [(⟨a0, a1, a2⟩ : S24)] := rfl
theorem rowS24_cons (a0 : Int) (a1 : Int) (a2 : Int) (ys : List S24) : [.int .i64 a0, .int .i64 a1, .int .i64 a2] :: mp mkS24 ys = mp mkS24 ((⟨a0, a1, a2⟩ : S24) :: ys) := rfl
theorem rowS24_len (xs : List S24) : (∀ e ∈ mp mkS24 xs, e.length = 3) = True := eq_true (by simp [mp, mkS24])
def mkL (x : List Int) : List V := [.sl true 1 (mp mkI x)]
theorem mkL_eq (x : List Int) : mkL x = [.sl true 1 (mp mkI x)] := rfl
theorem rowL_one (x : List Int) : [[V.sl true 1 (mp mkI x)]] = mp mkL [x] := rfl
theorem rowL_cons (x : List Int) (ys : List (List Int)) : [V.sl true 1 (mp mkI x)] :: mp mkL ys = mp mkL (x :: ys) := rfl
theorem rowL_len (xs : List (List Int)) : (∀ e ∈ mp mkL xs, e.length = 1) = True := eq_true (by simp [mp, mkL])
theorem rg0 (ts bs : List Nat) {E : Env} {N : Nat} {l : TL} {b : BL} {Q : Exit → AS → Prop} {id : Nat} {ops : List Oper} {draw : Bool} {P : (TL → BL → Prop) → Prop}
    (h : ∀ K : TL → BL → Prop, P K → runF E ⟨[], [], []⟩ [] [] ops l b (fun l b => K (keepT l ts) (keepB b bs))) (h2 : P (fun l b => Q .normal ⟨tg l, bg b⟩)) (hok : regOK E N ⟨[], [], []⟩ ops.toArray = true := by kernel_rfl) (hgd : lookOK ops [] = true := by kernel_rfl) (hf : freshB ops l b = true := by kernel_rfl) : AL E N (.region id ops.toArray draw) l b Q :=
  AL_region ts bs [] ⟨[], [], []⟩ [] hok hgd hf h h2
theorem rg1 (ts bs : List Nat) (gd : List (Nat × Nat)) {E : Env} {N : Nat} {l : TL} {b : BL} {Q : Exit → AS → Prop} {id : Nat} {ops : List Oper} {draw : Bool} {P : (TL → BL → Prop) → Prop}
    (h : ∀ K : TL → BL → Prop, P K → runF E ⟨[], [], []⟩ gd [] ops l b (fun l b => K (keepT l ts) (keepB b bs))) (h2 : P (fun l b => Q .normal ⟨tg l, bg b⟩)) (hok : regOK E N ⟨[], [], []⟩ ops.toArray = true := by kernel_rfl) (hgd : lookOK ops gd = true := by kernel_rfl) (hf : freshB ops l b = true := by kernel_rfl) : AL E N (.region id ops.toArray draw) l b Q :=
  AL_region ts bs [] ⟨[], [], []⟩ gd hok hgd hf h h2
theorem rg2 (ts bs ow : List Nat) (fl : Fl) (gd : List (Nat × Nat)) {E : Env} {N : Nat} {l : TL} {b : BL} {Q : Exit → AS → Prop} {id : Nat} {ops : List Oper} {draw : Bool} {P : (TL → BL → Prop) → Prop}
    (h : ∀ K : TL → BL → Prop, P K → runF E fl gd ow ops l b (fun l b => K (keepT l ts) (keepB b bs))) (h2 : P (fun l b => Q .normal ⟨tg l, bg b⟩)) (hok : regOK E N fl ops.toArray = true := by kernel_rfl) (hgd : lookOK ops gd = true := by kernel_rfl) (hf : freshB ops l b = true := by kernel_rfl) : AL E N (.region id ops.toArray draw) l b Q :=
  AL_region ts bs ow fl gd hok hgd hf h h2
theorem ite_orb {α : Type} {b : Bool} {A B : Option α} {r : α} (h : (if b = true then A else B) = some r) : (b = true ∧ A = some r) ∨ (b = false ∧ B = some r) := by
  cases b
  · exact .inr ⟨rfl, h⟩
  · exact .inl ⟨rfl, h⟩
theorem ite_lb {α : Type} {b : Bool} {A : Option α} {r : α} (h : (if b = true then A else none) = some r) : b = true ∧ A = some r := ite_l h
theorem ite_rb {α : Type} {b : Bool} {A : Option α} {r : α} (h : (if b = true then none else A) = some r) : b = false ∧ A = some r := ⟨Bool.of_not_eq_true (ite_r h).1, (ite_r h).2⟩
theorem ite_orp {α : Type} {p : Prop} [Decidable p] {A B : Option α} {r : α} (h : (if p then A else B) = some r) : (p = True ∧ A = some r) ∨ (p = False ∧ B = some r) := (ite_or h).imp (fun h => ⟨eq_true h.1, h.2⟩) (fun h => ⟨eq_false h.1, h.2⟩)
theorem ite_lp {α : Type} {p : Prop} [Decidable p] {A : Option α} {r : α} (h : (if p then A else none) = some r) : p = True ∧ A = some r := ⟨eq_true (ite_l h).1, (ite_l h).2⟩
theorem ite_rp {α : Type} {p : Prop} [Decidable p] {A : Option α} {r : α} (h : (if p then none else A) = some r) : p = False ∧ A = some r := ⟨eq_false (ite_r h).1, (ite_r h).2⟩
end Go.Proofs.Ytfakhgopbhnocaa.PFnEstimates
