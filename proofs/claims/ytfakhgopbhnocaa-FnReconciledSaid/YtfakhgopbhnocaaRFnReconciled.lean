/- Rules by which runs are reckoned. -/
import Derived.Test.YtfakhgopbhnocaaPFnReconciledx0
import Derived.Test.YtfakhgopbhnocaaVE
set_option linter.unusedVariables false
set_option linter.unusedSimpArgs false
namespace Go.Proofs.Ytfakhgopbhnocaa.PFnReconciled
open Go Go.Proofs.YtfakhgopbhnocaaVM Go.Proofs.Ytfakhgopbhnocaa.VE Go.RowKit Go.Proofs.YtfakhgopbhnocaaW.PrintWords Go.Proofs.YtfakhgopbhnocaaW.PrintLast Go.Proofs.YtfakhgopbhnocaaW.PrintMore
theorem ti_3 : E.ti 3 = some ⟨1, false, 8, [V.int .i64 0]⟩ := rfl
theorem ti_5 : E.ti 5 = some ⟨1, false, 1, [V.int .u8 0]⟩ := rfl
theorem ti_22 : E.ti 22 = some ⟨1, false, 24, [V.nil]⟩ := rfl
theorem ti_24 : E.ti 24 = some ⟨3, true, 24, [V.int .i64 0, V.int .i64 0, V.int .i64 0]⟩ := rfl
theorem ti_25 : E.ti 25 = some ⟨1, false, 24, [V.nil]⟩ := rfl
theorem ti_27 : E.ti 27 = some ⟨6, true, 96, [V.int .i64 0, V.int .i64 0, V.int .i64 0, V.nil, V.nil, V.nil]⟩ := rfl
theorem ti_68 : E.ti 68 = some ⟨5, true, 40, [V.int .i64 0, V.int .i64 0, V.int .i64 0, V.int .i64 0, V.int .i64 0]⟩ := rfl
theorem ti_127 : E.ti 127 = some ⟨1, false, 8, [V.int .u64 0]⟩ := rfl
theorem ti_129 : E.ti 129 = some ⟨3, true, 40, [V.nil, V.int .i64 0, V.int .u64 0]⟩ := rfl
theorem el_22 : E.el 22 = some 5 := rfl
theorem el_25 : E.el 25 = some 3 := rfl
theorem el_32 : E.el 32 = some 25 := rfl
theorem el_60 : E.el 60 = some 68 := rfl
theorem el_205 : E.el 205 = some 24 := rfl
theorem fo_24_0 : E.fo 24 0 = some 0 := rfl
theorem fo_24_1 : E.fo 24 1 = some 1 := rfl
theorem fo_24_2 : E.fo 24 2 = some 2 := rfl
theorem fo_27_0 : E.fo 27 0 = some 0 := rfl
theorem fo_27_1 : E.fo 27 1 = some 3 := rfl
theorem fo_27_2 : E.fo 27 2 = some 4 := rfl
theorem fo_27_3 : E.fo 27 3 = some 5 := rfl
theorem fo_68_0 : E.fo 68 0 = some 0 := rfl
theorem fo_68_1 : E.fo 68 1 = some 1 := rfl
theorem fo_68_2 : E.fo 68 2 = some 2 := rfl
theorem fo_68_3 : E.fo 68 3 = some 3 := rfl
theorem fo_68_4 : E.fo 68 4 = some 4 := rfl
theorem fo_129_0 : E.fo 129 0 = some 0 := rfl
theorem fo_129_1 : E.fo 129 1 = some 1 := rfl
theorem fo_129_2 : E.fo 129 2 = some 2 := rfl
theorem bo_4 : E.bo 4 = true := rfl
theorem io_3 : E.io 3 = some .i64 := rfl
theorem io_5 : E.io 5 = some .u8 := rfl
theorem io_127 : E.io 127 = some .u64 := rfl
theorem pl_24 : E.pl 24 = some [(0, 1), (1, 1), (2, 1)] := rfl
theorem pl_27 : E.pl 27 = some [(0, 3), (3, 1), (4, 1), (5, 1)] := rfl
theorem pl_68 : E.pl 68 = some [(0, 1), (1, 1), (2, 1), (3, 1), (4, 1)] := rfl
theorem pl_129 : E.pl 129 = some [(0, 1), (1, 1), (2, 1)] := rfl
theorem eqs_24 : E.eqs 24 = some 3 := rfl
theorem loud_3 : E.loud 3 = false := rfl
theorem loud_8 : E.loud 8 = false := rfl
theorem loud_9 : E.loud 9 = false := rfl
theorem loud_10 : E.loud 10 = false := rfl
theorem loud_11 : E.loud 11 = false := rfl
theorem loud_12 : E.loud 12 = false := rfl
theorem loud_13 : E.loud 13 = false := rfl
theorem loud_14 : E.loud 14 = false := rfl
theorem loud_15 : E.loud 15 = false := rfl
theorem loud_16 : E.loud 16 = false := rfl
theorem loud_17 : E.loud 17 = false := rfl
theorem loud_18 : E.loud 18 = false := rfl
theorem loud_19 : E.loud 19 = false := rfl
theorem loud_20 : E.loud 20 = false := rfl
theorem loud_21 : E.loud 21 = false := rfl
theorem loud_22 : E.loud 22 = false := rfl
theorem loud_34 : E.loud 34 = false := rfl
theorem loud_36 : E.loud 36 = false := rfl
theorem loud_94 : E.loud 94 = true := rfl
theorem loud_95 : E.loud 95 = true := rfl
theorem loud_96 : E.loud 96 = true := rfl
theorem loud_97 : E.loud 97 = false := rfl
theorem loud_98 : E.loud 98 = false := rfl
theorem loud_99 : E.loud 99 = false := rfl
theorem loud_100 : E.loud 100 = false := rfl
theorem loud_101 : E.loud 101 = false := rfl
theorem loud_102 : E.loud 102 = false := rfl
theorem loud_103 : E.loud 103 = false := rfl
theorem loud_104 : E.loud 104 = false := rfl
theorem loud_105 : E.loud 105 = false := rfl
theorem loud_106 : E.loud 106 = false := rfl
theorem loud_107 : E.loud 107 = false := rfl
theorem loud_108 : E.loud 108 = false := rfl
theorem loud_109 : E.loud 109 = false := rfl
theorem loud_110 : E.loud 110 = true := rfl
theorem loud_111 : E.loud 111 = true := rfl
theorem loud_112 : E.loud 112 = false := rfl
theorem loud_117 : E.loud 117 = false := rfl
theorem loud_119 : E.loud 119 = false := rfl
theorem loud_120 : E.loud 120 = false := rfl
theorem loud_121 : E.loud 121 = false := rfl
theorem loud_122 : E.loud 122 = false := rfl
theorem loud_131 : E.loud 131 = false := rfl
theorem loud_136 : E.loud 136 = true := rfl
theorem loud_145 : E.loud 145 = true := rfl
theorem loud_177 : E.loud 177 = false := rfl
theorem loud_178 : E.loud 178 = true := rfl
theorem loud_179 : E.loud 179 = false := rfl
theorem loud_180 : E.loud 180 = false := rfl
theorem loud_181 : E.loud 181 = false := rfl
theorem loud_182 : E.loud 182 = false := rfl
theorem loud_183 : E.loud 183 = true := rfl
theorem loud_184 : E.loud 184 = false := rfl
theorem loud_185 : E.loud 185 = false := rfl
theorem loud_189 : E.loud 189 = true := rfl
theorem i64w (n : Int) : IntKind.i64.wrap n = wrap64 n := by unfold wrap64; exact IntKind.wrap_i64 n
theorem wl {a : Int} (h0 : -9223372036854775808 ≤ a) (h1 : a ≤ 9223372036854775807) : wrap64 a = a := by unfold wrap64; omega
theorem mx_rule (x y : Int) : (if x < y then y else x) = mx x y := rfl
theorem mn_rule (x y : Int) : (if y < x then y else x) = mn x y := rfl
theorem rowI_get (xs : List Int) (i : Int) : (mp mkI xs).getD i.toNat [.int .i64 0] = [.int .i64 (rd xs i)] := getD_map mkI xs i.toNat 0
theorem rowB_get (xs : List Int) (i : Int) : (mp mkB xs).getD i.toNat [.int .u8 0] = [.int .u8 (rd xs i)] := getD_map mkB xs i.toNat 0
def mkS24 (x : S24) : List V := [.int .i64 x.f0, .int .i64 x.f1, .int .i64 x.f2]
theorem mkS24_eq (x : S24) : mkS24 x = [.int .i64 x.f0, .int .i64 x.f1, .int .i64 x.f2] := rfl
theorem rowS24_get (xs : List S24) (i : Int) : (mp mkS24 xs).getD i.toNat [.int .i64 0, .int .i64 0, .int .i64 0] = mkS24 (rd_T24 xs i) := getD_map mkS24 xs i.toNat z24
theorem rowS24_one (a0 : Int) (a1 : Int) (a2 : Int) : [[.int .i64 a0, .int .i64 a1, .int .i64 a2]] = mp mkS24 [(⟨a0, a1, a2⟩ : S24)] := rfl
theorem rowS24_cons (a0 : Int) (a1 : Int) (a2 : Int) (ys : List S24) : [.int .i64 a0, .int .i64 a1, .int .i64 a2] :: mp mkS24 ys = mp mkS24 ((⟨a0, a1, a2⟩ : S24) :: ys) := rfl
theorem rowS24_len (xs : List S24) : (∀ e ∈ mp mkS24 xs, e.length = 3) = True := eq_true (by simp [mp, mkS24])
def mkL (x : List Int) : List V := [.sl true 1 (mp mkI x)]
theorem mkL_eq (x : List Int) : mkL x = [.sl true 1 (mp mkI x)] := rfl
theorem rowL_one (x : List Int) : [[V.sl true 1 (mp mkI x)]] = mp mkL [x] := rfl
theorem rowL_cons (x : List Int) (ys : List (List Int)) : [V.sl true 1 (mp mkI x)] :: mp mkL ys = mp mkL (x :: ys) := rfl
theorem rowL_len (xs : List (List Int)) : (∀ e ∈ mp mkL xs, e.length = 1) = True := eq_true (by simp [mp, mkL])
theorem rowL_get (xs : List (List Int)) (i : Int) (h0 : 0 ≤ i) (h1 : i < (xs.length : Int)) : (mp mkL xs).getD i.toNat [.nil] = [.sl true 1 (mp mkI (rd_L3 xs i))] := by
  have hl : i.toNat < xs.length := by omega
  simp [mp, mkL, rd_L3, hl]
end Go.Proofs.Ytfakhgopbhnocaa.PFnReconciled
