/- Each function's run, shown to compute what its plain function says. -/
import Derived.Test.YtfakhgopbhnocaaVFnHolesp17
import Derived.KernelRfl
set_option linter.unusedVariables false
set_option linter.unusedSimpArgs false
namespace Go.Proofs.Ytfakhgopbhnocaa.PFnHoles
open Go Go.Proofs.YtfakhgopbhnocaaVM Go.Proofs.Ytfakhgopbhnocaa.VE Go.RowKit Go.Proofs.YtfakhgopbhnocaaW.PrintWords Go.Proofs.YtfakhgopbhnocaaW.PrintLast Go.Proofs.YtfakhgopbhnocaaW.PrintMore
attribute [local go_sem] runF_nil runF_cons kG_go kG_store kG_skip kG_pass kS_go kS_call kQ_go flagB_no inFl_some inFl_store hasB_nil hasB_hit hasB_miss flagB_eq clB_no wrB_no clB_yes wrB_store wrB_call opdL_load opdL_index opdL_len nm0_eq nmV_nil nmV_cons pt0_ptr pt0_int pt0_bool pt0_sl pt0_nil pt0_ref pt0_agg guardB_none guardB_some gL_some gB_true gB_false gB_skip look_hit look_miss tg_hit tg_miss bg_hit bg_miss ev_tmp ev_int ev_bool ev_nil ev_agg sQ_some stO_move stO_assign stO_pick stO_un stO_bin stO_field stO_load stO_index stO_extract stO_conv stO_box stO_alloc stO_len stO_call qUn_not qUn_neg qPick_true qPick_false qField_ptr qField_fat qLd_some qConv_some sB_some sA_some qLen_sl qLen_nil boxV_agg boxV_int boxV_bool boxV_nil boxV_sl boxV_ref qBin_add qBin_sub qBin_mul qBin_quo qBin_rem qBin_and qBin_or qBin_shr qBin_shl qBin_eql qBin_neq qBin_lss qBin_leq qBin_gtr qBin_geq qBin_beq qBin_bne qEx_tup keepT_cons keepB_nil keepB_cons keepT_nil qLoad_fat1 qLoad_fat2 qLoad_ptr ldB_box1 ld1_some ldB_box2 ldB_row ldR_1 ldR_2 unc_int unc_bool unc_nil unc_ref unc_sl unc_con_sl unc_con_nil rt_int rt_bool rt_nil rt_sl qIndex_sl ixT_some ixS_some qIndex_ref ixR_some ixR1_some argPtr_nil argPtr_ptr argPtr_int argPtr_bool argPtr_sl argPtr_ref argPtr_nl argPtr_agg memIn_none memIn_some mi1_box mi2_some viewL_int viewL_bool viewL_nil viewL_sl viewL_ref vwR_some cons2_some viewLs_nil viewLs_cons viewAs_nil viewAs_cons viewA_int viewA_bool viewA_nil viewA_sl viewA_ref viewA_agg agg1_some viewA_ptr sC_go sC2_some renT_int renT_bool renT_nil renT_sl renT_agg renT_tup renA_int renA_bool renA_nil renA_sl renA_agg renL_int renL_bool renL_nil renL_sl rowsD_nil memD_none memD_some md1_box mergeL_nil mergeL_int mergeL_bool mergeL_sl mergeL_nl stO_build sP_some sF_some fillV_nil fillV_cons fl1_go stO_nilCheck qNil_ptr stO_min qMin_int stO_max qMax_int stO_make sMe_some sM_some stO_slice sSe_some sS_own sS_fix rowsV_nil rowsV_cons rv1_some rowV_int rowV_bool rowV_nil rowV_sl rowV_agg stO_append sApp_new sApp_on qStore_eq qS2_some qS1_some qApp_eq qA0_some qA1_some qA2_nil qA2_ref stored1_ptr st1_box st1_row setL_nil setL_cons qA3_some absB_t absB_b0 absB_b1 absB_nil noBB_row noBB_box noTB_int noAB_int noLB_int killT_int killA_int killL_int noTB_bool noAB_bool noLB_bool killT_bool killA_bool killL_bool noTB_nil noAB_nil noLB_nil killT_nil killA_nil killL_nil noTB_und noAB_und noLB_und killT_und killA_und killL_und noTB_skip noAB_skip noLB_skip killT_skip killA_skip killL_skip noTB_sl noAB_sl noLB_sl killT_sl killA_sl killL_sl noTB_fat noAB_fat noLB_fat killT_fat killA_fat killL_fat noTB_ref noAB_ref noLB_ref killT_ref0 killT_ref killA_ref0 killA_ref killL_ref0 killL_ref noTB_ptr noAB_ptr noLB_ptr killT_ptr0 killT_ptr killA_ptr0 killA_ptr killL_ptr0 killL_ptr noTB_agg noAB_agg noTB_tup noLB_con_sl noLB_con_nil killT_agg killA_agg killT_tup killL_con_sl killL_con_nil killTL_nil killTL_cons killBL_nil killBL_none killBL_row killBL_box shut1_int shut1_bool shut1_nil shut1_sl scal_int scal_bool known1_int known1_bool known1_nil known1_sl known1_ref opdL_call nm0_func intsOf_nil intsOf_cons qBin_eqA qBin_neA eqA_eq eqA_ne nil_beq renT_ref renA_ref renL_ref rowsD_cons qLen_refR lenR_some tn_lt rowI_getn rowI_set nlit rowI_scal mp_nil rowI_cons rowI_len mkI_eq mkB_eq mp_length mp_app mp_ne rowI_one rowI_zero ibeq ibne true_and and_true and_self decide_true decide_false Bool.not_true Bool.not_false Bool.not_not List.length_map List.length_cons List.length_nil List.getElem?_cons_zero List.getElem?_cons_succ List.drop_zero List.drop_succ_cons List.take_succ_cons List.take_zero List.map_cons List.map_nil List.all_cons List.all_nil Bool.and_true Bool.true_and List.getD_cons_zero List.getD_cons_succ List.set_cons_zero List.set_cons_succ Option.isSome_none Option.isSome_some List.nil_append List.cons_append List.append_eq List.append_nil List.length_append cond_true cond_false ne_eq List.map_eq_nil_iff not_false_eq_true List.cons_ne_nil Bool.true_bne Bool.false_bne Bool.bne_true Bool.bne_false Bool.true_beq Bool.false_beq Int.zero_sub List.cons_beq_cons Option.map_some true_or or_true beq_self_eq_true Nat.zero_lt_succ ti_3 ti_5 ti_22 ti_24 ti_25 ti_27 ti_68 ti_127 ti_129 el_22 el_25 el_32 el_60 el_205 fo_24_0 fo_24_1 fo_24_2 fo_27_0 fo_27_1 fo_27_2 fo_27_3 fo_68_0 fo_68_1 fo_68_2 fo_68_3 fo_68_4 fo_129_0 fo_129_1 fo_129_2 bo_4 io_3 io_5 io_127 pl_24 pl_27 pl_68 pl_129 eqs_24 loud_5 loud_36 loud_38 loud_39 loud_40 loud_41 loud_42 loud_43 loud_44 loud_45 loud_46 loud_47 loud_48 loud_49 loud_50 loud_51 loud_52 loud_53 loud_54 loud_55 loud_96 loud_97 loud_100 loud_103 loud_105 loud_108 loud_110 loud_111 loud_112 loud_118 loud_119 loud_120 loud_121 loud_122 loud_123 loud_124 loud_125 loud_126 loud_127 loud_128 loud_129 loud_130 loud_131 loud_132 loud_133 loud_134 loud_135 loud_136 loud_137 loud_138 loud_139 loud_145 loud_177 loud_178 loud_180 loud_183 loud_184 loud_185 loud_186 loud_187 loud_188 loud_189 loud_190 i64w wl mx_rule mn_rule rowI_get rowB_get mkS68_eq rowS68_get rowS68_one rowS68_cons rowS68_len mkS24_eq rowS24_get rowS24_one rowS24_cons rowS24_len mkL_eq rowL_one rowL_cons rowL_len
/-! laws_FnHoles : 5 -/
set_option maxRecDepth 100000 in
set_option maxHeartbeats 4000000 in
theorem laws_FnHoles.V {k : Nat} {l0 : List Int} {l1 : List Int} {r : Bool} (h : laws_FnHoles.f k l0 l1 = some r) : FnV E 5 [.sl false 1 (mp mkB l0), .sl false 1 (mp mkB l1)] none (.bool r) [] none := by
  refine FnV_list E (rs := [.tmp 4]) Try.func5 (by rfl) rfl Try.ntmps5 rfl [] (by simp) rfl (by simp) rfl (fun us => ?_)
  simp only [argsL, memL, wrapL, wrap1, Nat.reduceAdd]
  unfold laws_FnHoles.f at h
  refine AL_seq ?_
  refine AL_region [0, 1] [] [] ⟨[], [], []⟩ [] (by kernel_rfl) (by kernel_rfl) (by kernel_rfl) (fun K hK => by simp (decide := true) only [go_sem, Nat.reduceAdd, Nat.reduceMul]; exact hK) ?_
  refine AL_seq ?_
  refine AL_seq ?_
  obtain ⟨t689, g1, h⟩ := bind_or h
  refine AL_region [0, 1, 50] [] [] ⟨[], [], []⟩ [] (by kernel_rfl) (by kernel_rfl) (by kernel_rfl) (fun K hK => by simp (decide := true) only [go_sem, Nat.reduceAdd, Nat.reduceMul]; refine ⟨_, _, _, laws_big.V g1, ?_⟩; simp (decide := true) only [go_sem, Nat.reduceAdd, Nat.reduceMul]; exact hK) ?_
  rcases ite_or h with ⟨c2, h⟩ | ⟨c2, h⟩
  ·
    refine AL_then (by simp (decide := true) only [go_sem, Nat.reduceAdd, Nat.reduceMul, c2]) ?_
    refine AL_seq ?_
    refine AL_region [4] [] [] ⟨[], [], []⟩ [] (by kernel_rfl) (by kernel_rfl) (by kernel_rfl) (fun K hK => by simp (decide := true) only [go_sem, Nat.reduceAdd, Nat.reduceMul, c2]; exact hK) ?_
    obtain rfl := Option.some.inj h
    refine AL_ret (fun _ => rfl) ?_
    exact retF_mk rfl (by exact ⟨trivial, trivial⟩) rfl (by exact rfl) (by exact trivial) (by exact trivial)
  ·
    replace c2 := Bool.of_not_eq_true c2
    refine AL_else (by simp (decide := true) only [go_sem, Nat.reduceAdd, Nat.reduceMul, c2]) ?_
    refine AL_skip ?_
    refine AL_seq ?_
    obtain ⟨⟨t690, t691, t692, t693, t696⟩, g3, h⟩ := bind_or h
    dsimp only at h
    refine AL_region [1, 5, 6, 7] [48] [] ⟨[], [], []⟩ [] (by kernel_rfl) (by kernel_rfl) (by kernel_rfl) (fun K hK => by simp (decide := true) only [go_sem, Nat.reduceAdd, Nat.reduceMul, c2]; refine ⟨_, _, _, spec_DrawBlockMean.V g3, ?_⟩; simp (decide := true) only [go_sem, Nat.reduceAdd, Nat.reduceMul, c2]; exact hK) ?_
    refine AL_seq ?_
    obtain ⟨⟨t698, t699, t700⟩, g4, h⟩ := bind_or h
    dsimp only at h
    refine AL_region [1, 5, 6, 7, 8, 9, 10] [48] [] ⟨[], [], []⟩ [] (by kernel_rfl) (by kernel_rfl) (by kernel_rfl) (fun K hK => by simp (decide := true) (maxSteps := 4000000) only [go_sem, Nat.reduceAdd, Nat.reduceMul, c2]; refine ⟨_, _, _, impl_BlockMean.V g4, ?_⟩; simp (decide := true) (maxSteps := 4000000) only [go_sem, Nat.reduceAdd, Nat.reduceMul, c2]; exact hK) ?_
    refine AL_seq ?_
    obtain ⟨⟨t701, t702, t703⟩, g5, h⟩ := bind_or h
    dsimp only at h
    refine AL_region [1, 5, 6, 7, 8, 9, 10, 11, 12, 13] [48] [] ⟨[], [], []⟩ [] (by kernel_rfl) (by kernel_rfl) (by kernel_rfl) (fun K hK => by simp (decide := true) (maxSteps := 4000000) only [go_sem, Nat.reduceAdd, Nat.reduceMul, c2]; refine ⟨_, _, _, spec_BlockMean.V g5, ?_⟩; simp (decide := true) (maxSteps := 4000000) only [go_sem, Nat.reduceAdd, Nat.reduceMul, c2]; exact hK) ?_
    refine AL_seq ?_
    obtain ⟨⟨t704, t707⟩, g6, h⟩ := bind_or h
    dsimp only at h
    refine AL_region [1, 5, 6, 7, 8, 9, 10, 11, 12, 13, 14, 15] [48] [] ⟨[], [], []⟩ [] (by kernel_rfl) (by kernel_rfl) (by kernel_rfl) (fun K hK => by simp (decide := true) only [go_sem, Nat.reduceAdd, Nat.reduceMul, c2]; refine ⟨_, _, _, impl_HolesIn.V g6, ?_⟩; simp (decide := true) only [go_sem, Nat.reduceAdd, Nat.reduceMul, c2]; exact hK) ?_
    refine AL_seq ?_
    obtain ⟨⟨t708, t711⟩, g7, h⟩ := bind_or h
    dsimp only at h
    refine AL_region [1, 5, 6, 7, 8, 9, 10, 11, 12, 13, 14, 15, 16, 17] [48] [] ⟨[], [], []⟩ [] (by kernel_rfl) (by kernel_rfl) (by kernel_rfl) (fun K hK => by simp (decide := true) only [go_sem, Nat.reduceAdd, Nat.reduceMul, c2]; refine ⟨_, _, _, spec_HolesIn.V g7, ?_⟩; simp (decide := true) only [go_sem, Nat.reduceAdd, Nat.reduceMul, c2]; exact hK) ?_
    refine AL_seq ?_
    obtain ⟨⟨t712, t713⟩, g8, h⟩ := bind_or h
    dsimp only at h
    refine AL_region [1, 5, 6, 7, 8, 9, 10, 11, 12, 13, 14, 15, 16, 17, 18, 19] [48] [] ⟨[], [], []⟩ [] (by kernel_rfl) (by kernel_rfl) (by kernel_rfl) (fun K hK => by simp (decide := true) only [go_sem, Nat.reduceAdd, Nat.reduceMul, c2]; refine ⟨_, _, _, impl_AreHoles.V g8, ?_⟩; simp (decide := true) only [go_sem, Nat.reduceAdd, Nat.reduceMul, c2]; exact hK) ?_
    refine AL_seq ?_
    obtain ⟨⟨t714, t715⟩, g9, h⟩ := bind_or h
    dsimp only at h
    refine AL_region [1, 5, 6, 7, 8, 9, 10, 11, 12, 13, 14, 15, 16, 17, 18, 19, 20, 21] [48] [] ⟨[], [], []⟩ [] (by kernel_rfl) (by kernel_rfl) (by kernel_rfl) (fun K hK => by simp (decide := true) only [go_sem, Nat.reduceAdd, Nat.reduceMul, c2]; refine ⟨_, _, _, spec_AreHoles.V g9, ?_⟩; simp (decide := true) only [go_sem, Nat.reduceAdd, Nat.reduceMul, c2]; exact hK) ?_
    refine AL_seq ?_
    refine AL_seq ?_
    refine AL_cut (fun S => (∃ kk : Nat, ∃ x1 : List Int, ∃ x6 : List (S68), ∃ x7 : Int, ∃ x10 : Bool, ∃ x11 : Int, ∃ x12 : Int, ∃ x15 : Bool, ∃ x16 : List Int, ∃ x132 : Bool, ∃ x698000 : Int, ∃ x698001 : Int, ∃ x698002 : Int, kk ≤ k ∧ laws_FnHoles.j0 kk x1 x6 x7 x10 x11 x12 x15 x16 x132 x698000 x698001 x698002 = some r ∧ At [(1, .sl false 1 (mp mkB x1)), (5, .ptr 48 0 0), (6, .sl true 5 (mp mkS68 x6)), (7, .int .i64 x7), (10, .bool x10), (11, .int .i64 x11), (12, .int .i64 x12), (15, .bool x15), (16, .sl true 1 (mp mkI x16)), (132, .bool x132)] [(48, some (.box [.int .i64 x698000, .int .i64 x698001, .int .i64 x698002]))] S)) ?_ ?_
    ·
      rcases ite_or h with ⟨c10, h⟩ | ⟨c10, h⟩
      ·
        try simp only [ibeq, ibne, Bool.true_bne, Bool.false_bne, Bool.bne_true, Bool.bne_false, Bool.true_beq, Bool.false_beq, Bool.not_eq_true', Bool.not_eq_false', c2] at c10
        refine AL_region [1, 5, 6, 7, 10, 11, 12, 15, 16, 132] [48] [] ⟨[], [], []⟩ [(3, 102), (8, 107), (13, 112), (18, 117), (24, 123), (29, 128)] (by kernel_rfl) (by kernel_rfl) (by kernel_rfl) (fun K hK => by simp (decide := true) (maxSteps := 4000000) only [go_sem, Nat.reduceAdd, Nat.reduceMul, c2, c10]; exact hK) ?_
        refine AL_meet ?_
        exact ⟨_, _, _, _, _, _, _, _, _, _, _, _, _, by omega, h, At_keep [1, 5, 6, 7, 10, 11, 12, 15, 16, 132] [48]⟩
      ·
        replace c10 := Bool.of_not_eq_true c10
        try simp only [ibeq, ibne, Bool.true_bne, Bool.false_bne, Bool.bne_true, Bool.bne_false, Bool.true_beq, Bool.false_beq, Bool.not_eq_true', Bool.not_eq_false', c2] at c10
        rcases ite_or h with ⟨c11, h⟩ | ⟨c11, h⟩
        ·
          replace c11 := eq_true c11
          rcases ite_or h with ⟨c12, h⟩ | ⟨c12, h⟩
          ·
            replace c12 := eq_true c12
            rcases ite_or h with ⟨c13, h⟩ | ⟨c13, h⟩
            ·
              try simp only [ibeq, ibne, Bool.true_bne, Bool.false_bne, Bool.bne_true, Bool.bne_false, Bool.true_beq, Bool.false_beq, Bool.not_eq_true', Bool.not_eq_false', c2, c10, c11, c12] at c13
              refine AL_region [1, 5, 6, 7, 10, 11, 12, 15, 16, 132] [48] [] ⟨[], [], []⟩ [(3, 102), (8, 107), (13, 112), (18, 117), (24, 123), (29, 128)] (by kernel_rfl) (by kernel_rfl) (by kernel_rfl) (fun K hK => by simp (decide := true) (maxSteps := 4000000) only [go_sem, Nat.reduceAdd, Nat.reduceMul, c2, c10, c11, c12, c13]; exact hK) ?_
              refine AL_meet ?_
              exact ⟨_, _, _, _, _, _, _, _, _, _, _, _, _, by omega, h, At_keep [1, 5, 6, 7, 10, 11, 12, 15, 16, 132] [48]⟩
            ·
              replace c13 := Bool.of_not_eq_true c13
              try simp only [ibeq, ibne, Bool.true_bne, Bool.false_bne, Bool.bne_true, Bool.bne_false, Bool.true_beq, Bool.false_beq, Bool.not_eq_true', Bool.not_eq_false', c2, c10, c11, c12] at c13
              obtain ⟨t716, g14, h⟩ := bind_or h
              rcases ite_or h with ⟨c15, h⟩ | ⟨c15, h⟩
              ·
                rcases ite_or h with ⟨c16, h⟩ | ⟨c16, h⟩
                ·
                  try simp only [ibeq, ibne, Bool.true_bne, Bool.false_bne, Bool.bne_true, Bool.bne_false, Bool.true_beq, Bool.false_beq, Bool.not_eq_true', Bool.not_eq_false', c2, c10, c11, c12, c13, c15] at c16
                  refine AL_region [1, 5, 6, 7, 10, 11, 12, 15, 16, 132] [48] [] ⟨[], [], []⟩ [(3, 102), (8, 107), (13, 112), (18, 117), (24, 123), (29, 128)] (by kernel_rfl) (by kernel_rfl) (by kernel_rfl) (fun K hK => by simp (decide := true) (maxSteps := 4000000) only [go_sem, Nat.reduceAdd, Nat.reduceMul, c2, c10, c11, c12, c13, c15, c16]; refine ⟨_, _, _, laws_sameInts.V g14, ?_⟩; simp (decide := true) (maxSteps := 4000000) only [go_sem, Nat.reduceAdd, Nat.reduceMul, c2, c10, c11, c12, c13, c15, c16]; exact hK) ?_
                  refine AL_meet ?_
                  exact ⟨_, _, _, _, _, _, _, _, _, _, _, _, _, by omega, h, At_keep [1, 5, 6, 7, 10, 11, 12, 15, 16, 132] [48]⟩
                ·
                  replace c16 := Bool.of_not_eq_true c16
                  try simp only [ibeq, ibne, Bool.true_bne, Bool.false_bne, Bool.bne_true, Bool.bne_false, Bool.true_beq, Bool.false_beq, Bool.not_eq_true', Bool.not_eq_false', c2, c10, c11, c12, c13, c15] at c16
                  refine AL_region [1, 5, 6, 7, 10, 11, 12, 15, 16, 132] [48] [] ⟨[], [], []⟩ [(3, 102), (8, 107), (13, 112), (18, 117), (24, 123), (29, 128)] (by kernel_rfl) (by kernel_rfl) (by kernel_rfl) (fun K hK => by simp (decide := true) (maxSteps := 4000000) only [go_sem, Nat.reduceAdd, Nat.reduceMul, c2, c10, c11, c12, c13, c15, c16]; refine ⟨_, _, _, laws_sameInts.V g14, ?_⟩; simp (decide := true) (maxSteps := 4000000) only [go_sem, Nat.reduceAdd, Nat.reduceMul, c2, c10, c11, c12, c13, c15, c16]; exact hK) ?_
                  refine AL_meet ?_
                  exact ⟨_, _, _, _, _, _, _, _, _, _, _, _, _, by omega, h, At_keep [1, 5, 6, 7, 10, 11, 12, 15, 16, 132] [48]⟩
              ·
                replace c15 := Bool.of_not_eq_true c15
                refine AL_region [1, 5, 6, 7, 10, 11, 12, 15, 16, 132] [48] [] ⟨[], [], []⟩ [(3, 102), (8, 107), (13, 112), (18, 117), (24, 123), (29, 128)] (by kernel_rfl) (by kernel_rfl) (by kernel_rfl) (fun K hK => by simp (decide := true) (maxSteps := 4000000) only [go_sem, Nat.reduceAdd, Nat.reduceMul, c2, c10, c11, c12, c13, c15]; refine ⟨_, _, _, laws_sameInts.V g14, ?_⟩; simp (decide := true) (maxSteps := 4000000) only [go_sem, Nat.reduceAdd, Nat.reduceMul, c2, c10, c11, c12, c13, c15]; exact hK) ?_
                refine AL_meet ?_
                exact ⟨_, _, _, _, _, _, _, _, _, _, _, _, _, by omega, h, At_keep [1, 5, 6, 7, 10, 11, 12, 15, 16, 132] [48]⟩
          ·
            replace c12 := eq_false c12
            refine AL_region [1, 5, 6, 7, 10, 11, 12, 15, 16, 132] [48] [] ⟨[], [], []⟩ [(3, 102), (8, 107), (13, 112), (18, 117), (24, 123), (29, 128)] (by kernel_rfl) (by kernel_rfl) (by kernel_rfl) (fun K hK => by simp (decide := true) (maxSteps := 4000000) only [go_sem, Nat.reduceAdd, Nat.reduceMul, c2, c10, c11, c12]; exact hK) ?_
            refine AL_meet ?_
            exact ⟨_, _, _, _, _, _, _, _, _, _, _, _, _, by omega, h, At_keep [1, 5, 6, 7, 10, 11, 12, 15, 16, 132] [48]⟩
        ·
          replace c11 := eq_false c11
          refine AL_region [1, 5, 6, 7, 10, 11, 12, 15, 16, 132] [48] [] ⟨[], [], []⟩ [(3, 102), (8, 107), (13, 112), (18, 117), (24, 123), (29, 128)] (by kernel_rfl) (by kernel_rfl) (by kernel_rfl) (fun K hK => by simp (decide := true) (maxSteps := 4000000) only [go_sem, Nat.reduceAdd, Nat.reduceMul, c2, c10, c11]; exact hK) ?_
          refine AL_meet ?_
          exact ⟨_, _, _, _, _, _, _, _, _, _, _, _, _, by omega, h, At_keep [1, 5, 6, 7, 10, 11, 12, 15, 16, 132] [48]⟩
    ·
      intro S hS
      obtain ⟨kk17, x1, x6, x7, x10, x11, x12, x15, x16, x132, x698000, x698001, x698002, hkq18, h, hS⟩ := hS
      rcases kk17 with _ | n19
      · (rw [laws_FnHoles.j0] at h; cases h)
      rw [laws_FnHoles.j0] at h
      refine AW_at hS ?_
      rcases ite_or h with ⟨c20, h⟩ | ⟨c20, h⟩
      ·
        refine AL_then (by simp (decide := true) only [go_sem, Nat.reduceAdd, Nat.reduceMul, c20]) ?_
        refine AL_seq ?_
        refine AL_region [4] [] [] ⟨[], [], []⟩ [] (by kernel_rfl) (by kernel_rfl) (by kernel_rfl) (fun K hK => by simp (decide := true) only [go_sem, Nat.reduceAdd, Nat.reduceMul, c20]; exact hK) ?_
        obtain rfl := Option.some.inj h
        refine AL_ret (fun _ => rfl) ?_
        exact retF_mk rfl (by exact ⟨trivial, trivial⟩) rfl (by exact rfl) (by exact trivial) (by exact trivial)
      ·
        replace c20 := Bool.of_not_eq_true c20
        refine AL_else (by simp (decide := true) only [go_sem, Nat.reduceAdd, Nat.reduceMul, c20]) ?_
        refine AL_skip ?_
        refine AL_seq ?_
        refine AL_seq ?_
        refine AL_region [1, 5, 6, 7, 10, 11, 12, 16, 133] [48] [] ⟨[], [], []⟩ [] (by kernel_rfl) (by kernel_rfl) (by kernel_rfl) (fun K hK => by simp (decide := true) only [go_sem, Nat.reduceAdd, Nat.reduceMul, c20]; exact hK) ?_
        refine AL_cut (fun S => (∃ kk : Nat, ∃ x1 : List Int, kk ≤ n19 ∧ laws_FnHoles.j3 kk x1 = some r ∧ At [(1, .sl false 1 (mp mkB x1))] [] S)) ?_ ?_
        ·
          rcases ite_or h with ⟨c21, h⟩ | ⟨c21, h⟩
          ·
            refine AL_then (by simp (decide := true) only [go_sem, Nat.reduceAdd, Nat.reduceMul, c20, c21]) ?_
            refine AL_seq ?_
            refine AL_region [1, 5, 6, 7, 10, 11, 12, 16, 22, 23] [48] [] ⟨[], [], []⟩ [] (by kernel_rfl) (by kernel_rfl) (by kernel_rfl) (fun K hK => by simp (decide := true) only [go_sem, Nat.reduceAdd, Nat.reduceMul, c20, c21]; exact hK) ?_
            refine AL_seq ?_
            refine AL_seq ?_
            refine AL_region [1, 5, 6, 7, 10, 11, 12, 16, 22, 23, 134, 135, 136] [48] [] ⟨[], [], []⟩ [] (by kernel_rfl) (by kernel_rfl) (by kernel_rfl) (fun K hK => by simp (decide := true) only [go_sem, Nat.reduceAdd, Nat.reduceMul, c20, c21]; exact hK) ?_
            refine AL_block ?_
            refine AL_loop (n := n19) (fun n S => (∃ x1 : List Int, ∃ x6 : List (S68), ∃ x7 : Int, ∃ x10 : Bool, ∃ x11 : Int, ∃ x12 : Int, ∃ x16 : List Int, ∃ x22 : Int, ∃ x23 : Int, ∃ x134 : List Int, ∃ x135 : Int, ∃ x136 : Int, ∃ x698000 : Int, ∃ x698001 : Int, ∃ x698002 : Int, n ≤ n19 ∧ laws_FnHoles.l0 n x1 x6 x7 x10 x11 x12 x16 x22 x23 x134 x135 x136 x698000 x698001 x698002 = some r ∧ At [(1, .sl false 1 (mp mkB x1)), (5, .ptr 48 0 0), (6, .sl true 5 (mp mkS68 x6)), (7, .int .i64 x7), (10, .bool x10), (11, .int .i64 x11), (12, .int .i64 x12), (16, .sl true 1 (mp mkI x16)), (22, .int .i64 x22), (23, .int .i64 x23), (134, .sl true 1 (mp mkI x134)), (135, .int .i64 x135), (136, .int .i64 x136)] [(48, some (.box [.int .i64 x698000, .int .i64 x698001, .int .i64 x698002]))] S)) ?_ ?_
            · exact ⟨_, _, _, _, _, _, _, _, _, _, _, _, _, _, _, by omega, h, At_keep [1, 5, 6, 7, 10, 11, 12, 16, 22, 23, 134, 135, 136] [48]⟩
            ·
              intro n S hS
              obtain ⟨x1, x6, x7, x10, x11, x12, x16, x22, x23, x134, x135, x136, x698000, x698001, x698002, hkq22, h, hS⟩ := hS
              rcases n with _ | n23
              · (rw [laws_FnHoles.l0] at h; cases h)
              rw [laws_FnHoles.l0] at h
              refine AW_at hS ?_
              refine AL_seq ?_
              refine AL_region [1, 5, 6, 7, 10, 11, 12, 16, 22, 23, 134, 135, 136, 137] [48] [] ⟨[], [], []⟩ [] (by kernel_rfl) (by kernel_rfl) (by kernel_rfl) (fun K hK => by simp (decide := true) only [go_sem, Nat.reduceAdd, Nat.reduceMul]; exact hK) ?_
              refine AL_seq ?_
              rcases ite_or h with ⟨c24, h⟩ | ⟨c24, h⟩
              ·
                replace c24 := eq_true c24
                refine AL_then (by simp (decide := true) only [go_sem, Nat.reduceAdd, Nat.reduceMul, c24]) ?_
                refine AL_skip ?_
                refine AL_seq ?_
                refine AL_block ?_
                refine AL_seq ?_
                obtain ⟨c25, h⟩ := ite_l h
                replace c25 := eq_true c25
                obtain ⟨c26, h⟩ := ite_l h
                replace c26 := eq_true c26
                refine AL_region [1, 5, 6, 7, 10, 11, 12, 16, 22, 23, 25, 134, 135, 136] [48] [] ⟨[], [], []⟩ [] (by kernel_rfl) (by kernel_rfl) (by kernel_rfl) (fun K hK => by simp (decide := true) only [go_sem, Nat.reduceAdd, Nat.reduceMul, c24, c25, c26]; exact hK) ?_
                refine AL_seq ?_
                obtain ⟨c27, h⟩ := ite_l h
                replace c27 := eq_true c27
                obtain ⟨c28, h⟩ := ite_l h
                replace c28 := eq_true c28
                obtain ⟨⟨t719, t720⟩, g29, h⟩ := bind_or h
                dsimp only at h
                refine AL_region [1, 5, 6, 7, 10, 11, 12, 16, 22, 23, 25, 26, 27, 134, 135, 136] [48] [] ⟨[], [], []⟩ [] (by kernel_rfl) (by kernel_rfl) (by kernel_rfl) (fun K hK => by simp (decide := true) (maxSteps := 4000000) only [go_sem, Nat.reduceAdd, Nat.reduceMul, c24, c25, c26, c27, c28]; refine ⟨_, _, _, impl_BlockOfHole.V g29, ?_⟩; simp (decide := true) (maxSteps := 4000000) only [go_sem, Nat.reduceAdd, Nat.reduceMul, c24, c25, c26, c27, c28]; exact hK) ?_
                refine AL_seq ?_
                refine AL_seq ?_
                refine AL_cut (fun S => (∃ kk : Nat, ∃ x1 : List Int, ∃ x6 : List (S68), ∃ x7 : Int, ∃ x10 : Bool, ∃ x11 : Int, ∃ x12 : Int, ∃ x16 : List Int, ∃ x22 : Int, ∃ x23 : Int, ∃ x25 : Int, ∃ x134 : List Int, ∃ x135 : Int, ∃ x136 : Int, ∃ x155 : Bool, ∃ x698000 : Int, ∃ x698001 : Int, ∃ x698002 : Int, kk ≤ n23 ∧ laws_FnHoles.j2 kk x1 x6 x7 x10 x11 x12 x16 x22 x23 x25 x134 x135 x136 x155 x698000 x698001 x698002 = some r ∧ At [(1, .sl false 1 (mp mkB x1)), (5, .ptr 48 0 0), (6, .sl true 5 (mp mkS68 x6)), (7, .int .i64 x7), (10, .bool x10), (11, .int .i64 x11), (12, .int .i64 x12), (16, .sl true 1 (mp mkI x16)), (22, .int .i64 x22), (23, .int .i64 x23), (25, .int .i64 x25), (134, .sl true 1 (mp mkI x134)), (135, .int .i64 x135), (136, .int .i64 x136), (155, .bool x155)] [(48, some (.box [.int .i64 x698000, .int .i64 x698001, .int .i64 x698002]))] S)) ?_ ?_
                ·
                  rcases ite_or h with ⟨c30, h⟩ | ⟨c30, h⟩
                  ·
                    refine AL_region [1, 5, 6, 7, 10, 11, 12, 16, 22, 23, 25, 134, 135, 136, 155] [48] [] ⟨[], [], []⟩ [(2, 151)] (by kernel_rfl) (by kernel_rfl) (by kernel_rfl) (fun K hK => by simp (decide := true) only [go_sem, Nat.reduceAdd, Nat.reduceMul, c24, c25, c26, c27, c28, c30]; exact hK) ?_
                    refine AL_meet ?_
                    exact ⟨_, _, _, _, _, _, _, _, _, _, _, _, _, _, _, _, _, _, by omega, h, At_keep [1, 5, 6, 7, 10, 11, 12, 16, 22, 23, 25, 134, 135, 136, 155] [48]⟩
                  ·
                    replace c30 := Bool.of_not_eq_true c30
                    refine AL_region [1, 5, 6, 7, 10, 11, 12, 16, 22, 23, 25, 134, 135, 136, 155] [48] [] ⟨[], [], []⟩ [(2, 151)] (by kernel_rfl) (by kernel_rfl) (by kernel_rfl) (fun K hK => by simp (decide := true) only [go_sem, Nat.reduceAdd, Nat.reduceMul, c24, c25, c26, c27, c28, c30]; exact hK) ?_
                    refine AL_meet ?_
                    exact ⟨_, _, _, _, _, _, _, _, _, _, _, _, _, _, _, _, _, _, by omega, h, At_keep [1, 5, 6, 7, 10, 11, 12, 16, 22, 23, 25, 134, 135, 136, 155] [48]⟩
                ·
                  intro S hS
                  obtain ⟨kk31, x1, x6, x7, x10, x11, x12, x16, x22, x23, x25, x134, x135, x136, x155, x698000, x698001, x698002, hkq32, h, hS⟩ := hS
                  rcases kk31 with _ | n33
                  · (rw [laws_FnHoles.j2] at h; cases h)
                  rw [laws_FnHoles.j2] at h
                  refine AW_at hS ?_
                  rcases ite_or h with ⟨c34, h⟩ | ⟨c34, h⟩
                  ·
                    refine AL_then (by simp (decide := true) only [go_sem, Nat.reduceAdd, Nat.reduceMul, c34]) ?_
                    refine AL_seq ?_
                    refine AL_region [4] [] [] ⟨[], [], []⟩ [] (by kernel_rfl) (by kernel_rfl) (by kernel_rfl) (fun K hK => by simp (decide := true) only [go_sem, Nat.reduceAdd, Nat.reduceMul, c34]; exact hK) ?_
                    obtain rfl := Option.some.inj h
                    refine AL_ret (fun _ => rfl) ?_
                    exact retF_mk rfl (by exact ⟨trivial, trivial⟩) rfl (by exact rfl) (by exact trivial) (by exact trivial)
                  ·
                    replace c34 := Bool.of_not_eq_true c34
                    refine AL_else (by simp (decide := true) only [go_sem, Nat.reduceAdd, Nat.reduceMul, c34]) ?_
                    refine AL_skip ?_
                    refine AL_seq ?_
                    refine AL_seq ?_
                    obtain ⟨c35, h⟩ := ite_l h
                    replace c35 := eq_true c35
                    obtain ⟨c36, h⟩ := ite_l h
                    replace c36 := eq_true c36
                    refine AL_region [1, 5, 6, 7, 10, 11, 12, 16, 22, 23, 25, 134, 135, 136, 162] [48] [] ⟨[], [], []⟩ [] (by kernel_rfl) (by kernel_rfl) (by kernel_rfl) (fun K hK => by simp (decide := true) only [go_sem, Nat.reduceAdd, Nat.reduceMul, c34, c35, c36]; exact hK) ?_
                    rcases ite_or h with ⟨c37, h⟩ | ⟨c37, h⟩
                    ·
                      replace c37 := eq_true c37
                      refine AL_then (by simp (decide := true) only [go_sem, Nat.reduceAdd, Nat.reduceMul, c34, c35, c36, c37]) ?_
                      refine AL_region [1, 5, 6, 7, 10, 11, 12, 16, 22, 23, 25, 134, 135, 136] [48] [] ⟨[], [], []⟩ [] (by kernel_rfl) (by kernel_rfl) (by kernel_rfl) (fun K hK => by simp (decide := true) only [go_sem, Nat.reduceAdd, Nat.reduceMul, c34, c35, c36, c37]; exact hK) ?_
                      refine AL_seq ?_
                      refine AL_region [1, 5, 6, 7, 10, 11, 12, 16, 22, 23, 25, 134, 135, 136, 174] [48] [] ⟨[], [], []⟩ [] (by kernel_rfl) (by kernel_rfl) (by kernel_rfl) (fun K hK => by simp (decide := true) only [go_sem, Nat.reduceAdd, Nat.reduceMul, c34, c35, c36, c37]; exact hK) ?_
                      rcases ite_or h with ⟨c38, h⟩ | ⟨c38, h⟩
                      ·
                        replace c38 := eq_true c38
                        refine AL_then (by simp (decide := true) only [go_sem, Nat.reduceAdd, Nat.reduceMul, c34, c35, c36, c37, c38]) ?_
                        refine AL_region [1, 5, 6, 7, 10, 11, 12, 16, 22, 23, 134, 135, 136] [48] [] ⟨[], [], []⟩ [] (by kernel_rfl) (by kernel_rfl) (by kernel_rfl) (fun K hK => by simp (decide := true) only [go_sem, Nat.reduceAdd, Nat.reduceMul, c34, c35, c36, c37, c38]; exact hK) ?_
                        refine blockQ_n ?_
                        refine AL_region [1, 5, 6, 7, 10, 11, 12, 16, 22, 23, 134, 135, 136] [48] [] ⟨[], [], []⟩ [] (by kernel_rfl) (by kernel_rfl) (by kernel_rfl) (fun K hK => by simp (decide := true) only [go_sem, Nat.reduceAdd, Nat.reduceMul, c34, c35, c36, c37, c38]; exact hK) ?_
                        refine AL_again (m := n33) (by omega) ?_
                        exact ⟨_, _, _, _, _, _, _, _, _, _, _, _, _, _, _, by omega, h, At_keep [1, 5, 6, 7, 10, 11, 12, 16, 22, 23, 134, 135, 136] [48]⟩
                      ·
                        replace c38 := eq_false c38
                        refine AL_else (by simp (decide := true) only [go_sem, Nat.reduceAdd, Nat.reduceMul, c34, c35, c36, c37, c38]) ?_
                        refine AL_skip ?_
                        refine blockQ_n ?_
                        refine AL_region [1, 5, 6, 7, 10, 11, 12, 16, 22, 23, 134, 135, 136] [48] [] ⟨[], [], []⟩ [] (by kernel_rfl) (by kernel_rfl) (by kernel_rfl) (fun K hK => by simp (decide := true) only [go_sem, Nat.reduceAdd, Nat.reduceMul, c34, c35, c36, c37, c38]; exact hK) ?_
                        refine AL_again (m := n33) (by omega) ?_
                        exact ⟨_, _, _, _, _, _, _, _, _, _, _, _, _, _, _, by omega, h, At_keep [1, 5, 6, 7, 10, 11, 12, 16, 22, 23, 134, 135, 136] [48]⟩
                    ·
                      replace c37 := eq_false c37
                      refine AL_else (by simp (decide := true) only [go_sem, Nat.reduceAdd, Nat.reduceMul, c34, c35, c36, c37]) ?_
                      refine AL_skip ?_
                      refine AL_seq ?_
                      refine AL_region [1, 5, 6, 7, 10, 11, 12, 16, 22, 23, 25, 134, 135, 136, 174] [48] [] ⟨[], [], []⟩ [] (by kernel_rfl) (by kernel_rfl) (by kernel_rfl) (fun K hK => by simp (decide := true) only [go_sem, Nat.reduceAdd, Nat.reduceMul, c34, c35, c36, c37]; exact hK) ?_
                      rcases ite_or h with ⟨c39, h⟩ | ⟨c39, h⟩
                      ·
                        replace c39 := eq_true c39
                        refine AL_then (by simp (decide := true) only [go_sem, Nat.reduceAdd, Nat.reduceMul, c34, c35, c36, c37, c39]) ?_
                        refine AL_region [1, 5, 6, 7, 10, 11, 12, 16, 22, 23, 134, 135, 136] [48] [] ⟨[], [], []⟩ [] (by kernel_rfl) (by kernel_rfl) (by kernel_rfl) (fun K hK => by simp (decide := true) only [go_sem, Nat.reduceAdd, Nat.reduceMul, c34, c35, c36, c37, c39]; exact hK) ?_
                        refine blockQ_n ?_
                        refine AL_region [1, 5, 6, 7, 10, 11, 12, 16, 22, 23, 134, 135, 136] [48] [] ⟨[], [], []⟩ [] (by kernel_rfl) (by kernel_rfl) (by kernel_rfl) (fun K hK => by simp (decide := true) only [go_sem, Nat.reduceAdd, Nat.reduceMul, c34, c35, c36, c37, c39]; exact hK) ?_
                        refine AL_again (m := n33) (by omega) ?_
                        exact ⟨_, _, _, _, _, _, _, _, _, _, _, _, _, _, _, by omega, h, At_keep [1, 5, 6, 7, 10, 11, 12, 16, 22, 23, 134, 135, 136] [48]⟩
                      ·
                        replace c39 := eq_false c39
                        refine AL_else (by simp (decide := true) only [go_sem, Nat.reduceAdd, Nat.reduceMul, c34, c35, c36, c37, c39]) ?_
                        refine AL_skip ?_
                        refine blockQ_n ?_
                        refine AL_region [1, 5, 6, 7, 10, 11, 12, 16, 22, 23, 134, 135, 136] [48] [] ⟨[], [], []⟩ [] (by kernel_rfl) (by kernel_rfl) (by kernel_rfl) (fun K hK => by simp (decide := true) only [go_sem, Nat.reduceAdd, Nat.reduceMul, c34, c35, c36, c37, c39]; exact hK) ?_
                        refine AL_again (m := n33) (by omega) ?_
                        exact ⟨_, _, _, _, _, _, _, _, _, _, _, _, _, _, _, by omega, h, At_keep [1, 5, 6, 7, 10, 11, 12, 16, 22, 23, 134, 135, 136] [48]⟩
              ·
                replace c24 := eq_false c24
                refine AL_else (by simp (decide := true) only [go_sem, Nat.reduceAdd, Nat.reduceMul, c24]) ?_
                refine AL_exit ?_
                repeat first | refine thenQ_x ?_ | refine blockQ_miss (by decide) ?_
                refine blockQ_hit ?_
                refine AL_seq ?_
                rcases ite_or h with ⟨c40, h⟩ | ⟨c40, h⟩
                ·
                  try simp only [ibeq, ibne, Bool.true_bne, Bool.false_bne, Bool.bne_true, Bool.bne_false, Bool.true_beq, Bool.false_beq, Bool.not_eq_true', Bool.not_eq_false', c24] at c40
                  refine AL_region [1, 206] [] [] ⟨[], [], []⟩ [(5, 186), (7, 188), (10, 191), (17, 198)] (by kernel_rfl) (by kernel_rfl) (by kernel_rfl) (fun K hK => by simp (decide := true) (maxSteps := 4000000) only [go_sem, Nat.reduceAdd, Nat.reduceMul, c24, c40]; exact hK) ?_
                  refine AL_then (by simp (decide := true) only [go_sem, Nat.reduceAdd, Nat.reduceMul, c24, c40]) ?_
                  refine AL_seq ?_
                  refine AL_region [4] [] [] ⟨[], [], []⟩ [] (by kernel_rfl) (by kernel_rfl) (by kernel_rfl) (fun K hK => by simp (decide := true) only [go_sem, Nat.reduceAdd, Nat.reduceMul, c24, c40]; exact hK) ?_
                  obtain rfl := Option.some.inj h
                  refine AL_ret (fun _ => rfl) ?_
                  exact retF_mk rfl (by exact ⟨trivial, trivial⟩) rfl (by exact rfl) (by exact trivial) (by exact trivial)
                ·
                  replace c40 := Bool.of_not_eq_true c40
                  try simp only [ibeq, ibne, Bool.true_bne, Bool.false_bne, Bool.bne_true, Bool.bne_false, Bool.true_beq, Bool.false_beq, Bool.not_eq_true', Bool.not_eq_false', c24] at c40
                  rcases ite_or h with ⟨c41, h⟩ | ⟨c41, h⟩
                  ·
                    try simp only [Bool.true_bne, Bool.false_bne, Bool.bne_true, Bool.bne_false, Bool.true_beq, Bool.false_beq, Bool.not_eq_true', Bool.not_eq_false', c41] at c40
                    rcases ite_or h with ⟨c42, h⟩ | ⟨c42, h⟩
                    ·
                      replace c42 := eq_true c42
                      refine AL_region [1, 206] [] [] ⟨[], [], []⟩ [(5, 186), (7, 188), (10, 191), (17, 198)] (by kernel_rfl) (by kernel_rfl) (by kernel_rfl) (fun K hK => by simp (decide := true) (maxSteps := 4000000) only [go_sem, Nat.reduceAdd, Nat.reduceMul, c24, c40, c41, c42]; exact hK) ?_
                      refine AL_then (by simp (decide := true) only [go_sem, Nat.reduceAdd, Nat.reduceMul, c24, c40, c41, c42]) ?_
                      refine AL_seq ?_
                      refine AL_region [4] [] [] ⟨[], [], []⟩ [] (by kernel_rfl) (by kernel_rfl) (by kernel_rfl) (fun K hK => by simp (decide := true) only [go_sem, Nat.reduceAdd, Nat.reduceMul, c24, c40, c41, c42]; exact hK) ?_
                      obtain rfl := Option.some.inj h
                      refine AL_ret (fun _ => rfl) ?_
                      exact retF_mk rfl (by exact ⟨trivial, trivial⟩) rfl (by exact rfl) (by exact trivial) (by exact trivial)
                    ·
                      replace c42 := eq_false c42
                      rcases ite_or h with ⟨c43, h⟩ | ⟨c43, h⟩
                      ·
                        replace c43 := eq_true c43
                        refine AL_region [1, 206] [] [] ⟨[], [], []⟩ [(5, 186), (7, 188), (10, 191), (17, 198)] (by kernel_rfl) (by kernel_rfl) (by kernel_rfl) (fun K hK => by simp (decide := true) (maxSteps := 4000000) only [go_sem, Nat.reduceAdd, Nat.reduceMul, c24, c40, c41, c42, c43]; exact hK) ?_
                        refine AL_then (by simp (decide := true) only [go_sem, Nat.reduceAdd, Nat.reduceMul, c24, c40, c41, c42, c43]) ?_
                        refine AL_seq ?_
                        refine AL_region [4] [] [] ⟨[], [], []⟩ [] (by kernel_rfl) (by kernel_rfl) (by kernel_rfl) (fun K hK => by simp (decide := true) only [go_sem, Nat.reduceAdd, Nat.reduceMul, c24, c40, c41, c42, c43]; exact hK) ?_
                        obtain rfl := Option.some.inj h
                        refine AL_ret (fun _ => rfl) ?_
                        exact retF_mk rfl (by exact ⟨trivial, trivial⟩) rfl (by exact rfl) (by exact trivial) (by exact trivial)
                      ·
                        replace c43 := eq_false c43
                        refine AL_region [1, 206] [] [] ⟨[], [], []⟩ [(5, 186), (7, 188), (10, 191), (17, 198)] (by kernel_rfl) (by kernel_rfl) (by kernel_rfl) (fun K hK => by simp (decide := true) (maxSteps := 4000000) only [go_sem, Nat.reduceAdd, Nat.reduceMul, c24, c40, c41, c42, c43]; exact hK) ?_
                        rcases ite_or h with ⟨c44, h⟩ | ⟨c44, h⟩
                        ·
                          replace c44 := eq_true c44
                          refine AL_then (by simp (decide := true) only [go_sem, Nat.reduceAdd, Nat.reduceMul, c24, c40, c41, c42, c43, c44]) ?_
                          refine AL_seq ?_
                          refine AL_region [4] [] [] ⟨[], [], []⟩ [] (by kernel_rfl) (by kernel_rfl) (by kernel_rfl) (fun K hK => by simp (decide := true) only [go_sem, Nat.reduceAdd, Nat.reduceMul, c24, c40, c41, c42, c43, c44]; exact hK) ?_
                          obtain rfl := Option.some.inj h
                          refine AL_ret (fun _ => rfl) ?_
                          exact retF_mk rfl (by exact ⟨trivial, trivial⟩) rfl (by exact rfl) (by exact trivial) (by exact trivial)
                        ·
                          replace c44 := eq_false c44
                          refine AL_else (by simp (decide := true) only [go_sem, Nat.reduceAdd, Nat.reduceMul, c24, c40, c41, c42, c43, c44]) ?_
                          refine AL_skip ?_
                          refine AL_meet ?_
                          exact ⟨_, _, by omega, h, At_keep [1] []⟩
                  ·
                    replace c41 := Bool.of_not_eq_true c41
                    try simp only [Bool.true_bne, Bool.false_bne, Bool.bne_true, Bool.bne_false, Bool.true_beq, Bool.false_beq, Bool.not_eq_true', Bool.not_eq_false', c41] at c40
                    refine AL_region [1, 206] [] [] ⟨[], [], []⟩ [(5, 186), (7, 188), (10, 191), (17, 198)] (by kernel_rfl) (by kernel_rfl) (by kernel_rfl) (fun K hK => by simp (decide := true) (maxSteps := 4000000) only [go_sem, Nat.reduceAdd, Nat.reduceMul, c24, c40, c41]; exact hK) ?_
                    refine AL_else (by simp (decide := true) only [go_sem, Nat.reduceAdd, Nat.reduceMul, c24, c40, c41]) ?_
                    refine AL_skip ?_
                    refine AL_meet ?_
                    exact ⟨_, _, by omega, h, At_keep [1] []⟩
          ·
            replace c21 := Bool.of_not_eq_true c21
            refine AL_else (by simp (decide := true) only [go_sem, Nat.reduceAdd, Nat.reduceMul, c20, c21]) ?_
            refine AL_skip ?_
            refine AL_meet ?_
            exact ⟨_, _, by omega, h, At_keep [1] []⟩
        ·
          intro S hS
          obtain ⟨kk45, x1, hkq46, h, hS⟩ := hS
          rcases kk45 with _ | n47
          · (rw [laws_FnHoles.j3] at h; cases h)
          rw [laws_FnHoles.j3] at h
          refine AW_at hS ?_
          refine AL_seq ?_
          obtain ⟨⟨t727, t728, t729, t730, t733, t736, t739⟩, g48, h⟩ := bind_or h
          dsimp only at h
          refine AL_region [1, 28, 29] [232] [] ⟨[], [], []⟩ [] (by kernel_rfl) (by kernel_rfl) (by kernel_rfl) (fun K hK => by simp (decide := true) only [go_sem, Nat.reduceAdd, Nat.reduceMul]; refine ⟨_, _, _, spec_DrawUpdateModel.V g48, ?_⟩; simp (decide := true) only [go_sem, Nat.reduceAdd, Nat.reduceMul]; exact hK) ?_
          refine AL_seq ?_
          obtain ⟨⟨t743, t744, t745, t746, t749, t752, t755⟩, g49, h⟩ := bind_or h
          dsimp only at h
          refine AL_region [1, 28, 29, 30, 31] [232, 248] [] ⟨[], [], []⟩ [] (by kernel_rfl) (by kernel_rfl) (by kernel_rfl) (fun K hK => by simp (decide := true) only [go_sem, Nat.reduceAdd, Nat.reduceMul]; refine ⟨_, _, _, impl_UpdateModel.V g49, ?_⟩; simp (decide := true) only [go_sem, Nat.reduceAdd, Nat.reduceMul]; exact hK) ?_
          refine AL_seq ?_
          obtain ⟨⟨t757, t758, t759, t760, t763, t766, t769⟩, g50, h⟩ := bind_or h
          dsimp only at h
          refine AL_region [1, 28, 29, 30, 31, 32, 33] [232, 248, 264] [] ⟨[], [], []⟩ [] (by kernel_rfl) (by kernel_rfl) (by kernel_rfl) (fun K hK => by simp (decide := true) only [go_sem, Nat.reduceAdd, Nat.reduceMul]; refine ⟨_, _, _, spec_UpdateModel.V g50, ?_⟩; simp (decide := true) only [go_sem, Nat.reduceAdd, Nat.reduceMul]; exact hK) ?_
          refine AL_seq ?_
          refine AL_seq ?_
          refine AL_cut (fun S => (∃ kk : Nat, ∃ x1 : List Int, ∃ x29 : List (S68), ∃ x31 : Bool, ∃ x232 : Bool, ∃ x743000 : Int, ∃ x743001 : Int, ∃ x743002 : Int, ∃ x743003 : List Int, ∃ x743004 : List Int, ∃ x743005 : List Int, ∃ x757000 : Int, ∃ x757001 : Int, ∃ x757002 : Int, ∃ x757003 : List Int, ∃ x757004 : List Int, ∃ x757005 : List Int, ∃ x771000 : Int, ∃ x771001 : Int, ∃ x771002 : Int, ∃ x771003 : List Int, ∃ x771004 : List Int, ∃ x771005 : List Int, kk ≤ n47 ∧ laws_FnHoles.j4 kk x1 x29 x31 x232 x743000 x743001 x743002 x743003 x743004 x743005 x757000 x757001 x757002 x757003 x757004 x757005 x771000 x771001 x771002 x771003 x771004 x771005 = some r ∧ At [(1, .sl false 1 (mp mkB x1)), (28, .ptr 232 0 0), (29, .sl true 5 (mp mkS68 x29)), (30, .ptr 248 0 0), (31, .bool x31), (32, .ptr 264 0 0), (232, .bool x232)] [(232, some (.box [.int .i64 x743000, .int .i64 x743001, .int .i64 x743002, .sl true 1 (mp mkI x743003), .sl true 1 (mp mkI x743004), .sl true 1 (mp mkI x743005)])), (248, some (.box [.int .i64 x757000, .int .i64 x757001, .int .i64 x757002, .sl true 1 (mp mkI x757003), .sl true 1 (mp mkI x757004), .sl true 1 (mp mkI x757005)])), (264, some (.box [.int .i64 x771000, .int .i64 x771001, .int .i64 x771002, .sl true 1 (mp mkI x771003), .sl true 1 (mp mkI x771004), .sl true 1 (mp mkI x771005)]))] S)) ?_ ?_
          ·
            rcases ite_or h with ⟨c51, h⟩ | ⟨c51, h⟩
            ·
              try simp only [ibeq, ibne, Bool.true_bne, Bool.false_bne, Bool.bne_true, Bool.bne_false, Bool.true_beq, Bool.false_beq, Bool.not_eq_true', Bool.not_eq_false'] at c51
              refine AL_region [1, 28, 29, 30, 31, 32, 232] [232, 248, 264] [] ⟨[], [], []⟩ [(3, 227)] (by kernel_rfl) (by kernel_rfl) (by kernel_rfl) (fun K hK => by simp (decide := true) only [go_sem, Nat.reduceAdd, Nat.reduceMul, c51]; exact hK) ?_
              refine AL_meet ?_
              exact ⟨_, _, _, _, _, _, _, _, _, _, _, _, _, _, _, _, _, _, _, _, _, _, _, by omega, h, At_keep [1, 28, 29, 30, 31, 32, 232] [232, 248, 264]⟩
            ·
              replace c51 := Bool.of_not_eq_true c51
              try simp only [ibeq, ibne, Bool.true_bne, Bool.false_bne, Bool.bne_true, Bool.bne_false, Bool.true_beq, Bool.false_beq, Bool.not_eq_true', Bool.not_eq_false'] at c51
              obtain ⟨t771, g52, h⟩ := bind_or h
              refine AL_region [1, 28, 29, 30, 31, 32, 232] [232, 248, 264] [] ⟨[], [], []⟩ [(3, 227)] (by kernel_rfl) (by kernel_rfl) (by kernel_rfl) (fun K hK => by simp (decide := true) only [go_sem, Nat.reduceAdd, Nat.reduceMul, c51]; refine ⟨_, _, _, laws_pSameModel.V g52, ?_⟩; simp (decide := true) only [go_sem, Nat.reduceAdd, Nat.reduceMul, c51]; exact hK) ?_
              refine AL_meet ?_
              exact ⟨_, _, _, _, _, _, _, _, _, _, _, _, _, _, _, _, _, _, _, _, _, _, _, by omega, h, At_keep [1, 28, 29, 30, 31, 32, 232] [232, 248, 264]⟩
          ·
            intro S hS
            obtain ⟨kk53, x1, x29, x31, x232, x743000, x743001, x743002, x743003, x743004, x743005, x757000, x757001, x757002, x757003, x757004, x757005, x771000, x771001, x771002, x771003, x771004, x771005, hkq54, h, hS⟩ := hS
            rcases kk53 with _ | n55
            · (rw [laws_FnHoles.j4] at h; cases h)
            rw [laws_FnHoles.j4] at h
            refine AW_at hS ?_
            rcases ite_or h with ⟨c56, h⟩ | ⟨c56, h⟩
            ·
              refine AL_then (by simp (decide := true) only [go_sem, Nat.reduceAdd, Nat.reduceMul, c56]) ?_
              refine AL_seq ?_
              refine AL_region [4] [] [] ⟨[], [], []⟩ [] (by kernel_rfl) (by kernel_rfl) (by kernel_rfl) (fun K hK => by simp (decide := true) only [go_sem, Nat.reduceAdd, Nat.reduceMul, c56]; exact hK) ?_
              obtain rfl := Option.some.inj h
              refine AL_ret (fun _ => rfl) ?_
              exact retF_mk rfl (by exact ⟨trivial, trivial⟩) rfl (by exact rfl) (by exact trivial) (by exact trivial)
            ·
              replace c56 := Bool.of_not_eq_true c56
              refine AL_else (by simp (decide := true) only [go_sem, Nat.reduceAdd, Nat.reduceMul, c56]) ?_
              refine AL_skip ?_
              refine AL_seq ?_
              refine AL_seq ?_
              refine AL_region [1, 28, 29, 30, 32, 233] [232, 248, 264] [] ⟨[], [], []⟩ [] (by kernel_rfl) (by kernel_rfl) (by kernel_rfl) (fun K hK => by simp (decide := true) only [go_sem, Nat.reduceAdd, Nat.reduceMul, c56]; exact hK) ?_
              rcases ite_or h with ⟨c57, h⟩ | ⟨c57, h⟩
              ·
                refine AL_then (by simp (decide := true) only [go_sem, Nat.reduceAdd, Nat.reduceMul, c56, c57]) ?_
                refine AL_seq ?_
                obtain ⟨⟨t772, t775⟩, g58, h⟩ := bind_or h
                dsimp only at h
                refine AL_region [1, 28, 29, 30, 32, 34, 35] [232, 248, 264] [] ⟨[], [], []⟩ [] (by kernel_rfl) (by kernel_rfl) (by kernel_rfl) (fun K hK => by simp (decide := true) only [go_sem, Nat.reduceAdd, Nat.reduceMul, c56, c57]; refine ⟨_, _, _, impl_ChangedBlocks.V g58, ?_⟩; simp (decide := true) only [go_sem, Nat.reduceAdd, Nat.reduceMul, c56, c57]; exact hK) ?_
                refine AL_seq ?_
                obtain ⟨⟨t776, t779⟩, g59, h⟩ := bind_or h
                dsimp only at h
                refine AL_region [1, 28, 29, 30, 34, 35, 36, 37] [232, 248] [] ⟨[], [], []⟩ [] (by kernel_rfl) (by kernel_rfl) (by kernel_rfl) (fun K hK => by simp (decide := true) only [go_sem, Nat.reduceAdd, Nat.reduceMul, c56, c57]; refine ⟨_, _, _, spec_ChangedBlocks.V g59, ?_⟩; simp (decide := true) only [go_sem, Nat.reduceAdd, Nat.reduceMul, c56, c57]; exact hK) ?_
                refine AL_seq ?_
                refine AL_seq ?_
                refine AL_cut (fun S => (∃ kk : Nat, ∃ x1 : List Int, ∃ x29 : List (S68), ∃ x36 : List Int, ∃ x262 : Bool, ∃ x743000 : Int, ∃ x743001 : Int, ∃ x743002 : Int, ∃ x743003 : List Int, ∃ x743004 : List Int, ∃ x743005 : List Int, kk ≤ n55 ∧ laws_FnHoles.j5 kk x1 x29 x36 x262 x743000 x743001 x743002 x743003 x743004 x743005 = some r ∧ At [(1, .sl false 1 (mp mkB x1)), (28, .ptr 232 0 0), (29, .sl true 5 (mp mkS68 x29)), (36, .sl true 1 (mp mkI x36)), (262, .bool x262)] [(232, some (.box [.int .i64 x743000, .int .i64 x743001, .int .i64 x743002, .sl true 1 (mp mkI x743003), .sl true 1 (mp mkI x743004), .sl true 1 (mp mkI x743005)]))] S)) ?_ ?_
                ·
                  rcases ite_or h with ⟨c60, h⟩ | ⟨c60, h⟩
                  ·
                    rcases ite_or h with ⟨c61, h⟩ | ⟨c61, h⟩
                    ·
                      obtain ⟨t780, g62, h⟩ := bind_or h
                      rcases ite_or h with ⟨c63, h⟩ | ⟨c63, h⟩
                      ·
                        obtain ⟨t781, g64, h⟩ := bind_or h
                        refine AL_region [1, 28, 29, 36, 262] [232] [] ⟨[], [], []⟩ [(2, 248), (6, 252), (12, 258)] (by kernel_rfl) (by kernel_rfl) (by kernel_rfl) (fun K hK => by simp (decide := true) (maxSteps := 4000000) only [go_sem, Nat.reduceAdd, Nat.reduceMul, c56, c57, c60, c61, c63]; refine ⟨_, _, _, laws_sameInts.V g62, ?_⟩; simp (decide := true) (maxSteps := 4000000) only [go_sem, Nat.reduceAdd, Nat.reduceMul, c56, c57, c60, c61, c63]; refine ⟨_, _, _, impl_IsModel.V g64, ?_⟩; simp (decide := true) (maxSteps := 4000000) only [go_sem, Nat.reduceAdd, Nat.reduceMul, c56, c57, c60, c61, c63]; exact hK) ?_
                        refine AL_meet ?_
                        exact ⟨_, _, _, _, _, _, _, _, _, _, _, by omega, h, At_keep [1, 28, 29, 36, 262] [232]⟩
                      ·
                        replace c63 := Bool.of_not_eq_true c63
                        refine AL_region [1, 28, 29, 36, 262] [232] [] ⟨[], [], []⟩ [(2, 248), (6, 252), (12, 258)] (by kernel_rfl) (by kernel_rfl) (by kernel_rfl) (fun K hK => by simp (decide := true) (maxSteps := 4000000) only [go_sem, Nat.reduceAdd, Nat.reduceMul, c56, c57, c60, c61, c63]; refine ⟨_, _, _, laws_sameInts.V g62, ?_⟩; simp (decide := true) (maxSteps := 4000000) only [go_sem, Nat.reduceAdd, Nat.reduceMul, c56, c57, c60, c61, c63]; exact hK) ?_
                        refine AL_meet ?_
                        exact ⟨_, _, _, _, _, _, _, _, _, _, _, by omega, h, At_keep [1, 28, 29, 36, 262] [232]⟩
                    ·
                      replace c61 := Bool.of_not_eq_true c61
                      refine AL_region [1, 28, 29, 36, 262] [232] [] ⟨[], [], []⟩ [(2, 248), (6, 252), (12, 258)] (by kernel_rfl) (by kernel_rfl) (by kernel_rfl) (fun K hK => by simp (decide := true) (maxSteps := 4000000) only [go_sem, Nat.reduceAdd, Nat.reduceMul, c56, c57, c60, c61]; exact hK) ?_
                      refine AL_meet ?_
                      exact ⟨_, _, _, _, _, _, _, _, _, _, _, by omega, h, At_keep [1, 28, 29, 36, 262] [232]⟩
                  ·
                    replace c60 := Bool.of_not_eq_true c60
                    refine AL_region [1, 28, 29, 36, 262] [232] [] ⟨[], [], []⟩ [(2, 248), (6, 252), (12, 258)] (by kernel_rfl) (by kernel_rfl) (by kernel_rfl) (fun K hK => by simp (decide := true) (maxSteps := 4000000) only [go_sem, Nat.reduceAdd, Nat.reduceMul, c56, c57, c60]; exact hK) ?_
                    refine AL_meet ?_
                    exact ⟨_, _, _, _, _, _, _, _, _, _, _, by omega, h, At_keep [1, 28, 29, 36, 262] [232]⟩
                ·
                  intro S hS
                  obtain ⟨kk65, x1, x29, x36, x262, x743000, x743001, x743002, x743003, x743004, x743005, hkq66, h, hS⟩ := hS
                  rcases kk65 with _ | n67
                  · (rw [laws_FnHoles.j5] at h; cases h)
                  rw [laws_FnHoles.j5] at h
                  refine AW_at hS ?_
                  rcases ite_or h with ⟨c68, h⟩ | ⟨c68, h⟩
                  ·
                    refine AL_then (by simp (decide := true) only [go_sem, Nat.reduceAdd, Nat.reduceMul, c68]) ?_
                    refine AL_seq ?_
                    refine AL_region [4] [] [] ⟨[], [], []⟩ [] (by kernel_rfl) (by kernel_rfl) (by kernel_rfl) (fun K hK => by simp (decide := true) only [go_sem, Nat.reduceAdd, Nat.reduceMul, c68]; exact hK) ?_
                    obtain rfl := Option.some.inj h
                    refine AL_ret (fun _ => rfl) ?_
                    exact retF_mk rfl (by exact ⟨trivial, trivial⟩) rfl (by exact rfl) (by exact trivial) (by exact trivial)
                  ·
                    replace c68 := Bool.of_not_eq_true c68
                    refine AL_else (by simp (decide := true) only [go_sem, Nat.reduceAdd, Nat.reduceMul, c68]) ?_
                    refine AL_skip ?_
                    refine AL_seq ?_
                    refine AL_region [1, 28, 29, 263, 264, 265] [232] [] ⟨[], [], []⟩ [] (by kernel_rfl) (by kernel_rfl) (by kernel_rfl) (fun K hK => by simp (decide := true) only [go_sem, Nat.reduceAdd, Nat.reduceMul, c68]; exact hK) ?_
                    refine AL_block ?_
                    refine AL_loop (n := n67) (fun n S => (∃ x1 : List Int, ∃ x29 : List (S68), ∃ x263 : List Int, ∃ x264 : Int, ∃ x265 : Int, ∃ x743000 : Int, ∃ x743001 : Int, ∃ x743002 : Int, ∃ x743003 : List Int, ∃ x743004 : List Int, ∃ x743005 : List Int, n ≤ n67 ∧ laws_FnHoles.l1 n x1 x29 x263 x264 x265 x743000 x743001 x743002 x743003 x743004 x743005 = some r ∧ At [(1, .sl false 1 (mp mkB x1)), (28, .ptr 232 0 0), (29, .sl true 5 (mp mkS68 x29)), (263, .sl true 1 (mp mkI x263)), (264, .int .i64 x264), (265, .int .i64 x265)] [(232, some (.box [.int .i64 x743000, .int .i64 x743001, .int .i64 x743002, .sl true 1 (mp mkI x743003), .sl true 1 (mp mkI x743004), .sl true 1 (mp mkI x743005)]))] S)) ?_ ?_
                    · exact ⟨_, _, _, _, _, _, _, _, _, _, _, by omega, h, At_keep [1, 28, 29, 263, 264, 265] [232]⟩
                    ·
                      intro n S hS
                      obtain ⟨x1, x29, x263, x264, x265, x743000, x743001, x743002, x743003, x743004, x743005, hkq69, h, hS⟩ := hS
                      rcases n with _ | n70
                      · (rw [laws_FnHoles.l1] at h; cases h)
                      rw [laws_FnHoles.l1] at h
                      refine AW_at hS ?_
                      refine AL_seq ?_
                      refine AL_region [1, 28, 29, 263, 264, 265, 266] [232] [] ⟨[], [], []⟩ [] (by kernel_rfl) (by kernel_rfl) (by kernel_rfl) (fun K hK => by simp (decide := true) only [go_sem, Nat.reduceAdd, Nat.reduceMul]; exact hK) ?_
                      refine AL_seq ?_
                      rcases ite_or h with ⟨c71, h⟩ | ⟨c71, h⟩
                      ·
                        replace c71 := eq_true c71
                        refine AL_then (by simp (decide := true) only [go_sem, Nat.reduceAdd, Nat.reduceMul, c71]) ?_
                        refine AL_skip ?_
                        refine AL_seq ?_
                        refine AL_block ?_
                        refine AL_seq ?_
                        obtain ⟨c72, h⟩ := ite_l h
                        replace c72 := eq_true c72
                        obtain ⟨c73, h⟩ := ite_l h
                        replace c73 := eq_true c73
                        refine AL_region [1, 28, 29, 39, 263, 264, 265] [232] [] ⟨[], [], []⟩ [] (by kernel_rfl) (by kernel_rfl) (by kernel_rfl) (fun K hK => by simp (decide := true) only [go_sem, Nat.reduceAdd, Nat.reduceMul, c71, c72, c73]; exact hK) ?_
                        refine AL_seq ?_
                        obtain ⟨⟨t783, t786⟩, g74, h⟩ := bind_or h
                        dsimp only at h
                        refine AL_region [1, 28, 29, 40, 41, 263, 264, 265] [232] [] ⟨[], [], []⟩ [] (by kernel_rfl) (by kernel_rfl) (by kernel_rfl) (fun K hK => by simp (decide := true) only [go_sem, Nat.reduceAdd, Nat.reduceMul, c71, c72, c73]; refine ⟨_, _, _, impl_HolesIn.V g74, ?_⟩; simp (decide := true) only [go_sem, Nat.reduceAdd, Nat.reduceMul, c71, c72, c73]; exact hK) ?_
                        refine AL_seq ?_
                        rcases ite_or h with ⟨c75, h⟩ | ⟨c75, h⟩
                        ·
                          refine AL_region [1, 28, 29, 263, 264, 265, 283] [232] [] ⟨[], [], []⟩ [(2, 279)] (by kernel_rfl) (by kernel_rfl) (by kernel_rfl) (fun K hK => by simp (decide := true) only [go_sem, Nat.reduceAdd, Nat.reduceMul, c71, c72, c73, c75]; exact hK) ?_
                          rcases ite_or h with ⟨c76, h⟩ | ⟨c76, h⟩
                          ·
                            replace c76 := eq_true c76
                            refine AL_then (by simp (decide := true) only [go_sem, Nat.reduceAdd, Nat.reduceMul, c71, c72, c73, c75, c76]) ?_
                            refine AL_seq ?_
                            refine AL_region [4] [] [] ⟨[], [], []⟩ [] (by kernel_rfl) (by kernel_rfl) (by kernel_rfl) (fun K hK => by simp (decide := true) only [go_sem, Nat.reduceAdd, Nat.reduceMul, c71, c72, c73, c75, c76]; exact hK) ?_
                            obtain rfl := Option.some.inj h
                            refine AL_ret (fun _ => rfl) ?_
                            exact retF_mk rfl (by exact ⟨trivial, trivial⟩) rfl (by exact rfl) (by exact trivial) (by exact trivial)
                          ·
                            replace c76 := eq_false c76
                            refine AL_else (by simp (decide := true) only [go_sem, Nat.reduceAdd, Nat.reduceMul, c71, c72, c73, c75, c76]) ?_
                            refine AL_skip ?_
                            refine blockQ_n ?_
                            refine AL_region [1, 28, 29, 263, 264, 265] [232] [] ⟨[], [], []⟩ [] (by kernel_rfl) (by kernel_rfl) (by kernel_rfl) (fun K hK => by simp (decide := true) only [go_sem, Nat.reduceAdd, Nat.reduceMul, c71, c72, c73, c75, c76]; exact hK) ?_
                            refine AL_again (m := n70) (by omega) ?_
                            exact ⟨_, _, _, _, _, _, _, _, _, _, _, by omega, h, At_keep [1, 28, 29, 263, 264, 265] [232]⟩
                        ·
                          replace c75 := Bool.of_not_eq_true c75
                          refine AL_region [1, 28, 29, 263, 264, 265, 283] [232] [] ⟨[], [], []⟩ [(2, 279)] (by kernel_rfl) (by kernel_rfl) (by kernel_rfl) (fun K hK => by simp (decide := true) only [go_sem, Nat.reduceAdd, Nat.reduceMul, c71, c72, c73, c75]; exact hK) ?_
                          refine AL_then (by simp (decide := true) only [go_sem, Nat.reduceAdd, Nat.reduceMul, c71, c72, c73, c75]) ?_
                          refine AL_seq ?_
                          refine AL_region [4] [] [] ⟨[], [], []⟩ [] (by kernel_rfl) (by kernel_rfl) (by kernel_rfl) (fun K hK => by simp (decide := true) only [go_sem, Nat.reduceAdd, Nat.reduceMul, c71, c72, c73, c75]; exact hK) ?_
                          obtain rfl := Option.some.inj h
                          refine AL_ret (fun _ => rfl) ?_
                          exact retF_mk rfl (by exact ⟨trivial, trivial⟩) rfl (by exact rfl) (by exact trivial) (by exact trivial)
                      ·
                        replace c71 := eq_false c71
                        refine AL_else (by simp (decide := true) only [go_sem, Nat.reduceAdd, Nat.reduceMul, c71]) ?_
                        refine AL_exit ?_
                        repeat first | refine thenQ_x ?_ | refine blockQ_miss (by decide) ?_
                        refine blockQ_hit ?_
                        refine AL_seq ?_
                        obtain ⟨⟨t787, t788, t789, t790, t791, t792, t793, t794⟩, g77, h⟩ := bind_or h
                        dsimp only at h
                        refine AL_region [42, 43] [344, 352] [] ⟨[], [], []⟩ [] (by kernel_rfl) (by kernel_rfl) (by kernel_rfl) (fun K hK => by simp (decide := true) only [go_sem, Nat.reduceAdd, Nat.reduceMul, c71]; refine ⟨_, _, _, spec_DrawBlockOfHole.V g77, ?_⟩; simp (decide := true) only [go_sem, Nat.reduceAdd, Nat.reduceMul, c71]; exact hK) ?_
                        refine AL_seq ?_
                        obtain ⟨⟨t797, t798⟩, g78, h⟩ := bind_or h
                        dsimp only at h
                        refine AL_region [42, 43, 44, 45] [344, 352] [] ⟨[], [], []⟩ [] (by kernel_rfl) (by kernel_rfl) (by kernel_rfl) (fun K hK => by simp (decide := true) only [go_sem, Nat.reduceAdd, Nat.reduceMul, c71]; refine ⟨_, _, _, impl_BlockOfHole.V g78, ?_⟩; simp (decide := true) only [go_sem, Nat.reduceAdd, Nat.reduceMul, c71]; exact hK) ?_
                        refine AL_seq ?_
                        obtain ⟨⟨t799, t800⟩, g79, h⟩ := bind_or h
                        dsimp only at h
                        refine AL_region [44, 45, 46, 47] [] [] ⟨[], [], []⟩ [] (by kernel_rfl) (by kernel_rfl) (by kernel_rfl) (fun K hK => by simp (decide := true) only [go_sem, Nat.reduceAdd, Nat.reduceMul, c71]; refine ⟨_, _, _, spec_BlockOfHole.V g79, ?_⟩; simp (decide := true) only [go_sem, Nat.reduceAdd, Nat.reduceMul, c71]; exact hK) ?_
                        refine AL_seq ?_
                        rcases ite_or h with ⟨c80, h⟩ | ⟨c80, h⟩
                        ·
                          try simp only [ibeq, ibne, Bool.true_bne, Bool.false_bne, Bool.bne_true, Bool.bne_false, Bool.true_beq, Bool.false_beq, Bool.not_eq_true', Bool.not_eq_false', c71] at c80
                          refine AL_region [4] [] [] ⟨[], [], []⟩ [(3, 305)] (by kernel_rfl) (by kernel_rfl) (by kernel_rfl) (fun K hK => by simp (decide := true) only [go_sem, Nat.reduceAdd, Nat.reduceMul, c71, c80]; exact hK) ?_
                          obtain rfl := Option.some.inj h
                          refine AL_ret (fun _ => rfl) ?_
                          exact retF_mk rfl (by exact ⟨trivial, trivial⟩) rfl (by exact rfl) (by exact trivial) (by exact trivial)
                        ·
                          replace c80 := Bool.of_not_eq_true c80
                          try simp only [ibeq, ibne, Bool.true_bne, Bool.false_bne, Bool.bne_true, Bool.bne_false, Bool.true_beq, Bool.false_beq, Bool.not_eq_true', Bool.not_eq_false', c71] at c80
                          refine AL_region [4] [] [] ⟨[], [], []⟩ [(3, 305)] (by kernel_rfl) (by kernel_rfl) (by kernel_rfl) (fun K hK => by simp (decide := true) only [go_sem, Nat.reduceAdd, Nat.reduceMul, c71, c80]; exact hK) ?_
                          obtain rfl := Option.some.inj h
                          refine AL_ret (fun _ => rfl) ?_
                          exact retF_mk rfl (by exact ⟨trivial, trivial⟩) rfl (by exact rfl) (by exact trivial) (by exact trivial)
              ·
                replace c57 := Bool.of_not_eq_true c57
                refine AL_else (by simp (decide := true) only [go_sem, Nat.reduceAdd, Nat.reduceMul, c56, c57]) ?_
                refine AL_skip ?_
                refine AL_seq ?_
                obtain ⟨⟨t801, t802, t803, t804, t805, t806, t807, t808⟩, g81, h⟩ := bind_or h
                dsimp only at h
                refine AL_region [42, 43] [344, 352] [] ⟨[], [], []⟩ [] (by kernel_rfl) (by kernel_rfl) (by kernel_rfl) (fun K hK => by simp (decide := true) only [go_sem, Nat.reduceAdd, Nat.reduceMul, c56, c57]; refine ⟨_, _, _, spec_DrawBlockOfHole.V g81, ?_⟩; simp (decide := true) only [go_sem, Nat.reduceAdd, Nat.reduceMul, c56, c57]; exact hK) ?_
                refine AL_seq ?_
                obtain ⟨⟨t811, t812⟩, g82, h⟩ := bind_or h
                dsimp only at h
                refine AL_region [42, 43, 44, 45] [344, 352] [] ⟨[], [], []⟩ [] (by kernel_rfl) (by kernel_rfl) (by kernel_rfl) (fun K hK => by simp (decide := true) only [go_sem, Nat.reduceAdd, Nat.reduceMul, c56, c57]; refine ⟨_, _, _, impl_BlockOfHole.V g82, ?_⟩; simp (decide := true) only [go_sem, Nat.reduceAdd, Nat.reduceMul, c56, c57]; exact hK) ?_
                refine AL_seq ?_
                obtain ⟨⟨t813, t814⟩, g83, h⟩ := bind_or h
                dsimp only at h
                refine AL_region [44, 45, 46, 47] [] [] ⟨[], [], []⟩ [] (by kernel_rfl) (by kernel_rfl) (by kernel_rfl) (fun K hK => by simp (decide := true) only [go_sem, Nat.reduceAdd, Nat.reduceMul, c56, c57]; refine ⟨_, _, _, spec_BlockOfHole.V g83, ?_⟩; simp (decide := true) only [go_sem, Nat.reduceAdd, Nat.reduceMul, c56, c57]; exact hK) ?_
                refine AL_seq ?_
                rcases ite_or h with ⟨c84, h⟩ | ⟨c84, h⟩
                ·
                  try simp only [ibeq, ibne, Bool.true_bne, Bool.false_bne, Bool.bne_true, Bool.bne_false, Bool.true_beq, Bool.false_beq, Bool.not_eq_true', Bool.not_eq_false', c56, c57] at c84
                  refine AL_region [4] [] [] ⟨[], [], []⟩ [(3, 305)] (by kernel_rfl) (by kernel_rfl) (by kernel_rfl) (fun K hK => by simp (decide := true) only [go_sem, Nat.reduceAdd, Nat.reduceMul, c56, c57, c84]; exact hK) ?_
                  obtain rfl := Option.some.inj h
                  refine AL_ret (fun _ => rfl) ?_
                  exact retF_mk rfl (by exact ⟨trivial, trivial⟩) rfl (by exact rfl) (by exact trivial) (by exact trivial)
                ·
                  replace c84 := Bool.of_not_eq_true c84
                  try simp only [ibeq, ibne, Bool.true_bne, Bool.false_bne, Bool.bne_true, Bool.bne_false, Bool.true_beq, Bool.false_beq, Bool.not_eq_true', Bool.not_eq_false', c56, c57] at c84
                  refine AL_region [4] [] [] ⟨[], [], []⟩ [(3, 305)] (by kernel_rfl) (by kernel_rfl) (by kernel_rfl) (fun K hK => by simp (decide := true) only [go_sem, Nat.reduceAdd, Nat.reduceMul, c56, c57, c84]; exact hK) ?_
                  obtain rfl := Option.some.inj h
                  refine AL_ret (fun _ => rfl) ?_
                  exact retF_mk rfl (by exact ⟨trivial, trivial⟩) rfl (by exact rfl) (by exact trivial) (by exact trivial)
end Go.Proofs.Ytfakhgopbhnocaa.PFnHoles
