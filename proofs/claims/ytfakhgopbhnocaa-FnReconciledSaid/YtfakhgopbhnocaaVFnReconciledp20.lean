/- Each function's run, shown to compute what its plain function says. -/
import Derived.Test.YtfakhgopbhnocaaVFnReconciledp19
import Derived.KernelRfl
set_option linter.unusedVariables false
set_option linter.unusedSimpArgs false
namespace Go.Proofs.Ytfakhgopbhnocaa.PFnReconciled
open Go Go.Proofs.YtfakhgopbhnocaaVM Go.Proofs.Ytfakhgopbhnocaa.VE Go.RowKit Go.Proofs.YtfakhgopbhnocaaW.PrintWords Go.Proofs.YtfakhgopbhnocaaW.PrintLast Go.Proofs.YtfakhgopbhnocaaW.PrintMore
attribute [local go_sem] runF_nil runF_cons kG_go kG_store kG_skip kG_pass kS_go kS_call kQ_go flagB_no inFl_some inFl_store hasB_nil hasB_hit hasB_miss flagB_eq clB_no wrB_no clB_yes wrB_store wrB_call opdL_load opdL_index opdL_len nm0_eq nmV_nil nmV_cons pt0_ptr pt0_int pt0_bool pt0_sl pt0_nil pt0_ref pt0_agg guardB_none guardB_some gL_some gB_true gB_false gB_skip look_hit look_miss tg_hit tg_miss bg_hit bg_miss ev_tmp ev_int ev_bool ev_nil ev_agg sQ_some stO_move stO_assign stO_pick stO_un stO_bin stO_field stO_load stO_index stO_extract stO_conv stO_box stO_alloc stO_len stO_call qUn_not qUn_neg qPick_true qPick_false qField_ptr qField_fat qLd_some qConv_some sB_some sA_some qLen_sl qLen_nil boxV_agg boxV_int boxV_bool boxV_nil boxV_sl boxV_ref qBin_add qBin_sub qBin_mul qBin_quo qBin_rem qBin_and qBin_or qBin_shr qBin_shl qBin_eql qBin_neq qBin_lss qBin_leq qBin_gtr qBin_geq qBin_beq qBin_bne qEx_tup keepT_cons keepB_nil keepB_cons keepT_nil qLoad_fat1 qLoad_fat2 qLoad_ptr ldB_box1 ld1_some ldB_box2 ldB_row ldR_1 ldR_2 unc_int unc_bool unc_nil unc_ref unc_sl unc_con_sl unc_con_nil rt_int rt_bool rt_nil rt_sl qIndex_sl ixT_some ixS_some qIndex_ref ixR_some ixR1_some argPtr_nil argPtr_ptr argPtr_int argPtr_bool argPtr_sl argPtr_ref argPtr_nl argPtr_agg memIn_none memIn_some mi1_box mi2_some viewL_int viewL_bool viewL_nil viewL_sl viewL_ref vwR_some cons2_some viewLs_nil viewLs_cons viewAs_nil viewAs_cons viewA_int viewA_bool viewA_nil viewA_sl viewA_ref viewA_agg agg1_some viewA_ptr sC_go sC2_some renT_int renT_bool renT_nil renT_sl renT_agg renT_tup renA_int renA_bool renA_nil renA_sl renA_agg renL_int renL_bool renL_nil renL_sl rowsD_nil memD_none memD_some md1_box mergeL_nil mergeL_int mergeL_bool mergeL_sl mergeL_nl stO_build sP_some sF_some fillV_nil fillV_cons fl1_go stO_nilCheck qNil_ptr stO_min qMin_int stO_max qMax_int stO_make sMe_some sM_some stO_slice sSe_some sS_own sS_fix rowsV_nil rowsV_cons rv1_some rowV_int rowV_bool rowV_nil rowV_sl rowV_agg stO_append sApp_new sApp_on qStore_eq qS2_some qS1_some qApp_eq qA0_some qA1_some qA2_nil qA2_ref stored1_ptr st1_box st1_row setL_nil setL_cons qA3_some absB_t absB_b0 absB_b1 absB_nil noBB_row noBB_box noTB_int noAB_int noLB_int killT_int killA_int killL_int noTB_bool noAB_bool noLB_bool killT_bool killA_bool killL_bool noTB_nil noAB_nil noLB_nil killT_nil killA_nil killL_nil noTB_und noAB_und noLB_und killT_und killA_und killL_und noTB_skip noAB_skip noLB_skip killT_skip killA_skip killL_skip noTB_sl noAB_sl noLB_sl killT_sl killA_sl killL_sl noTB_fat noAB_fat noLB_fat killT_fat killA_fat killL_fat noTB_ref noAB_ref noLB_ref killT_ref0 killT_ref killA_ref0 killA_ref killL_ref0 killL_ref noTB_ptr noAB_ptr noLB_ptr killT_ptr0 killT_ptr killA_ptr0 killA_ptr killL_ptr0 killL_ptr noTB_agg noAB_agg noTB_tup noLB_con_sl noLB_con_nil killT_agg killA_agg killT_tup killL_con_sl killL_con_nil killTL_nil killTL_cons killBL_nil killBL_none killBL_row killBL_box shut1_int shut1_bool shut1_nil shut1_sl scal_int scal_bool known1_int known1_bool known1_nil known1_sl known1_ref opdL_call nm0_func intsOf_nil intsOf_cons qBin_eqA qBin_neA eqA_eq eqA_ne nil_beq renT_ref renA_ref renL_ref rowsD_cons qLen_refR lenR_some tn_lt rowI_getn rowI_set nlit rowI_scal mp_nil rowI_cons rowI_len mkI_eq mkB_eq mp_length mp_app mp_ne rowI_one rowI_zero ibeq ibne true_and and_true and_self decide_true decide_false Bool.not_true Bool.not_false Bool.not_not List.length_map List.length_cons List.length_nil List.getElem?_cons_zero List.getElem?_cons_succ List.drop_zero List.drop_succ_cons List.take_succ_cons List.take_zero List.map_cons List.map_nil List.all_cons List.all_nil Bool.and_true Bool.true_and List.getD_cons_zero List.getD_cons_succ List.set_cons_zero List.set_cons_succ Option.isSome_none Option.isSome_some List.nil_append List.cons_append List.append_eq List.append_nil List.length_append cond_true cond_false ne_eq List.map_eq_nil_iff not_false_eq_true List.cons_ne_nil Bool.true_bne Bool.false_bne Bool.bne_true Bool.bne_false Bool.true_beq Bool.false_beq Int.zero_sub List.cons_beq_cons Option.map_some true_or or_true beq_self_eq_true Nat.zero_lt_succ ti_3 ti_5 ti_22 ti_24 ti_25 ti_27 ti_68 ti_127 ti_129 el_22 el_25 el_32 el_60 el_205 fo_24_0 fo_24_1 fo_24_2 fo_27_0 fo_27_1 fo_27_2 fo_27_3 fo_68_0 fo_68_1 fo_68_2 fo_68_3 fo_68_4 fo_129_0 fo_129_1 fo_129_2 bo_4 io_3 io_5 io_127 pl_24 pl_27 pl_68 pl_129 eqs_24 loud_3 loud_8 loud_9 loud_10 loud_11 loud_12 loud_13 loud_14 loud_15 loud_16 loud_17 loud_18 loud_19 loud_20 loud_21 loud_22 loud_34 loud_36 loud_94 loud_95 loud_96 loud_97 loud_98 loud_99 loud_100 loud_101 loud_102 loud_103 loud_104 loud_105 loud_106 loud_107 loud_108 loud_109 loud_110 loud_111 loud_112 loud_117 loud_119 loud_120 loud_121 loud_122 loud_131 loud_136 loud_145 loud_177 loud_178 loud_179 loud_180 loud_181 loud_182 loud_183 loud_184 loud_185 loud_189 i64w wl mx_rule mn_rule rowI_get rowB_get mkS24_eq rowS24_get rowS24_one rowS24_cons rowS24_len mkL_eq rowL_one rowL_cons rowL_len rowL_get
/-! laws_FnReconciled : 3 -/
set_option maxRecDepth 100000 in
set_option maxHeartbeats 4000000 in
theorem laws_FnReconciled.V {k : Nat} {l0 : List Int} {l1 : List Int} {r : Bool} (h : laws_FnReconciled.f k l0 l1 = some r) : FnV E 3 [.sl false 1 (mp mkB l0), .sl false 1 (mp mkB l1)] none (.bool r) [] none := by
  refine FnV_list E (rs := [.tmp 4]) Try.func3 (by rfl) rfl Try.ntmps3 rfl [] (by simp) rfl (by simp) rfl (fun us => ?_)
  simp only [argsL, memL, wrapL, wrap1, Nat.reduceAdd]
  unfold laws_FnReconciled.f at h
  refine AL_seq ?_
  refine AL_region [0, 1] [] [] ⟨[], [], []⟩ [] (by kernel_rfl) (by kernel_rfl) (by kernel_rfl) (fun K hK => by simp (decide := true) only [go_sem, Nat.reduceAdd, Nat.reduceMul]; exact hK) ?_
  refine AL_seq ?_
  refine AL_seq ?_
  refine AL_region [0, 1, 62] [] [] ⟨[], [], []⟩ [] (by kernel_rfl) (by kernel_rfl) (by kernel_rfl) (fun K hK => by simp (decide := true) only [go_sem, Nat.reduceAdd, Nat.reduceMul]; exact hK) ?_
  rcases ite_or h with ⟨c1, h⟩ | ⟨c1, h⟩
  ·
    replace c1 := eq_true c1
    refine AL_then (by simp (decide := true) only [go_sem, Nat.reduceAdd, Nat.reduceMul, c1]) ?_
    refine AL_seq ?_
    refine AL_region [4] [] [] ⟨[], [], []⟩ [] (by kernel_rfl) (by kernel_rfl) (by kernel_rfl) (fun K hK => by simp (decide := true) only [go_sem, Nat.reduceAdd, Nat.reduceMul, c1]; exact hK) ?_
    obtain rfl := Option.some.inj h
    refine AL_ret (fun _ => rfl) ?_
    exact retF_mk rfl (by exact ⟨trivial, trivial⟩) rfl (by exact rfl) (by exact trivial) (by exact trivial)
  ·
    replace c1 := eq_false c1
    refine AL_else (by simp (decide := true) only [go_sem, Nat.reduceAdd, Nat.reduceMul, c1]) ?_
    refine AL_skip ?_
    refine AL_seq ?_
    obtain ⟨⟨t660, t661, t662, t663, t666, t669, t672, t673, t674, t675, t678, t681, t684, t687⟩, g2, h⟩ := bind_or h
    dsimp only at h
    refine AL_region [1, 5, 6, 7, 8] [48, 56] [] ⟨[], [], []⟩ [] (by kernel_rfl) (by kernel_rfl) (by kernel_rfl) (fun K hK => by simp (decide := true) (maxSteps := 4000000) only [go_sem, Nat.reduceAdd, Nat.reduceMul, c1]; refine ⟨_, _, _, spec_DrawFactorOf.V g2, ?_⟩; simp (decide := true) (maxSteps := 4000000) only [go_sem, Nat.reduceAdd, Nat.reduceMul, c1]; exact hK) ?_
    refine AL_seq ?_
    obtain ⟨⟨t690, t691, t692⟩, g3, h⟩ := bind_or h
    dsimp only at h
    refine AL_region [1, 5, 6, 7, 8, 9, 10, 11] [48, 56] [] ⟨[], [], []⟩ [] (by kernel_rfl) (by kernel_rfl) (by kernel_rfl) (fun K hK => by simp (decide := true) (maxSteps := 4000000) only [go_sem, Nat.reduceAdd, Nat.reduceMul, c1]; refine ⟨_, _, _, impl_FactorOf.V g3, ?_⟩; simp (decide := true) (maxSteps := 4000000) only [go_sem, Nat.reduceAdd, Nat.reduceMul, c1]; exact hK) ?_
    refine AL_seq ?_
    obtain ⟨⟨t693, t694, t695⟩, g4, h⟩ := bind_or h
    dsimp only at h
    refine AL_region [1, 5, 6, 7, 8, 9, 10, 11, 12, 13, 14] [48, 56] [] ⟨[], [], []⟩ [] (by kernel_rfl) (by kernel_rfl) (by kernel_rfl) (fun K hK => by simp (decide := true) (maxSteps := 4000000) only [go_sem, Nat.reduceAdd, Nat.reduceMul, c1]; refine ⟨_, _, _, spec_FactorOf.V g4, ?_⟩; simp (decide := true) (maxSteps := 4000000) only [go_sem, Nat.reduceAdd, Nat.reduceMul, c1]; exact hK) ?_
    refine AL_seq ?_
    obtain ⟨⟨t696, t699⟩, g5, h⟩ := bind_or h
    dsimp only at h
    refine AL_region [1, 5, 6, 7, 8, 9, 10, 11, 12, 13, 14, 15, 16] [48, 56] [] ⟨[], [], []⟩ [] (by kernel_rfl) (by kernel_rfl) (by kernel_rfl) (fun K hK => by simp (decide := true) only [go_sem, Nat.reduceAdd, Nat.reduceMul, c1]; refine ⟨_, _, _, impl_LevelGaps.V g5, ?_⟩; simp (decide := true) only [go_sem, Nat.reduceAdd, Nat.reduceMul, c1]; exact hK) ?_
    refine AL_seq ?_
    obtain ⟨⟨t700, t703⟩, g6, h⟩ := bind_or h
    dsimp only at h
    refine AL_region [1, 5, 6, 7, 8, 9, 10, 11, 12, 13, 14, 15, 16, 17, 18] [48, 56] [] ⟨[], [], []⟩ [] (by kernel_rfl) (by kernel_rfl) (by kernel_rfl) (fun K hK => by simp (decide := true) only [go_sem, Nat.reduceAdd, Nat.reduceMul, c1]; refine ⟨_, _, _, spec_LevelGaps.V g6, ?_⟩; simp (decide := true) only [go_sem, Nat.reduceAdd, Nat.reduceMul, c1]; exact hK) ?_
    refine AL_seq ?_
    obtain ⟨⟨t704, t705⟩, g7, h⟩ := bind_or h
    dsimp only at h
    refine AL_region [1, 5, 6, 7, 8, 9, 10, 11, 12, 13, 14, 15, 16, 17, 18, 19, 20] [48, 56] [] ⟨[], [], []⟩ [] (by kernel_rfl) (by kernel_rfl) (by kernel_rfl) (fun K hK => by simp (decide := true) only [go_sem, Nat.reduceAdd, Nat.reduceMul, c1]; refine ⟨_, _, _, impl_WorstLevel.V g7, ?_⟩; simp (decide := true) only [go_sem, Nat.reduceAdd, Nat.reduceMul, c1]; exact hK) ?_
    refine AL_seq ?_
    obtain ⟨⟨t706, t707⟩, g8, h⟩ := bind_or h
    dsimp only at h
    refine AL_region [1, 5, 6, 7, 8, 9, 10, 11, 12, 13, 14, 15, 16, 17, 18, 19, 20, 21, 22] [48, 56] [] ⟨[], [], []⟩ [] (by kernel_rfl) (by kernel_rfl) (by kernel_rfl) (fun K hK => by simp (decide := true) only [go_sem, Nat.reduceAdd, Nat.reduceMul, c1]; refine ⟨_, _, _, spec_WorstLevel.V g8, ?_⟩; simp (decide := true) only [go_sem, Nat.reduceAdd, Nat.reduceMul, c1]; exact hK) ?_
    refine AL_seq ?_
    obtain ⟨⟨t708, t709, t710, t711, t714, t717, t720, t723⟩, g9, h⟩ := bind_or h
    dsimp only at h
    refine AL_region [5, 6, 7, 8, 9, 10, 11, 12, 13, 14, 15, 16, 17, 18, 19, 20, 21, 22, 23, 24, 25] [48, 56, 192] [] ⟨[], [], []⟩ [] (by kernel_rfl) (by kernel_rfl) (by kernel_rfl) (fun K hK => by simp (decide := true) only [go_sem, Nat.reduceAdd, Nat.reduceMul, c1]; refine ⟨_, _, _, spec_DrawMilledShare.V g9, ?_⟩; simp (decide := true) only [go_sem, Nat.reduceAdd, Nat.reduceMul, c1]; exact hK) ?_
    refine AL_seq ?_
    obtain ⟨⟨t725, t726, t727⟩, g10, h⟩ := bind_or h
    dsimp only at h
    refine AL_region [5, 6, 7, 8, 9, 10, 11, 12, 13, 14, 15, 16, 17, 18, 19, 20, 21, 22, 23, 24, 25, 26, 27, 28] [48, 56, 192] [] ⟨[], [], []⟩ [] (by kernel_rfl) (by kernel_rfl) (by kernel_rfl) (fun K hK => by simp (decide := true) (maxSteps := 4000000) only [go_sem, Nat.reduceAdd, Nat.reduceMul, c1]; refine ⟨_, _, _, impl_MilledShare.V g10, ?_⟩; simp (decide := true) (maxSteps := 4000000) only [go_sem, Nat.reduceAdd, Nat.reduceMul, c1]; exact hK) ?_
    refine AL_seq ?_
    obtain ⟨⟨t728, t729, t730⟩, g11, h⟩ := bind_or h
    dsimp only at h
    refine AL_region [5, 6, 7, 8, 9, 10, 11, 12, 13, 14, 15, 16, 17, 18, 19, 20, 21, 22, 23, 24, 25, 26, 27, 28, 29, 30, 31] [48, 56, 192] [] ⟨[], [], []⟩ [] (by kernel_rfl) (by kernel_rfl) (by kernel_rfl) (fun K hK => by simp (decide := true) (maxSteps := 4000000) only [go_sem, Nat.reduceAdd, Nat.reduceMul, c1]; refine ⟨_, _, _, spec_MilledShare.V g11, ?_⟩; simp (decide := true) (maxSteps := 4000000) only [go_sem, Nat.reduceAdd, Nat.reduceMul, c1]; exact hK) ?_
    refine AL_seq ?_
    obtain ⟨⟨t731, t732⟩, g12, h⟩ := bind_or h
    dsimp only at h
    refine AL_region [5, 6, 7, 8, 9, 10, 11, 12, 13, 14, 15, 16, 17, 18, 19, 20, 21, 22, 23, 24, 25, 26, 27, 28, 29, 30, 31, 32, 33] [48, 56, 192] [] ⟨[], [], []⟩ [] (by kernel_rfl) (by kernel_rfl) (by kernel_rfl) (fun K hK => by simp (decide := true) only [go_sem, Nat.reduceAdd, Nat.reduceMul, c1]; refine ⟨_, _, _, impl_AreBeside.V g12, ?_⟩; simp (decide := true) only [go_sem, Nat.reduceAdd, Nat.reduceMul, c1]; exact hK) ?_
    refine AL_seq ?_
    obtain ⟨⟨t733, t734⟩, g13, h⟩ := bind_or h
    dsimp only at h
    refine AL_region [5, 6, 7, 8, 9, 10, 11, 12, 13, 14, 15, 16, 17, 18, 19, 20, 21, 22, 23, 24, 25, 26, 27, 28, 29, 30, 31, 32, 33, 34, 35] [48, 56, 192] [] ⟨[], [], []⟩ [] (by kernel_rfl) (by kernel_rfl) (by kernel_rfl) (fun K hK => by simp (decide := true) only [go_sem, Nat.reduceAdd, Nat.reduceMul, c1]; refine ⟨_, _, _, spec_AreBeside.V g13, ?_⟩; simp (decide := true) only [go_sem, Nat.reduceAdd, Nat.reduceMul, c1]; exact hK) ?_
    refine AL_seq ?_
    refine AL_seq ?_
    refine AL_cut (fun S => (∃ kk : Nat, ∃ x7 : List Int, ∃ x8 : Int, ∃ x11 : Bool, ∃ x12 : Int, ∃ x13 : Int, ∃ x16 : Bool, ∃ x17 : List (List Int), ∃ x21 : Int, ∃ x24 : List Int, ∃ x25 : Int, ∃ x28 : Bool, ∃ x29 : Int, ∃ x30 : Int, ∃ x217 : Bool, ∃ x689000 : Int, ∃ x689001 : Int, ∃ x689002 : Int, ∃ x689003 : List Int, ∃ x689004 : List Int, ∃ x689005 : List Int, ∃ x690000 : Int, ∃ x690001 : Int, ∃ x690002 : Int, ∃ x690003 : List Int, ∃ x690004 : List Int, ∃ x690005 : List Int, ∃ x725000 : Int, ∃ x725001 : Int, ∃ x725002 : Int, ∃ x725003 : List Int, ∃ x725004 : List Int, ∃ x725005 : List Int, kk ≤ k ∧ laws_FnReconciled.j0 kk x7 x8 x11 x12 x13 x16 x17 x21 x24 x25 x28 x29 x30 x217 x689000 x689001 x689002 x689003 x689004 x689005 x690000 x690001 x690002 x690003 x690004 x690005 x725000 x725001 x725002 x725003 x725004 x725005 = some r ∧ At [(5, .ptr 48 0 0), (6, .ptr 56 0 0), (7, .sl true 1 (mp mkI x7)), (8, .int .i64 x8), (11, .bool x11), (12, .int .i64 x12), (13, .int .i64 x13), (16, .bool x16), (17, .sl true 1 (mp mkL x17)), (21, .int .i64 x21), (23, .ptr 192 0 0), (24, .sl true 1 (mp mkI x24)), (25, .int .i64 x25), (28, .bool x28), (29, .int .i64 x29), (30, .int .i64 x30), (217, .bool x217)] [(48, some (.box [.int .i64 x689000, .int .i64 x689001, .int .i64 x689002, .sl true 1 (mp mkI x689003), .sl true 1 (mp mkI x689004), .sl true 1 (mp mkI x689005)])), (56, some (.box [.int .i64 x690000, .int .i64 x690001, .int .i64 x690002, .sl true 1 (mp mkI x690003), .sl true 1 (mp mkI x690004), .sl true 1 (mp mkI x690005)])), (192, some (.box [.int .i64 x725000, .int .i64 x725001, .int .i64 x725002, .sl true 1 (mp mkI x725003), .sl true 1 (mp mkI x725004), .sl true 1 (mp mkI x725005)]))] S)) ?_ ?_
    ·
      rcases ite_or h with ⟨c14, h⟩ | ⟨c14, h⟩
      ·
        try simp only [ibeq, ibne, Bool.true_bne, Bool.false_bne, Bool.bne_true, Bool.bne_false, Bool.true_beq, Bool.false_beq, Bool.not_eq_true', Bool.not_eq_false', c1] at c14
        refine AL_region [5, 6, 7, 8, 11, 12, 13, 16, 17, 21, 23, 24, 25, 28, 29, 30, 217] [48, 56, 192] [] ⟨[], [], []⟩ [(3, 149), (8, 154), (13, 159), (18, 164), (24, 170), (29, 175), (34, 180), (39, 185), (44, 190), (49, 195), (54, 200), (59, 205), (62, 208), (67, 213)] (by kernel_rfl) (by kernel_rfl) (by kernel_rfl) (fun K hK => by simp (decide := true) (maxSteps := 4000000) only [go_sem, Nat.reduceAdd, Nat.reduceMul, c1, c14]; exact hK) ?_
        refine AL_meet ?_
        exact ⟨_, _, _, _, _, _, _, _, _, _, _, _, _, _, _, _, _, _, _, _, _, _, _, _, _, _, _, _, _, _, _, _, _, by omega, h, At_keep [5, 6, 7, 8, 11, 12, 13, 16, 17, 21, 23, 24, 25, 28, 29, 30, 217] [48, 56, 192]⟩
      ·
        replace c14 := Bool.of_not_eq_true c14
        try simp only [ibeq, ibne, Bool.true_bne, Bool.false_bne, Bool.bne_true, Bool.bne_false, Bool.true_beq, Bool.false_beq, Bool.not_eq_true', Bool.not_eq_false', c1] at c14
        rcases ite_or h with ⟨c15, h⟩ | ⟨c15, h⟩
        ·
          replace c15 := eq_true c15
          rcases ite_or h with ⟨c16, h⟩ | ⟨c16, h⟩
          ·
            replace c16 := eq_true c16
            rcases ite_or h with ⟨c17, h⟩ | ⟨c17, h⟩
            ·
              try simp only [ibeq, ibne, Bool.true_bne, Bool.false_bne, Bool.bne_true, Bool.bne_false, Bool.true_beq, Bool.false_beq, Bool.not_eq_true', Bool.not_eq_false', c1, c14, c15, c16] at c17
              refine AL_region [5, 6, 7, 8, 11, 12, 13, 16, 17, 21, 23, 24, 25, 28, 29, 30, 217] [48, 56, 192] [] ⟨[], [], []⟩ [(3, 149), (8, 154), (13, 159), (18, 164), (24, 170), (29, 175), (34, 180), (39, 185), (44, 190), (49, 195), (54, 200), (59, 205), (62, 208), (67, 213)] (by kernel_rfl) (by kernel_rfl) (by kernel_rfl) (fun K hK => by simp (decide := true) (maxSteps := 4000000) only [go_sem, Nat.reduceAdd, Nat.reduceMul, c1, c14, c15, c16, c17]; exact hK) ?_
              refine AL_meet ?_
              exact ⟨_, _, _, _, _, _, _, _, _, _, _, _, _, _, _, _, _, _, _, _, _, _, _, _, _, _, _, _, _, _, _, _, _, by omega, h, At_keep [5, 6, 7, 8, 11, 12, 13, 16, 17, 21, 23, 24, 25, 28, 29, 30, 217] [48, 56, 192]⟩
            ·
              replace c17 := Bool.of_not_eq_true c17
              try simp only [ibeq, ibne, Bool.true_bne, Bool.false_bne, Bool.bne_true, Bool.bne_false, Bool.true_beq, Bool.false_beq, Bool.not_eq_true', Bool.not_eq_false', c1, c14, c15, c16] at c17
              obtain ⟨t735, g18, h⟩ := bind_or h
              rcases ite_or h with ⟨c19, h⟩ | ⟨c19, h⟩
              ·
                rcases ite_or h with ⟨c20, h⟩ | ⟨c20, h⟩
                ·
                  try simp only [ibeq, ibne, Bool.true_bne, Bool.false_bne, Bool.bne_true, Bool.bne_false, Bool.true_beq, Bool.false_beq, Bool.not_eq_true', Bool.not_eq_false', c1, c14, c15, c16, c17, c19] at c20
                  refine AL_region [5, 6, 7, 8, 11, 12, 13, 16, 17, 21, 23, 24, 25, 28, 29, 30, 217] [48, 56, 192] [] ⟨[], [], []⟩ [(3, 149), (8, 154), (13, 159), (18, 164), (24, 170), (29, 175), (34, 180), (39, 185), (44, 190), (49, 195), (54, 200), (59, 205), (62, 208), (67, 213)] (by kernel_rfl) (by kernel_rfl) (by kernel_rfl) (fun K hK => by simp (decide := true) (maxSteps := 4000000) only [go_sem, Nat.reduceAdd, Nat.reduceMul, c1, c14, c15, c16, c17, c19, c20]; refine ⟨_, _, _, laws_qLists.V g18, ?_⟩; simp (decide := true) (maxSteps := 4000000) only [go_sem, Nat.reduceAdd, Nat.reduceMul, c1, c14, c15, c16, c17, c19, c20]; exact hK) ?_
                  refine AL_meet ?_
                  exact ⟨_, _, _, _, _, _, _, _, _, _, _, _, _, _, _, _, _, _, _, _, _, _, _, _, _, _, _, _, _, _, _, _, _, by omega, h, At_keep [5, 6, 7, 8, 11, 12, 13, 16, 17, 21, 23, 24, 25, 28, 29, 30, 217] [48, 56, 192]⟩
                ·
                  replace c20 := Bool.of_not_eq_true c20
                  try simp only [ibeq, ibne, Bool.true_bne, Bool.false_bne, Bool.bne_true, Bool.bne_false, Bool.true_beq, Bool.false_beq, Bool.not_eq_true', Bool.not_eq_false', c1, c14, c15, c16, c17, c19] at c20
                  rcases ite_or h with ⟨c21, h⟩ | ⟨c21, h⟩
                  ·
                    replace c21 := eq_true c21
                    rcases ite_or h with ⟨c22, h⟩ | ⟨c22, h⟩
                    ·
                      try simp only [ibeq, ibne, Bool.true_bne, Bool.false_bne, Bool.bne_true, Bool.bne_false, Bool.true_beq, Bool.false_beq, Bool.not_eq_true', Bool.not_eq_false', c1, c14, c15, c16, c17, c19, c20, c21] at c22
                      refine AL_region [5, 6, 7, 8, 11, 12, 13, 16, 17, 21, 23, 24, 25, 28, 29, 30, 217] [48, 56, 192] [] ⟨[], [], []⟩ [(3, 149), (8, 154), (13, 159), (18, 164), (24, 170), (29, 175), (34, 180), (39, 185), (44, 190), (49, 195), (54, 200), (59, 205), (62, 208), (67, 213)] (by kernel_rfl) (by kernel_rfl) (by kernel_rfl) (fun K hK => by simp (decide := true) (maxSteps := 4000000) only [go_sem, Nat.reduceAdd, Nat.reduceMul, c1, c14, c15, c16, c17, c19, c20, c21, c22]; refine ⟨_, _, _, laws_qLists.V g18, ?_⟩; simp (decide := true) (maxSteps := 4000000) only [go_sem, Nat.reduceAdd, Nat.reduceMul, c1, c14, c15, c16, c17, c19, c20, c21, c22]; exact hK) ?_
                      refine AL_meet ?_
                      exact ⟨_, _, _, _, _, _, _, _, _, _, _, _, _, _, _, _, _, _, _, _, _, _, _, _, _, _, _, _, _, _, _, _, _, by omega, h, At_keep [5, 6, 7, 8, 11, 12, 13, 16, 17, 21, 23, 24, 25, 28, 29, 30, 217] [48, 56, 192]⟩
                    ·
                      replace c22 := Bool.of_not_eq_true c22
                      try simp only [ibeq, ibne, Bool.true_bne, Bool.false_bne, Bool.bne_true, Bool.bne_false, Bool.true_beq, Bool.false_beq, Bool.not_eq_true', Bool.not_eq_false', c1, c14, c15, c16, c17, c19, c20, c21] at c22
                      rcases ite_or h with ⟨c23, h⟩ | ⟨c23, h⟩
                      ·
                        replace c23 := eq_true c23
                        rcases ite_or h with ⟨c24, h⟩ | ⟨c24, h⟩
                        ·
                          replace c24 := eq_true c24
                          rcases ite_or h with ⟨c25, h⟩ | ⟨c25, h⟩
                          ·
                            try simp only [ibeq, ibne, Bool.true_bne, Bool.false_bne, Bool.bne_true, Bool.bne_false, Bool.true_beq, Bool.false_beq, Bool.not_eq_true', Bool.not_eq_false', c1, c14, c15, c16, c17, c19, c20, c21, c22, c23, c24] at c25
                            refine AL_region [5, 6, 7, 8, 11, 12, 13, 16, 17, 21, 23, 24, 25, 28, 29, 30, 217] [48, 56, 192] [] ⟨[], [], []⟩ [(3, 149), (8, 154), (13, 159), (18, 164), (24, 170), (29, 175), (34, 180), (39, 185), (44, 190), (49, 195), (54, 200), (59, 205), (62, 208), (67, 213)] (by kernel_rfl) (by kernel_rfl) (by kernel_rfl) (fun K hK => by simp (decide := true) (maxSteps := 4000000) only [go_sem, Nat.reduceAdd, Nat.reduceMul, c1, c14, c15, c16, c17, c19, c20, c21, c22, c23, c24, c25]; refine ⟨_, _, _, laws_qLists.V g18, ?_⟩; simp (decide := true) (maxSteps := 4000000) only [go_sem, Nat.reduceAdd, Nat.reduceMul, c1, c14, c15, c16, c17, c19, c20, c21, c22, c23, c24, c25]; exact hK) ?_
                            refine AL_meet ?_
                            exact ⟨_, _, _, _, _, _, _, _, _, _, _, _, _, _, _, _, _, _, _, _, _, _, _, _, _, _, _, _, _, _, _, _, _, by omega, h, At_keep [5, 6, 7, 8, 11, 12, 13, 16, 17, 21, 23, 24, 25, 28, 29, 30, 217] [48, 56, 192]⟩
                          ·
                            replace c25 := Bool.of_not_eq_true c25
                            try simp only [ibeq, ibne, Bool.true_bne, Bool.false_bne, Bool.bne_true, Bool.bne_false, Bool.true_beq, Bool.false_beq, Bool.not_eq_true', Bool.not_eq_false', c1, c14, c15, c16, c17, c19, c20, c21, c22, c23, c24] at c25
                            rcases ite_or h with ⟨c26, h⟩ | ⟨c26, h⟩
                            ·
                              try simp only [ibeq, ibne, Bool.true_bne, Bool.false_bne, Bool.bne_true, Bool.bne_false, Bool.true_beq, Bool.false_beq, Bool.not_eq_true', Bool.not_eq_false', c1, c14, c15, c16, c17, c19, c20, c21, c22, c23, c24, c25] at c26
                              refine AL_region [5, 6, 7, 8, 11, 12, 13, 16, 17, 21, 23, 24, 25, 28, 29, 30, 217] [48, 56, 192] [] ⟨[], [], []⟩ [(3, 149), (8, 154), (13, 159), (18, 164), (24, 170), (29, 175), (34, 180), (39, 185), (44, 190), (49, 195), (54, 200), (59, 205), (62, 208), (67, 213)] (by kernel_rfl) (by kernel_rfl) (by kernel_rfl) (fun K hK => by simp (decide := true) (maxSteps := 4000000) only [go_sem, Nat.reduceAdd, Nat.reduceMul, c1, c14, c15, c16, c17, c19, c20, c21, c22, c23, c24, c25, c26]; refine ⟨_, _, _, laws_qLists.V g18, ?_⟩; simp (decide := true) (maxSteps := 4000000) only [go_sem, Nat.reduceAdd, Nat.reduceMul, c1, c14, c15, c16, c17, c19, c20, c21, c22, c23, c24, c25, c26]; exact hK) ?_
                              refine AL_meet ?_
                              exact ⟨_, _, _, _, _, _, _, _, _, _, _, _, _, _, _, _, _, _, _, _, _, _, _, _, _, _, _, _, _, _, _, _, _, by omega, h, At_keep [5, 6, 7, 8, 11, 12, 13, 16, 17, 21, 23, 24, 25, 28, 29, 30, 217] [48, 56, 192]⟩
                            ·
                              replace c26 := Bool.of_not_eq_true c26
                              try simp only [ibeq, ibne, Bool.true_bne, Bool.false_bne, Bool.bne_true, Bool.bne_false, Bool.true_beq, Bool.false_beq, Bool.not_eq_true', Bool.not_eq_false', c1, c14, c15, c16, c17, c19, c20, c21, c22, c23, c24, c25] at c26
                              rcases ite_or h with ⟨c27, h⟩ | ⟨c27, h⟩
                              ·
                                try simp only [Bool.true_bne, Bool.false_bne, Bool.bne_true, Bool.bne_false, Bool.true_beq, Bool.false_beq, Bool.not_eq_true', Bool.not_eq_false', c27] at c25
                                rcases ite_or h with ⟨c28, h⟩ | ⟨c28, h⟩
                                ·
                                  try simp only [ibeq, ibne, Bool.true_bne, Bool.false_bne, Bool.bne_true, Bool.bne_false, Bool.true_beq, Bool.false_beq, Bool.not_eq_true', Bool.not_eq_false', c1, c14, c15, c16, c17, c19, c20, c21, c22, c23, c24, c25, c26, c27] at c28
                                  refine AL_region [5, 6, 7, 8, 11, 12, 13, 16, 17, 21, 23, 24, 25, 28, 29, 30, 217] [48, 56, 192] [] ⟨[], [], []⟩ [(3, 149), (8, 154), (13, 159), (18, 164), (24, 170), (29, 175), (34, 180), (39, 185), (44, 190), (49, 195), (54, 200), (59, 205), (62, 208), (67, 213)] (by kernel_rfl) (by kernel_rfl) (by kernel_rfl) (fun K hK => by simp (decide := true) (maxSteps := 4000000) only [go_sem, Nat.reduceAdd, Nat.reduceMul, c1, c14, c15, c16, c17, c19, c20, c21, c22, c23, c24, c25, c26, c27, c28]; refine ⟨_, _, _, laws_qLists.V g18, ?_⟩; simp (decide := true) (maxSteps := 4000000) only [go_sem, Nat.reduceAdd, Nat.reduceMul, c1, c14, c15, c16, c17, c19, c20, c21, c22, c23, c24, c25, c26, c27, c28]; exact hK) ?_
                                  refine AL_meet ?_
                                  exact ⟨_, _, _, _, _, _, _, _, _, _, _, _, _, _, _, _, _, _, _, _, _, _, _, _, _, _, _, _, _, _, _, _, _, by omega, h, At_keep [5, 6, 7, 8, 11, 12, 13, 16, 17, 21, 23, 24, 25, 28, 29, 30, 217] [48, 56, 192]⟩
                                ·
                                  replace c28 := Bool.of_not_eq_true c28
                                  try simp only [ibeq, ibne, Bool.true_bne, Bool.false_bne, Bool.bne_true, Bool.bne_false, Bool.true_beq, Bool.false_beq, Bool.not_eq_true', Bool.not_eq_false', c1, c14, c15, c16, c17, c19, c20, c21, c22, c23, c24, c25, c26, c27] at c28
                                  refine AL_region [5, 6, 7, 8, 11, 12, 13, 16, 17, 21, 23, 24, 25, 28, 29, 30, 217] [48, 56, 192] [] ⟨[], [], []⟩ [(3, 149), (8, 154), (13, 159), (18, 164), (24, 170), (29, 175), (34, 180), (39, 185), (44, 190), (49, 195), (54, 200), (59, 205), (62, 208), (67, 213)] (by kernel_rfl) (by kernel_rfl) (by kernel_rfl) (fun K hK => by simp (decide := true) (maxSteps := 4000000) only [go_sem, Nat.reduceAdd, Nat.reduceMul, c1, c14, c15, c16, c17, c19, c20, c21, c22, c23, c24, c25, c26, c27, c28]; refine ⟨_, _, _, laws_qLists.V g18, ?_⟩; simp (decide := true) (maxSteps := 4000000) only [go_sem, Nat.reduceAdd, Nat.reduceMul, c1, c14, c15, c16, c17, c19, c20, c21, c22, c23, c24, c25, c26, c27, c28]; exact hK) ?_
                                  refine AL_meet ?_
                                  exact ⟨_, _, _, _, _, _, _, _, _, _, _, _, _, _, _, _, _, _, _, _, _, _, _, _, _, _, _, _, _, _, _, _, _, by omega, h, At_keep [5, 6, 7, 8, 11, 12, 13, 16, 17, 21, 23, 24, 25, 28, 29, 30, 217] [48, 56, 192]⟩
                              ·
                                replace c27 := Bool.of_not_eq_true c27
                                try simp only [Bool.true_bne, Bool.false_bne, Bool.bne_true, Bool.bne_false, Bool.true_beq, Bool.false_beq, Bool.not_eq_true', Bool.not_eq_false', c27] at c25
                                rcases ite_or h with ⟨c29, h⟩ | ⟨c29, h⟩
                                ·
                                  try simp only [ibeq, ibne, Bool.true_bne, Bool.false_bne, Bool.bne_true, Bool.bne_false, Bool.true_beq, Bool.false_beq, Bool.not_eq_true', Bool.not_eq_false', c1, c14, c15, c16, c17, c19, c20, c21, c22, c23, c24, c25, c26, c27] at c29
                                  try simp only [Bool.true_bne, Bool.false_bne, Bool.bne_true, Bool.bne_false, Bool.true_beq, Bool.false_beq, Bool.not_eq_true', Bool.not_eq_false', c29] at c17
                                  refine AL_region [5, 6, 7, 8, 11, 12, 13, 16, 17, 21, 23, 24, 25, 28, 29, 30, 217] [48, 56, 192] [] ⟨[], [], []⟩ [(3, 149), (8, 154), (13, 159), (18, 164), (24, 170), (29, 175), (34, 180), (39, 185), (44, 190), (49, 195), (54, 200), (59, 205), (62, 208), (67, 213)] (by kernel_rfl) (by kernel_rfl) (by kernel_rfl) (fun K hK => by simp (decide := true) (maxSteps := 4000000) only [go_sem, Nat.reduceAdd, Nat.reduceMul, c1, c14, c15, c16, c17, c19, c20, c21, c22, c23, c24, c25, c26, c27, c29]; refine ⟨_, _, _, laws_qLists.V g18, ?_⟩; simp (decide := true) (maxSteps := 4000000) only [go_sem, Nat.reduceAdd, Nat.reduceMul, c1, c14, c15, c16, c17, c19, c20, c21, c22, c23, c24, c25, c26, c27, c29]; exact hK) ?_
                                  refine AL_meet ?_
                                  try simp only [c29, Bool.true_bne, Bool.false_bne, Bool.bne_true, Bool.bne_false] at h
                                  exact ⟨_, _, _, _, _, _, _, _, _, _, _, _, _, _, _, _, _, _, _, _, _, _, _, _, _, _, _, _, _, _, _, _, _, by omega, h, At_keep [5, 6, 7, 8, 11, 12, 13, 16, 17, 21, 23, 24, 25, 28, 29, 30, 217] [48, 56, 192]⟩
                                ·
                                  replace c29 := Bool.of_not_eq_true c29
                                  try simp only [ibeq, ibne, Bool.true_bne, Bool.false_bne, Bool.bne_true, Bool.bne_false, Bool.true_beq, Bool.false_beq, Bool.not_eq_true', Bool.not_eq_false', c1, c14, c15, c16, c17, c19, c20, c21, c22, c23, c24, c25, c26, c27] at c29
                                  try simp only [Bool.true_bne, Bool.false_bne, Bool.bne_true, Bool.bne_false, Bool.true_beq, Bool.false_beq, Bool.not_eq_true', Bool.not_eq_false', c29] at c17
                                  refine AL_region [5, 6, 7, 8, 11, 12, 13, 16, 17, 21, 23, 24, 25, 28, 29, 30, 217] [48, 56, 192] [] ⟨[], [], []⟩ [(3, 149), (8, 154), (13, 159), (18, 164), (24, 170), (29, 175), (34, 180), (39, 185), (44, 190), (49, 195), (54, 200), (59, 205), (62, 208), (67, 213)] (by kernel_rfl) (by kernel_rfl) (by kernel_rfl) (fun K hK => by simp (decide := true) (maxSteps := 4000000) only [go_sem, Nat.reduceAdd, Nat.reduceMul, c1, c14, c15, c16, c17, c19, c20, c21, c22, c23, c24, c25, c26, c27, c29]; refine ⟨_, _, _, laws_qLists.V g18, ?_⟩; simp (decide := true) (maxSteps := 4000000) only [go_sem, Nat.reduceAdd, Nat.reduceMul, c1, c14, c15, c16, c17, c19, c20, c21, c22, c23, c24, c25, c26, c27, c29]; exact hK) ?_
                                  refine AL_meet ?_
                                  try simp only [c29, Bool.true_bne, Bool.false_bne, Bool.bne_true, Bool.bne_false] at h
                                  exact ⟨_, _, _, _, _, _, _, _, _, _, _, _, _, _, _, _, _, _, _, _, _, _, _, _, _, _, _, _, _, _, _, _, _, by omega, h, At_keep [5, 6, 7, 8, 11, 12, 13, 16, 17, 21, 23, 24, 25, 28, 29, 30, 217] [48, 56, 192]⟩
                        ·
                          replace c24 := eq_false c24
                          refine AL_region [5, 6, 7, 8, 11, 12, 13, 16, 17, 21, 23, 24, 25, 28, 29, 30, 217] [48, 56, 192] [] ⟨[], [], []⟩ [(3, 149), (8, 154), (13, 159), (18, 164), (24, 170), (29, 175), (34, 180), (39, 185), (44, 190), (49, 195), (54, 200), (59, 205), (62, 208), (67, 213)] (by kernel_rfl) (by kernel_rfl) (by kernel_rfl) (fun K hK => by simp (decide := true) (maxSteps := 4000000) only [go_sem, Nat.reduceAdd, Nat.reduceMul, c1, c14, c15, c16, c17, c19, c20, c21, c22, c23, c24]; refine ⟨_, _, _, laws_qLists.V g18, ?_⟩; simp (decide := true) (maxSteps := 4000000) only [go_sem, Nat.reduceAdd, Nat.reduceMul, c1, c14, c15, c16, c17, c19, c20, c21, c22, c23, c24]; exact hK) ?_
                          refine AL_meet ?_
                          exact ⟨_, _, _, _, _, _, _, _, _, _, _, _, _, _, _, _, _, _, _, _, _, _, _, _, _, _, _, _, _, _, _, _, _, by omega, h, At_keep [5, 6, 7, 8, 11, 12, 13, 16, 17, 21, 23, 24, 25, 28, 29, 30, 217] [48, 56, 192]⟩
                      ·
                        replace c23 := eq_false c23
                        refine AL_region [5, 6, 7, 8, 11, 12, 13, 16, 17, 21, 23, 24, 25, 28, 29, 30, 217] [48, 56, 192] [] ⟨[], [], []⟩ [(3, 149), (8, 154), (13, 159), (18, 164), (24, 170), (29, 175), (34, 180), (39, 185), (44, 190), (49, 195), (54, 200), (59, 205), (62, 208), (67, 213)] (by kernel_rfl) (by kernel_rfl) (by kernel_rfl) (fun K hK => by simp (decide := true) (maxSteps := 4000000) only [go_sem, Nat.reduceAdd, Nat.reduceMul, c1, c14, c15, c16, c17, c19, c20, c21, c22, c23]; refine ⟨_, _, _, laws_qLists.V g18, ?_⟩; simp (decide := true) (maxSteps := 4000000) only [go_sem, Nat.reduceAdd, Nat.reduceMul, c1, c14, c15, c16, c17, c19, c20, c21, c22, c23]; exact hK) ?_
                        refine AL_meet ?_
                        exact ⟨_, _, _, _, _, _, _, _, _, _, _, _, _, _, _, _, _, _, _, _, _, _, _, _, _, _, _, _, _, _, _, _, _, by omega, h, At_keep [5, 6, 7, 8, 11, 12, 13, 16, 17, 21, 23, 24, 25, 28, 29, 30, 217] [48, 56, 192]⟩
                  ·
                    replace c21 := eq_false c21
                    refine AL_region [5, 6, 7, 8, 11, 12, 13, 16, 17, 21, 23, 24, 25, 28, 29, 30, 217] [48, 56, 192] [] ⟨[], [], []⟩ [(3, 149), (8, 154), (13, 159), (18, 164), (24, 170), (29, 175), (34, 180), (39, 185), (44, 190), (49, 195), (54, 200), (59, 205), (62, 208), (67, 213)] (by kernel_rfl) (by kernel_rfl) (by kernel_rfl) (fun K hK => by simp (decide := true) (maxSteps := 4000000) only [go_sem, Nat.reduceAdd, Nat.reduceMul, c1, c14, c15, c16, c17, c19, c20, c21]; refine ⟨_, _, _, laws_qLists.V g18, ?_⟩; simp (decide := true) (maxSteps := 4000000) only [go_sem, Nat.reduceAdd, Nat.reduceMul, c1, c14, c15, c16, c17, c19, c20, c21]; exact hK) ?_
                    refine AL_meet ?_
                    exact ⟨_, _, _, _, _, _, _, _, _, _, _, _, _, _, _, _, _, _, _, _, _, _, _, _, _, _, _, _, _, _, _, _, _, by omega, h, At_keep [5, 6, 7, 8, 11, 12, 13, 16, 17, 21, 23, 24, 25, 28, 29, 30, 217] [48, 56, 192]⟩
              ·
                replace c19 := Bool.of_not_eq_true c19
                refine AL_region [5, 6, 7, 8, 11, 12, 13, 16, 17, 21, 23, 24, 25, 28, 29, 30, 217] [48, 56, 192] [] ⟨[], [], []⟩ [(3, 149), (8, 154), (13, 159), (18, 164), (24, 170), (29, 175), (34, 180), (39, 185), (44, 190), (49, 195), (54, 200), (59, 205), (62, 208), (67, 213)] (by kernel_rfl) (by kernel_rfl) (by kernel_rfl) (fun K hK => by simp (decide := true) (maxSteps := 4000000) only [go_sem, Nat.reduceAdd, Nat.reduceMul, c1, c14, c15, c16, c17, c19]; refine ⟨_, _, _, laws_qLists.V g18, ?_⟩; simp (decide := true) (maxSteps := 4000000) only [go_sem, Nat.reduceAdd, Nat.reduceMul, c1, c14, c15, c16, c17, c19]; exact hK) ?_
                refine AL_meet ?_
                exact ⟨_, _, _, _, _, _, _, _, _, _, _, _, _, _, _, _, _, _, _, _, _, _, _, _, _, _, _, _, _, _, _, _, _, by omega, h, At_keep [5, 6, 7, 8, 11, 12, 13, 16, 17, 21, 23, 24, 25, 28, 29, 30, 217] [48, 56, 192]⟩
          ·
            replace c16 := eq_false c16
            refine AL_region [5, 6, 7, 8, 11, 12, 13, 16, 17, 21, 23, 24, 25, 28, 29, 30, 217] [48, 56, 192] [] ⟨[], [], []⟩ [(3, 149), (8, 154), (13, 159), (18, 164), (24, 170), (29, 175), (34, 180), (39, 185), (44, 190), (49, 195), (54, 200), (59, 205), (62, 208), (67, 213)] (by kernel_rfl) (by kernel_rfl) (by kernel_rfl) (fun K hK => by simp (decide := true) (maxSteps := 4000000) only [go_sem, Nat.reduceAdd, Nat.reduceMul, c1, c14, c15, c16]; exact hK) ?_
            refine AL_meet ?_
            exact ⟨_, _, _, _, _, _, _, _, _, _, _, _, _, _, _, _, _, _, _, _, _, _, _, _, _, _, _, _, _, _, _, _, _, by omega, h, At_keep [5, 6, 7, 8, 11, 12, 13, 16, 17, 21, 23, 24, 25, 28, 29, 30, 217] [48, 56, 192]⟩
        ·
          replace c15 := eq_false c15
          refine AL_region [5, 6, 7, 8, 11, 12, 13, 16, 17, 21, 23, 24, 25, 28, 29, 30, 217] [48, 56, 192] [] ⟨[], [], []⟩ [(3, 149), (8, 154), (13, 159), (18, 164), (24, 170), (29, 175), (34, 180), (39, 185), (44, 190), (49, 195), (54, 200), (59, 205), (62, 208), (67, 213)] (by kernel_rfl) (by kernel_rfl) (by kernel_rfl) (fun K hK => by simp (decide := true) (maxSteps := 4000000) only [go_sem, Nat.reduceAdd, Nat.reduceMul, c1, c14, c15]; exact hK) ?_
          refine AL_meet ?_
          exact ⟨_, _, _, _, _, _, _, _, _, _, _, _, _, _, _, _, _, _, _, _, _, _, _, _, _, _, _, _, _, _, _, _, _, by omega, h, At_keep [5, 6, 7, 8, 11, 12, 13, 16, 17, 21, 23, 24, 25, 28, 29, 30, 217] [48, 56, 192]⟩
    ·
      intro S hS
      obtain ⟨kk30, x7, x8, x11, x12, x13, x16, x17, x21, x24, x25, x28, x29, x30, x217, x689000, x689001, x689002, x689003, x689004, x689005, x690000, x690001, x690002, x690003, x690004, x690005, x725000, x725001, x725002, x725003, x725004, x725005, hkq31, h, hS⟩ := hS
      rcases kk30 with _ | n32
      · (rw [laws_FnReconciled.j0] at h; cases h)
      rw [laws_FnReconciled.j0] at h
      refine AW_at hS ?_
      rcases ite_or h with ⟨c33, h⟩ | ⟨c33, h⟩
      ·
        refine AL_then (by simp (decide := true) only [go_sem, Nat.reduceAdd, Nat.reduceMul, c33]) ?_
        refine AL_seq ?_
        refine AL_region [4] [] [] ⟨[], [], []⟩ [] (by kernel_rfl) (by kernel_rfl) (by kernel_rfl) (fun K hK => by simp (decide := true) only [go_sem, Nat.reduceAdd, Nat.reduceMul, c33]; exact hK) ?_
        obtain rfl := Option.some.inj h
        refine AL_ret (fun _ => rfl) ?_
        exact retF_mk rfl (by exact ⟨trivial, trivial⟩) rfl (by exact rfl) (by exact trivial) (by exact trivial)
      ·
        replace c33 := Bool.of_not_eq_true c33
        refine AL_else (by simp (decide := true) only [go_sem, Nat.reduceAdd, Nat.reduceMul, c33]) ?_
        refine AL_skip ?_
        refine AL_seq ?_
        refine AL_seq ?_
        refine AL_region [5, 6, 7, 8, 11, 12, 13, 16, 17, 21, 23, 24, 25, 29, 30, 218] [48, 56, 192] [] ⟨[], [], []⟩ [] (by kernel_rfl) (by kernel_rfl) (by kernel_rfl) (fun K hK => by simp (decide := true) only [go_sem, Nat.reduceAdd, Nat.reduceMul, c33]; exact hK) ?_
        refine AL_cut (fun S => (∃ kk : Nat, ∃ x7 : List Int, ∃ x8 : Int, ∃ x11 : Bool, ∃ x12 : Int, ∃ x13 : Int, ∃ x16 : Bool, ∃ x17 : List (List Int), ∃ x21 : Int, ∃ x689000 : Int, ∃ x689001 : Int, ∃ x689002 : Int, ∃ x689003 : List Int, ∃ x689004 : List Int, ∃ x689005 : List Int, ∃ x690000 : Int, ∃ x690001 : Int, ∃ x690002 : Int, ∃ x690003 : List Int, ∃ x690004 : List Int, ∃ x690005 : List Int, kk ≤ n32 ∧ laws_FnReconciled.j1 kk x7 x8 x11 x12 x13 x16 x17 x21 x689000 x689001 x689002 x689003 x689004 x689005 x690000 x690001 x690002 x690003 x690004 x690005 = some r ∧ At [(5, .ptr 48 0 0), (6, .ptr 56 0 0), (7, .sl true 1 (mp mkI x7)), (8, .int .i64 x8), (11, .bool x11), (12, .int .i64 x12), (13, .int .i64 x13), (16, .bool x16), (17, .sl true 1 (mp mkL x17)), (21, .int .i64 x21)] [(48, some (.box [.int .i64 x689000, .int .i64 x689001, .int .i64 x689002, .sl true 1 (mp mkI x689003), .sl true 1 (mp mkI x689004), .sl true 1 (mp mkI x689005)])), (56, some (.box [.int .i64 x690000, .int .i64 x690001, .int .i64 x690002, .sl true 1 (mp mkI x690003), .sl true 1 (mp mkI x690004), .sl true 1 (mp mkI x690005)]))] S)) ?_ ?_
        ·
          rcases ite_or h with ⟨c34, h⟩ | ⟨c34, h⟩
          ·
            refine AL_then (by simp (decide := true) only [go_sem, Nat.reduceAdd, Nat.reduceMul, c33, c34]) ?_
            refine AL_seq ?_
            obtain ⟨⟨t736, t737, t738⟩, g35, h⟩ := bind_or h
            dsimp only at h
            refine AL_region [5, 6, 7, 8, 11, 12, 13, 16, 17, 21, 25, 29, 30, 37, 38] [48, 56] [] ⟨[], [], []⟩ [] (by kernel_rfl) (by kernel_rfl) (by kernel_rfl) (fun K hK => by simp (decide := true) only [go_sem, Nat.reduceAdd, Nat.reduceMul, c33, c34]; refine ⟨_, _, _, impl_SumsOf.V g35, ?_⟩; simp (decide := true) only [go_sem, Nat.reduceAdd, Nat.reduceMul, c33, c34]; exact hK) ?_
            refine AL_seq ?_
            rcases ite_or h with ⟨c36, h⟩ | ⟨c36, h⟩
            ·
              refine AL_region [5, 6, 7, 8, 11, 12, 13, 16, 17, 21, 236] [48, 56] [] ⟨[], [], []⟩ [(2, 228)] (by kernel_rfl) (by kernel_rfl) (by kernel_rfl) (fun K hK => by simp (decide := true) (maxSteps := 4000000) only [go_sem, Nat.reduceAdd, Nat.reduceMul, c33, c34, c36]; exact hK) ?_
              rcases ite_or h with ⟨c37, h⟩ | ⟨c37, h⟩
              ·
                replace c37 := eq_true c37
                refine AL_else (by simp (decide := true) only [go_sem, Nat.reduceAdd, Nat.reduceMul, c33, c34, c36, c37]) ?_
                refine AL_skip ?_
                refine AL_meet ?_
                exact ⟨_, _, _, _, _, _, _, _, _, _, _, _, _, _, _, _, _, _, _, _, _, by omega, h, At_keep [5, 6, 7, 8, 11, 12, 13, 16, 17, 21] [48, 56]⟩
              ·
                replace c37 := eq_false c37
                refine AL_then (by simp (decide := true) only [go_sem, Nat.reduceAdd, Nat.reduceMul, c33, c34, c36, c37]) ?_
                refine AL_seq ?_
                refine AL_region [4] [] [] ⟨[], [], []⟩ [] (by kernel_rfl) (by kernel_rfl) (by kernel_rfl) (fun K hK => by simp (decide := true) only [go_sem, Nat.reduceAdd, Nat.reduceMul, c33, c34, c36, c37]; exact hK) ?_
                obtain rfl := Option.some.inj h
                refine AL_ret (fun _ => rfl) ?_
                exact retF_mk rfl (by exact ⟨trivial, trivial⟩) rfl (by exact rfl) (by exact trivial) (by exact trivial)
            ·
              replace c36 := Bool.of_not_eq_true c36
              refine AL_region [5, 6, 7, 8, 11, 12, 13, 16, 17, 21, 236] [48, 56] [] ⟨[], [], []⟩ [(2, 228)] (by kernel_rfl) (by kernel_rfl) (by kernel_rfl) (fun K hK => by simp (decide := true) (maxSteps := 4000000) only [go_sem, Nat.reduceAdd, Nat.reduceMul, c33, c34, c36]; exact hK) ?_
              refine AL_then (by simp (decide := true) only [go_sem, Nat.reduceAdd, Nat.reduceMul, c33, c34, c36]) ?_
              refine AL_seq ?_
              refine AL_region [4] [] [] ⟨[], [], []⟩ [] (by kernel_rfl) (by kernel_rfl) (by kernel_rfl) (fun K hK => by simp (decide := true) only [go_sem, Nat.reduceAdd, Nat.reduceMul, c33, c34, c36]; exact hK) ?_
              obtain rfl := Option.some.inj h
              refine AL_ret (fun _ => rfl) ?_
              exact retF_mk rfl (by exact ⟨trivial, trivial⟩) rfl (by exact rfl) (by exact trivial) (by exact trivial)
          ·
            replace c34 := Bool.of_not_eq_true c34
            refine AL_else (by simp (decide := true) only [go_sem, Nat.reduceAdd, Nat.reduceMul, c33, c34]) ?_
            refine AL_skip ?_
            refine AL_meet ?_
            exact ⟨_, _, _, _, _, _, _, _, _, _, _, _, _, _, _, _, _, _, _, _, _, by omega, h, At_keep [5, 6, 7, 8, 11, 12, 13, 16, 17, 21] [48, 56]⟩
        ·
          intro S hS
          obtain ⟨kk38, x7, x8, x11, x12, x13, x16, x17, x21, x689000, x689001, x689002, x689003, x689004, x689005, x690000, x690001, x690002, x690003, x690004, x690005, hkq39, h, hS⟩ := hS
          rcases kk38 with _ | n40
          · (rw [laws_FnReconciled.j1] at h; cases h)
          rw [laws_FnReconciled.j1] at h
          refine AW_at hS ?_
          refine AL_seq ?_
          refine AL_seq ?_
          refine AL_cut (fun S => (∃ kk : Nat, ∃ x7 : List Int, ∃ x8 : Int, ∃ x12 : Int, ∃ x13 : Int, ∃ x16 : Bool, ∃ x17 : List (List Int), ∃ x21 : Int, ∃ x241 : Bool, ∃ x689000 : Int, ∃ x689001 : Int, ∃ x689002 : Int, ∃ x689003 : List Int, ∃ x689004 : List Int, ∃ x689005 : List Int, ∃ x690000 : Int, ∃ x690001 : Int, ∃ x690002 : Int, ∃ x690003 : List Int, ∃ x690004 : List Int, ∃ x690005 : List Int, kk ≤ n40 ∧ laws_FnReconciled.j2 kk x7 x8 x12 x13 x16 x17 x21 x241 x689000 x689001 x689002 x689003 x689004 x689005 x690000 x690001 x690002 x690003 x690004 x690005 = some r ∧ At [(5, .ptr 48 0 0), (6, .ptr 56 0 0), (7, .sl true 1 (mp mkI x7)), (8, .int .i64 x8), (12, .int .i64 x12), (13, .int .i64 x13), (16, .bool x16), (17, .sl true 1 (mp mkL x17)), (21, .int .i64 x21), (241, .bool x241)] [(48, some (.box [.int .i64 x689000, .int .i64 x689001, .int .i64 x689002, .sl true 1 (mp mkI x689003), .sl true 1 (mp mkI x689004), .sl true 1 (mp mkI x689005)])), (56, some (.box [.int .i64 x690000, .int .i64 x690001, .int .i64 x690002, .sl true 1 (mp mkI x690003), .sl true 1 (mp mkI x690004), .sl true 1 (mp mkI x690005)]))] S)) ?_ ?_
          ·
            rcases ite_or h with ⟨c41, h⟩ | ⟨c41, h⟩
            ·
              refine AL_region [5, 6, 7, 8, 12, 13, 16, 17, 21, 241] [48, 56] [] ⟨[], [], []⟩ [(1, 238)] (by kernel_rfl) (by kernel_rfl) (by kernel_rfl) (fun K hK => by simp (decide := true) only [go_sem, Nat.reduceAdd, Nat.reduceMul, c41]; exact hK) ?_
              refine AL_meet ?_
              exact ⟨_, _, _, _, _, _, _, _, _, _, _, _, _, _, _, _, _, _, _, _, _, by omega, h, At_keep [5, 6, 7, 8, 12, 13, 16, 17, 21, 241] [48, 56]⟩
            ·
              replace c41 := Bool.of_not_eq_true c41
              refine AL_region [5, 6, 7, 8, 12, 13, 16, 17, 21, 241] [48, 56] [] ⟨[], [], []⟩ [(1, 238)] (by kernel_rfl) (by kernel_rfl) (by kernel_rfl) (fun K hK => by simp (decide := true) only [go_sem, Nat.reduceAdd, Nat.reduceMul, c41]; exact hK) ?_
              refine AL_meet ?_
              exact ⟨_, _, _, _, _, _, _, _, _, _, _, _, _, _, _, _, _, _, _, _, _, by omega, h, At_keep [5, 6, 7, 8, 12, 13, 16, 17, 21, 241] [48, 56]⟩
          ·
            intro S hS
            obtain ⟨kk42, x7, x8, x12, x13, x16, x17, x21, x241, x689000, x689001, x689002, x689003, x689004, x689005, x690000, x690001, x690002, x690003, x690004, x690005, hkq43, h, hS⟩ := hS
            rcases kk42 with _ | n44
            · (rw [laws_FnReconciled.j2] at h; cases h)
            rw [laws_FnReconciled.j2] at h
            refine AW_at hS ?_
            refine AL_cut (fun S => (∃ kk : Nat, ∃ x16 : Bool, ∃ x17 : List (List Int), ∃ x21 : Int, ∃ x689000 : Int, ∃ x689001 : Int, ∃ x689002 : Int, ∃ x689003 : List Int, ∃ x689004 : List Int, ∃ x689005 : List Int, ∃ x690000 : Int, ∃ x690001 : Int, ∃ x690002 : Int, ∃ x690003 : List Int, ∃ x690004 : List Int, ∃ x690005 : List Int, kk ≤ n44 ∧ laws_FnReconciled.j3 kk x16 x17 x21 x689000 x689001 x689002 x689003 x689004 x689005 x690000 x690001 x690002 x690003 x690004 x690005 = some r ∧ At [(5, .ptr 48 0 0), (6, .ptr 56 0 0), (16, .bool x16), (17, .sl true 1 (mp mkL x17)), (21, .int .i64 x21)] [(48, some (.box [.int .i64 x689000, .int .i64 x689001, .int .i64 x689002, .sl true 1 (mp mkI x689003), .sl true 1 (mp mkI x689004), .sl true 1 (mp mkI x689005)])), (56, some (.box [.int .i64 x690000, .int .i64 x690001, .int .i64 x690002, .sl true 1 (mp mkI x690003), .sl true 1 (mp mkI x690004), .sl true 1 (mp mkI x690005)]))] S)) ?_ ?_
            ·
              rcases ite_or h with ⟨c45, h⟩ | ⟨c45, h⟩
              ·
                refine AL_then (by simp (decide := true) only [go_sem, Nat.reduceAdd, Nat.reduceMul, c45]) ?_
                refine AL_seq ?_
                obtain ⟨⟨t739, t740, t741⟩, g46, h⟩ := bind_or h
                dsimp only at h
                refine AL_region [5, 6, 7, 8, 12, 13, 16, 17, 21, 39, 40, 41] [48, 56] [] ⟨[], [], []⟩ [] (by kernel_rfl) (by kernel_rfl) (by kernel_rfl) (fun K hK => by simp (decide := true) only [go_sem, Nat.reduceAdd, Nat.reduceMul, c45]; refine ⟨_, _, _, impl_SumsOf.V g46, ?_⟩; simp (decide := true) only [go_sem, Nat.reduceAdd, Nat.reduceMul, c45]; exact hK) ?_
                refine AL_seq ?_
                obtain ⟨⟨t742, t743, t744⟩, g47, h⟩ := bind_or h
                dsimp only at h
                refine AL_region [5, 6, 8, 12, 13, 16, 17, 21, 39, 40, 41, 42, 43, 44] [48, 56] [] ⟨[], [], []⟩ [] (by kernel_rfl) (by kernel_rfl) (by kernel_rfl) (fun K hK => by simp (decide := true) only [go_sem, Nat.reduceAdd, Nat.reduceMul, c45]; refine ⟨_, _, _, impl_SumsOf.V g47, ?_⟩; simp (decide := true) only [go_sem, Nat.reduceAdd, Nat.reduceMul, c45]; exact hK) ?_
                refine AL_seq ?_
                rcases ite_or h with ⟨c48, h⟩ | ⟨c48, h⟩
                ·
                  rcases ite_or h with ⟨c49, h⟩ | ⟨c49, h⟩
                  ·
                    rcases ite_or h with ⟨c50, h⟩ | ⟨c50, h⟩
                    ·
                      replace c50 := eq_true c50
                      rcases ite_or h with ⟨c51, h⟩ | ⟨c51, h⟩
                      ·
                        replace c51 := eq_true c51
                        rcases ite_or h with ⟨c52, h⟩ | ⟨c52, h⟩
                        ·
                          replace c52 := eq_true c52
                          refine AL_region [5, 6, 16, 17, 21, 287] [48, 56] [] ⟨[], [], []⟩ [(2, 258), (6, 262), (9, 265), (19, 275), (22, 278)] (by kernel_rfl) (by kernel_rfl) (by kernel_rfl) (fun K hK => by simp (decide := true) (maxSteps := 4000000) only [go_sem, Nat.reduceAdd, Nat.reduceMul, c45, c48, c49, c50, c51, c52]; exact hK) ?_
                          rcases ite_or h with ⟨c53, h⟩ | ⟨c53, h⟩
                          ·
                            replace c53 := eq_true c53
                            refine AL_else (by simp (decide := true) only [go_sem, Nat.reduceAdd, Nat.reduceMul, c45, c48, c49, c50, c51, c52, c53]) ?_
                            refine AL_skip ?_
                            refine AL_meet ?_
                            exact ⟨_, _, _, _, _, _, _, _, _, _, _, _, _, _, _, _, by omega, h, At_keep [5, 6, 16, 17, 21] [48, 56]⟩
                          ·
                            replace c53 := eq_false c53
                            refine AL_then (by simp (decide := true) only [go_sem, Nat.reduceAdd, Nat.reduceMul, c45, c48, c49, c50, c51, c52, c53]) ?_
                            refine AL_seq ?_
                            refine AL_region [4] [] [] ⟨[], [], []⟩ [] (by kernel_rfl) (by kernel_rfl) (by kernel_rfl) (fun K hK => by simp (decide := true) only [go_sem, Nat.reduceAdd, Nat.reduceMul, c45, c48, c49, c50, c51, c52, c53]; exact hK) ?_
                            obtain rfl := Option.some.inj h
                            refine AL_ret (fun _ => rfl) ?_
                            exact retF_mk rfl (by exact ⟨trivial, trivial⟩) rfl (by exact rfl) (by exact trivial) (by exact trivial)
                        ·
                          replace c52 := eq_false c52
                          refine AL_region [5, 6, 16, 17, 21, 287] [48, 56] [] ⟨[], [], []⟩ [(2, 258), (6, 262), (9, 265), (19, 275), (22, 278)] (by kernel_rfl) (by kernel_rfl) (by kernel_rfl) (fun K hK => by simp (decide := true) (maxSteps := 4000000) only [go_sem, Nat.reduceAdd, Nat.reduceMul, c45, c48, c49, c50, c51, c52]; exact hK) ?_
                          refine AL_else (by simp (decide := true) only [go_sem, Nat.reduceAdd, Nat.reduceMul, c45, c48, c49, c50, c51, c52]) ?_
                          refine AL_skip ?_
                          refine AL_meet ?_
                          exact ⟨_, _, _, _, _, _, _, _, _, _, _, _, _, _, _, _, by omega, h, At_keep [5, 6, 16, 17, 21] [48, 56]⟩
                      ·
                        replace c51 := eq_false c51
                        refine AL_region [5, 6, 16, 17, 21, 287] [48, 56] [] ⟨[], [], []⟩ [(2, 258), (6, 262), (9, 265), (19, 275), (22, 278)] (by kernel_rfl) (by kernel_rfl) (by kernel_rfl) (fun K hK => by simp (decide := true) (maxSteps := 4000000) only [go_sem, Nat.reduceAdd, Nat.reduceMul, c45, c48, c49, c50, c51]; exact hK) ?_
                        refine AL_then (by simp (decide := true) only [go_sem, Nat.reduceAdd, Nat.reduceMul, c45, c48, c49, c50, c51]) ?_
                        refine AL_seq ?_
                        refine AL_region [4] [] [] ⟨[], [], []⟩ [] (by kernel_rfl) (by kernel_rfl) (by kernel_rfl) (fun K hK => by simp (decide := true) only [go_sem, Nat.reduceAdd, Nat.reduceMul, c45, c48, c49, c50, c51]; exact hK) ?_
                        obtain rfl := Option.some.inj h
                        refine AL_ret (fun _ => rfl) ?_
                        exact retF_mk rfl (by exact ⟨trivial, trivial⟩) rfl (by exact rfl) (by exact trivial) (by exact trivial)
                    ·
                      replace c50 := eq_false c50
                      rcases ite_or h with ⟨c54, h⟩ | ⟨c54, h⟩
                      ·
                        replace c54 := eq_true c54
                        refine AL_region [5, 6, 16, 17, 21, 287] [48, 56] [] ⟨[], [], []⟩ [(2, 258), (6, 262), (9, 265), (19, 275), (22, 278)] (by kernel_rfl) (by kernel_rfl) (by kernel_rfl) (fun K hK => by simp (decide := true) (maxSteps := 4000000) only [go_sem, Nat.reduceAdd, Nat.reduceMul, c45, c48, c49, c50, c54]; exact hK) ?_
                        rcases ite_or h with ⟨c55, h⟩ | ⟨c55, h⟩
                        ·
                          replace c55 := eq_true c55
                          refine AL_else (by simp (decide := true) only [go_sem, Nat.reduceAdd, Nat.reduceMul, c45, c48, c49, c50, c54, c55]) ?_
                          refine AL_skip ?_
                          refine AL_meet ?_
                          exact ⟨_, _, _, _, _, _, _, _, _, _, _, _, _, _, _, _, by omega, h, At_keep [5, 6, 16, 17, 21] [48, 56]⟩
                        ·
                          replace c55 := eq_false c55
                          refine AL_then (by simp (decide := true) only [go_sem, Nat.reduceAdd, Nat.reduceMul, c45, c48, c49, c50, c54, c55]) ?_
                          refine AL_seq ?_
                          refine AL_region [4] [] [] ⟨[], [], []⟩ [] (by kernel_rfl) (by kernel_rfl) (by kernel_rfl) (fun K hK => by simp (decide := true) only [go_sem, Nat.reduceAdd, Nat.reduceMul, c45, c48, c49, c50, c54, c55]; exact hK) ?_
                          obtain rfl := Option.some.inj h
                          refine AL_ret (fun _ => rfl) ?_
                          exact retF_mk rfl (by exact ⟨trivial, trivial⟩) rfl (by exact rfl) (by exact trivial) (by exact trivial)
                      ·
                        replace c54 := eq_false c54
                        refine AL_region [5, 6, 16, 17, 21, 287] [48, 56] [] ⟨[], [], []⟩ [(2, 258), (6, 262), (9, 265), (19, 275), (22, 278)] (by kernel_rfl) (by kernel_rfl) (by kernel_rfl) (fun K hK => by simp (decide := true) (maxSteps := 4000000) only [go_sem, Nat.reduceAdd, Nat.reduceMul, c45, c48, c49, c50, c54]; exact hK) ?_
                        refine AL_else (by simp (decide := true) only [go_sem, Nat.reduceAdd, Nat.reduceMul, c45, c48, c49, c50, c54]) ?_
                        refine AL_skip ?_
                        refine AL_meet ?_
                        exact ⟨_, _, _, _, _, _, _, _, _, _, _, _, _, _, _, _, by omega, h, At_keep [5, 6, 16, 17, 21] [48, 56]⟩
                  ·
                    replace c49 := Bool.of_not_eq_true c49
                    refine AL_region [5, 6, 16, 17, 21, 287] [48, 56] [] ⟨[], [], []⟩ [(2, 258), (6, 262), (9, 265), (19, 275), (22, 278)] (by kernel_rfl) (by kernel_rfl) (by kernel_rfl) (fun K hK => by simp (decide := true) (maxSteps := 4000000) only [go_sem, Nat.reduceAdd, Nat.reduceMul, c45, c48, c49]; exact hK) ?_
                    refine AL_then (by simp (decide := true) only [go_sem, Nat.reduceAdd, Nat.reduceMul, c45, c48, c49]) ?_
                    refine AL_seq ?_
                    refine AL_region [4] [] [] ⟨[], [], []⟩ [] (by kernel_rfl) (by kernel_rfl) (by kernel_rfl) (fun K hK => by simp (decide := true) only [go_sem, Nat.reduceAdd, Nat.reduceMul, c45, c48, c49]; exact hK) ?_
                    obtain rfl := Option.some.inj h
                    refine AL_ret (fun _ => rfl) ?_
                    exact retF_mk rfl (by exact ⟨trivial, trivial⟩) rfl (by exact rfl) (by exact trivial) (by exact trivial)
                ·
                  replace c48 := Bool.of_not_eq_true c48
                  refine AL_region [5, 6, 16, 17, 21, 287] [48, 56] [] ⟨[], [], []⟩ [(2, 258), (6, 262), (9, 265), (19, 275), (22, 278)] (by kernel_rfl) (by kernel_rfl) (by kernel_rfl) (fun K hK => by simp (decide := true) (maxSteps := 4000000) only [go_sem, Nat.reduceAdd, Nat.reduceMul, c45, c48]; exact hK) ?_
                  refine AL_then (by simp (decide := true) only [go_sem, Nat.reduceAdd, Nat.reduceMul, c45, c48]) ?_
                  refine AL_seq ?_
                  refine AL_region [4] [] [] ⟨[], [], []⟩ [] (by kernel_rfl) (by kernel_rfl) (by kernel_rfl) (fun K hK => by simp (decide := true) only [go_sem, Nat.reduceAdd, Nat.reduceMul, c45, c48]; exact hK) ?_
                  obtain rfl := Option.some.inj h
                  refine AL_ret (fun _ => rfl) ?_
                  exact retF_mk rfl (by exact ⟨trivial, trivial⟩) rfl (by exact rfl) (by exact trivial) (by exact trivial)
              ·
                replace c45 := Bool.of_not_eq_true c45
                refine AL_else (by simp (decide := true) only [go_sem, Nat.reduceAdd, Nat.reduceMul, c45]) ?_
                refine AL_skip ?_
                refine AL_meet ?_
                exact ⟨_, _, _, _, _, _, _, _, _, _, _, _, _, _, _, _, by omega, h, At_keep [5, 6, 16, 17, 21] [48, 56]⟩
            ·
              intro S hS
              obtain ⟨kk56, x16, x17, x21, x689000, x689001, x689002, x689003, x689004, x689005, x690000, x690001, x690002, x690003, x690004, x690005, hkq57, h, hS⟩ := hS
              rcases kk56 with _ | n58
              · (rw [laws_FnReconciled.j3] at h; cases h)
              rw [laws_FnReconciled.j3] at h
              refine AW_at hS ?_
              refine AL_seq ?_
              refine AL_seq ?_
              refine AL_region [5, 6, 17, 21, 289] [48, 56] [] ⟨[], [], []⟩ [] (by kernel_rfl) (by kernel_rfl) (by kernel_rfl) (fun K hK => by simp (decide := true) only [go_sem, Nat.reduceAdd, Nat.reduceMul]; exact hK) ?_
              rcases ite_or h with ⟨c59, h⟩ | ⟨c59, h⟩
              ·
                refine AL_else (by simp (decide := true) only [go_sem, Nat.reduceAdd, Nat.reduceMul, c59]) ?_
                refine AL_skip ?_
                refine AL_seq ?_
                refine AL_region [5, 6, 17, 21, 45] [48, 56] [] ⟨[], [], []⟩ [] (by kernel_rfl) (by kernel_rfl) (by kernel_rfl) (fun K hK => by simp (decide := true) only [go_sem, Nat.reduceAdd, Nat.reduceMul, c59]; exact hK) ?_
                refine AL_seq ?_
                refine AL_seq ?_
                refine AL_region [5, 6, 17, 21, 45, 292, 293] [48, 56] [] ⟨[], [], []⟩ [] (by kernel_rfl) (by kernel_rfl) (by kernel_rfl) (fun K hK => by simp (decide := true) only [go_sem, Nat.reduceAdd, Nat.reduceMul, c59]; exact hK) ?_
                refine AL_block ?_
                refine AL_loop (n := n58) (fun n S => (∃ x17 : List (List Int), ∃ x21 : Int, ∃ x292 : Int, ∃ x293 : Int, ∃ x689000 : Int, ∃ x689001 : Int, ∃ x689002 : Int, ∃ x689003 : List Int, ∃ x689004 : List Int, ∃ x689005 : List Int, ∃ x690000 : Int, ∃ x690001 : Int, ∃ x690002 : Int, ∃ x690003 : List Int, ∃ x690004 : List Int, ∃ x690005 : List Int, n ≤ n58 ∧ laws_FnReconciled.l0 n x17 x21 ([] : List Int) x292 x293 x689000 x689001 x689002 x689003 x689004 x689005 x690000 x690001 x690002 x690003 x690004 x690005 = some r ∧ At [(5, .ptr 48 0 0), (6, .ptr 56 0 0), (17, .sl true 1 (mp mkL x17)), (21, .int .i64 x21), (45, .nil), (292, .int .i64 x292), (293, .int .i64 x293)] [(48, some (.box [.int .i64 x689000, .int .i64 x689001, .int .i64 x689002, .sl true 1 (mp mkI x689003), .sl true 1 (mp mkI x689004), .sl true 1 (mp mkI x689005)])), (56, some (.box [.int .i64 x690000, .int .i64 x690001, .int .i64 x690002, .sl true 1 (mp mkI x690003), .sl true 1 (mp mkI x690004), .sl true 1 (mp mkI x690005)]))] S) ∨ (∃ x17 : List (List Int), ∃ x21 : Int, ∃ x292 : Int, ∃ x293 : Int, ∃ x689000 : Int, ∃ x689001 : Int, ∃ x689002 : Int, ∃ x689003 : List Int, ∃ x689004 : List Int, ∃ x689005 : List Int, ∃ x690000 : Int, ∃ x690001 : Int, ∃ x690002 : Int, ∃ x690003 : List Int, ∃ x690004 : List Int, ∃ x690005 : List Int, ∃ x45 : List Int, n ≤ n58 ∧ laws_FnReconciled.l0 n x17 x21 x45 x292 x293 x689000 x689001 x689002 x689003 x689004 x689005 x690000 x690001 x690002 x690003 x690004 x690005 = some r ∧ At [(5, .ptr 48 0 0), (6, .ptr 56 0 0), (17, .sl true 1 (mp mkL x17)), (21, .int .i64 x21), (45, .ref 2400), (292, .int .i64 x292), (293, .int .i64 x293)] [(48, some (.box [.int .i64 x689000, .int .i64 x689001, .int .i64 x689002, .sl true 1 (mp mkI x689003), .sl true 1 (mp mkI x689004), .sl true 1 (mp mkI x689005)])), (56, some (.box [.int .i64 x690000, .int .i64 x690001, .int .i64 x690002, .sl true 1 (mp mkI x690003), .sl true 1 (mp mkI x690004), .sl true 1 (mp mkI x690005)])), (2400, some (.row 3 1 (mp mkI x45)))] S)) ?_ ?_
                · exact .inl ⟨_, _, _, _, _, _, _, _, _, _, _, _, _, _, _, _, by omega, h, At_keep [5, 6, 17, 21, 45, 292, 293] [48, 56]⟩
                ·
                  intro n S hS
                  rcases hS with hS | hS
                  ·
                    obtain ⟨x17, x21, x292, x293, x689000, x689001, x689002, x689003, x689004, x689005, x690000, x690001, x690002, x690003, x690004, x690005, hkq60, h, hS⟩ := hS
                    rcases n with _ | n61
                    · (rw [laws_FnReconciled.l0] at h; cases h)
                    rw [laws_FnReconciled.l0] at h
                    refine AW_at hS ?_
                    refine AL_seq ?_
                    refine AL_region [5, 6, 17, 21, 45, 292, 293, 294] [48, 56] [] ⟨[], [], []⟩ [] (by kernel_rfl) (by kernel_rfl) (by kernel_rfl) (fun K hK => by simp (decide := true) only [go_sem, Nat.reduceAdd, Nat.reduceMul]; exact hK) ?_
                    refine AL_seq ?_
                    rcases ite_or h with ⟨c62, h⟩ | ⟨c62, h⟩
                    ·
                      replace c62 := eq_true c62
                      refine AL_then (by simp (decide := true) only [go_sem, Nat.reduceAdd, Nat.reduceMul, c62]) ?_
                      refine AL_skip ?_
                      refine AL_seq ?_
                      refine AL_block ?_
                      refine AL_seq ?_
                      refine AL_region [5, 6, 17, 21, 45, 46, 292, 293] [48, 56] [] ⟨[], [], []⟩ [] (by kernel_rfl) (by kernel_rfl) (by kernel_rfl) (fun K hK => by simp (decide := true) only [go_sem, Nat.reduceAdd, Nat.reduceMul, c62]; exact hK) ?_
                      obtain ⟨c63, h⟩ := ite_l h
                      have c63l := lim8 c63
                      replace c63 := eq_true c63
                      refine AL_region [5, 6, 17, 21, 45, 292, 293] [48, 56, 2400] [] ⟨[], [], []⟩ [] (by kernel_rfl) (by kernel_rfl) (by kernel_rfl) (fun K hK => by simp (decide := true) only [go_sem, Nat.reduceAdd, Nat.reduceMul, c62, c63l, c63]; exact hK) ?_
                      refine blockQ_n ?_
                      refine AL_region [5, 6, 17, 21, 45, 292, 293] [48, 56, 2400] [] ⟨[], [], []⟩ [] (by kernel_rfl) (by kernel_rfl) (by kernel_rfl) (fun K hK => by simp (decide := true) only [go_sem, Nat.reduceAdd, Nat.reduceMul, c62, c63l, c63]; exact hK) ?_
                      refine AL_again (m := n61) (by omega) ?_
                      exact .inr (⟨_, _, _, _, _, _, _, _, _, _, _, _, _, _, _, _, _, by omega, h, At_keep [5, 6, 17, 21, 45, 292, 293] [48, 56, 2400]⟩)
                    ·
                      replace c62 := eq_false c62
                      refine AL_else (by simp (decide := true) only [go_sem, Nat.reduceAdd, Nat.reduceMul, c62]) ?_
                      refine AL_exit ?_
                      repeat first | refine thenQ_x ?_ | refine blockQ_miss (by decide) ?_
                      refine blockQ_hit ?_
                      refine AL_seq ?_
                      obtain ⟨⟨t748, t749, t750⟩, g64, h⟩ := bind_or h
                      dsimp only at h
                      refine AL_region [5, 6, 17, 21, 45, 47, 48, 49] [48, 56] [] ⟨[], [], []⟩ [] (by kernel_rfl) (by kernel_rfl) (by kernel_rfl) (fun K hK => by simp (decide := true) only [go_sem, Nat.reduceAdd, Nat.reduceMul, c62]; refine ⟨_, _, _, FnV.weak (impl_SumsOf.V g64) ⟨⟨rfl, rfl, rfl, rfl, rfl, rfl, trivial⟩, rfl, trivial⟩, ?_⟩; simp (decide := true) only [go_sem, Nat.reduceAdd, Nat.reduceMul, c62]; exact hK) ?_
                      refine AL_seq ?_
                      obtain ⟨⟨t751, t752, t753⟩, g65, h⟩ := bind_or h
                      dsimp only at h
                      refine AL_region [5, 17, 21, 47, 48, 49, 50, 51, 52] [48] [] ⟨[], [], []⟩ [] (by kernel_rfl) (by kernel_rfl) (by kernel_rfl) (fun K hK => by simp (decide := true) only [go_sem, Nat.reduceAdd, Nat.reduceMul, c62]; refine ⟨_, _, _, FnV.weak (impl_SumsOf.V g65) ⟨⟨rfl, rfl, rfl, rfl, rfl, rfl, trivial⟩, rfl, trivial⟩, ?_⟩; simp (decide := true) only [go_sem, Nat.reduceAdd, Nat.reduceMul, c62]; exact hK) ?_
                      refine AL_seq ?_
                      refine AL_region [5, 17, 21, 47, 48, 49, 50, 51, 52, 53, 54] [48] [] ⟨[], [], []⟩ [] (by kernel_rfl) (by kernel_rfl) (by kernel_rfl) (fun K hK => by simp (decide := true) only [go_sem, Nat.reduceAdd, Nat.reduceMul, c62]; exact hK) ?_
                      refine AL_seq ?_
                      refine AL_seq ?_
                      refine AL_region [5, 17, 21, 47, 48, 49, 50, 51, 52, 53, 54, 315, 316, 317] [48] [] ⟨[], [], []⟩ [] (by kernel_rfl) (by kernel_rfl) (by kernel_rfl) (fun K hK => by simp (decide := true) only [go_sem, Nat.reduceAdd, Nat.reduceMul, c62]; exact hK) ?_
                      refine AL_block ?_
                      refine AL_loop (n := n61) (fun n S => (∃ x17 : List (List Int), ∃ x21 : Int, ∃ x47 : Int, ∃ x48 : Int, ∃ x49 : Bool, ∃ x50 : Int, ∃ x51 : Int, ∃ x52 : Bool, ∃ x53 : Int, ∃ x54 : Int, ∃ x315 : List (List Int), ∃ x316 : Int, ∃ x317 : Int, ∃ x689000 : Int, ∃ x689001 : Int, ∃ x689002 : Int, ∃ x689003 : List Int, ∃ x689004 : List Int, ∃ x689005 : List Int, n ≤ n61 ∧ laws_FnReconciled.l1 n x17 x21 x47 x48 x49 x50 x51 x52 x53 x54 x315 x316 x317 x689000 x689001 x689002 x689003 x689004 x689005 = some r ∧ At [(5, .ptr 48 0 0), (17, .sl true 1 (mp mkL x17)), (21, .int .i64 x21), (47, .int .i64 x47), (48, .int .i64 x48), (49, .bool x49), (50, .int .i64 x50), (51, .int .i64 x51), (52, .bool x52), (53, .int .i64 x53), (54, .int .i64 x54), (315, .sl true 1 (mp mkL x315)), (316, .int .i64 x316), (317, .int .i64 x317)] [(48, some (.box [.int .i64 x689000, .int .i64 x689001, .int .i64 x689002, .sl true 1 (mp mkI x689003), .sl true 1 (mp mkI x689004), .sl true 1 (mp mkI x689005)]))] S)) ?_ ?_
                      · exact ⟨_, _, _, _, _, _, _, _, _, _, _, _, _, _, _, _, _, _, _, by omega, h, At_keep [5, 17, 21, 47, 48, 49, 50, 51, 52, 53, 54, 315, 316, 317] [48]⟩
                      ·
                        intro n S hS
                        obtain ⟨x17, x21, x47, x48, x49, x50, x51, x52, x53, x54, x315, x316, x317, x689000, x689001, x689002, x689003, x689004, x689005, hkq66, h, hS⟩ := hS
                        rcases n with _ | n67
                        · (rw [laws_FnReconciled.l1] at h; cases h)
                        rw [laws_FnReconciled.l1] at h
                        refine AW_at hS ?_
                        refine AL_seq ?_
                        refine AL_region [5, 17, 21, 47, 48, 49, 50, 51, 52, 53, 54, 315, 316, 317, 318] [48] [] ⟨[], [], []⟩ [] (by kernel_rfl) (by kernel_rfl) (by kernel_rfl) (fun K hK => by simp (decide := true) only [go_sem, Nat.reduceAdd, Nat.reduceMul]; exact hK) ?_
                        refine AL_seq ?_
                        rcases ite_or h with ⟨c68, h⟩ | ⟨c68, h⟩
                        ·
                          replace c68 := eq_true c68
                          refine AL_then (by simp (decide := true) only [go_sem, Nat.reduceAdd, Nat.reduceMul, c68]) ?_
                          refine AL_skip ?_
                          refine AL_seq ?_
                          refine AL_block ?_
                          refine AL_seq ?_
                          obtain ⟨c69, h⟩ := ite_l h
                          replace c69 := eq_true c69
                          obtain ⟨c70, h⟩ := ite_l h
                          replace c70 := eq_true c70
                          refine AL_region [5, 17, 21, 47, 48, 49, 50, 51, 52, 53, 54, 56, 315, 316, 317] [48] [] ⟨[], [], []⟩ [] (by kernel_rfl) (by kernel_rfl) (by kernel_rfl) (fun K hK => by simp (decide := true) only [go_sem, Nat.reduceAdd, Nat.reduceMul, c68, c69, c70]; exact hK) ?_
                          refine AL_seq ?_
                          obtain ⟨c71, h⟩ := ite_l h
                          try simp only [List.length_cons, List.length_nil, List.length_append, Nat.reduceAdd, nlit] at c71
                          replace c71 := eq_true c71
                          refine AL_region [5, 17, 21, 47, 48, 49, 50, 51, 52, 53, 54, 56, 315, 316, 317] [48] [] ⟨[], [], []⟩ [] (by kernel_rfl) (by kernel_rfl) (by kernel_rfl) (fun K hK => by simp (decide := true) only [go_sem, Nat.reduceAdd, Nat.reduceMul, c68, c69, c70, c71]; exact hK) ?_
                          refine AL_seq ?_
                          obtain ⟨c72, h⟩ := ite_l h
                          try simp only [List.length_cons, List.length_nil, List.length_append, Nat.reduceAdd, nlit] at c72
                          replace c72 := eq_true c72
                          refine AL_region [5, 17, 21, 47, 48, 49, 50, 51, 52, 53, 54, 56, 315, 316, 317] [48] [] ⟨[], [], []⟩ [] (by kernel_rfl) (by kernel_rfl) (by kernel_rfl) (fun K hK => by simp (decide := true) only [go_sem, Nat.reduceAdd, Nat.reduceMul, c68, c69, c70, c71, c72]; exact hK) ?_
                          refine AL_seq ?_
                          obtain ⟨t758, g73, h⟩ := bind_or h
                          obtain ⟨c74, h⟩ := ite_l h
                          replace c74 := eq_true c74
                          obtain ⟨c75, h⟩ := ite_l h
                          replace c75 := eq_true c75
                          obtain ⟨c76, h⟩ := ite_l h
                          try simp only [List.length_cons, List.length_nil, List.length_append, Nat.reduceAdd, nlit] at c76
                          replace c76 := eq_true c76
                          obtain ⟨t761, g77, h⟩ := bind_or h
                          refine AL_region [5, 17, 21, 47, 48, 49, 50, 51, 52, 53, 54, 315, 316, 317, 342] [48] [] ⟨[], [], []⟩ [] (by kernel_rfl) (by kernel_rfl) (by kernel_rfl) (fun K hK => by simp (decide := true) (maxSteps := 4000000) only [go_sem, Nat.reduceAdd, Nat.reduceMul, c68, c69, c70, c71, c72, c74, c75, c76]; refine ⟨_, _, _, laws_qAbs.V g73, ?_⟩; simp (decide := true) (maxSteps := 4000000) only [go_sem, Nat.reduceAdd, Nat.reduceMul, c68, c69, c70, c71, c72, c74, c75, c76]; refine ⟨_, _, _, laws_qAbs.V g77, ?_⟩; simp (decide := true) (maxSteps := 4000000) only [go_sem, Nat.reduceAdd, Nat.reduceMul, c68, c69, c70, c71, c72, c74, c75, c76]; exact hK) ?_
                          rcases ite_or h with ⟨c78, h⟩ | ⟨c78, h⟩
                          ·
                            replace c78 := eq_true c78
                            refine AL_then (by simp (decide := true) only [go_sem, Nat.reduceAdd, Nat.reduceMul, c68, c69, c70, c71, c72, c74, c75, c76, c78]) ?_
                            refine AL_seq ?_
                            refine AL_region [4] [] [] ⟨[], [], []⟩ [] (by kernel_rfl) (by kernel_rfl) (by kernel_rfl) (fun K hK => by simp (decide := true) only [go_sem, Nat.reduceAdd, Nat.reduceMul, c68, c69, c70, c71, c72, c74, c75, c76, c78]; exact hK) ?_
                            obtain rfl := Option.some.inj h
                            refine AL_ret (fun _ => rfl) ?_
                            exact retF_mk rfl (by exact ⟨trivial, trivial⟩) rfl (by exact rfl) (by exact trivial) (by exact trivial)
                          ·
                            replace c78 := eq_false c78
                            refine AL_else (by simp (decide := true) only [go_sem, Nat.reduceAdd, Nat.reduceMul, c68, c69, c70, c71, c72, c74, c75, c76, c78]) ?_
                            refine AL_skip ?_
                            refine blockQ_n ?_
                            refine AL_region [5, 17, 21, 47, 48, 49, 50, 51, 52, 53, 54, 315, 316, 317] [48] [] ⟨[], [], []⟩ [] (by kernel_rfl) (by kernel_rfl) (by kernel_rfl) (fun K hK => by simp (decide := true) only [go_sem, Nat.reduceAdd, Nat.reduceMul, c68, c69, c70, c71, c72, c74, c75, c76, c78]; exact hK) ?_
                            refine AL_again (m := n67) (by omega) ?_
                            exact ⟨_, _, _, _, _, _, _, _, _, _, _, _, _, _, _, _, _, _, _, by omega, h, At_keep [5, 17, 21, 47, 48, 49, 50, 51, 52, 53, 54, 315, 316, 317] [48]⟩
                        ·
                          replace c68 := eq_false c68
                          refine AL_else (by simp (decide := true) only [go_sem, Nat.reduceAdd, Nat.reduceMul, c68]) ?_
                          refine AL_exit ?_
                          repeat first | refine thenQ_x ?_ | refine blockQ_miss (by decide) ?_
                          refine blockQ_hit ?_
                          refine AL_seq ?_
                          rcases ite_or h with ⟨c79, h⟩ | ⟨c79, h⟩
                          ·
                            rcases ite_or h with ⟨c80, h⟩ | ⟨c80, h⟩
                            ·
                              rcases ite_or h with ⟨c81, h⟩ | ⟨c81, h⟩
                              ·
                                replace c81 := eq_true c81
                                rcases ite_or h with ⟨c82, h⟩ | ⟨c82, h⟩
                                ·
                                  replace c82 := eq_true c82
                                  refine AL_region [4] [] [] ⟨[], [], []⟩ [(1, 345), (4, 348), (11, 355), (18, 362)] (by kernel_rfl) (by kernel_rfl) (by kernel_rfl) (fun K hK => by simp (decide := true) (maxSteps := 4000000) only [go_sem, Nat.reduceAdd, Nat.reduceMul, c68, c79, c80, c81, c82]; exact hK) ?_
                                  obtain rfl := Option.some.inj h
                                  refine AL_ret (fun _ => rfl) ?_
                                  exact retF_mk rfl (by exact ⟨trivial, trivial⟩) rfl (by exact rfl) (by exact trivial) (by exact trivial)
                                ·
                                  replace c82 := eq_false c82
                                  refine AL_region [4] [] [] ⟨[], [], []⟩ [(1, 345), (4, 348), (11, 355), (18, 362)] (by kernel_rfl) (by kernel_rfl) (by kernel_rfl) (fun K hK => by simp (decide := true) (maxSteps := 4000000) only [go_sem, Nat.reduceAdd, Nat.reduceMul, c68, c79, c80, c81, c82]; exact hK) ?_
                                  obtain rfl := Option.some.inj h
                                  refine AL_ret (fun _ => rfl) ?_
                                  exact retF_mk rfl (by exact ⟨trivial, trivial⟩) rfl (by exact rfl) (by exact trivial) (by exact trivial)
                              ·
                                replace c81 := eq_false c81
                                refine AL_region [4] [] [] ⟨[], [], []⟩ [(1, 345), (4, 348), (11, 355), (18, 362)] (by kernel_rfl) (by kernel_rfl) (by kernel_rfl) (fun K hK => by simp (decide := true) (maxSteps := 4000000) only [go_sem, Nat.reduceAdd, Nat.reduceMul, c68, c79, c80, c81]; exact hK) ?_
                                obtain rfl := Option.some.inj h
                                refine AL_ret (fun _ => rfl) ?_
                                exact retF_mk rfl (by exact ⟨trivial, trivial⟩) rfl (by exact rfl) (by exact trivial) (by exact trivial)
                            ·
                              replace c80 := Bool.of_not_eq_true c80
                              refine AL_region [4] [] [] ⟨[], [], []⟩ [(1, 345), (4, 348), (11, 355), (18, 362)] (by kernel_rfl) (by kernel_rfl) (by kernel_rfl) (fun K hK => by simp (decide := true) (maxSteps := 4000000) only [go_sem, Nat.reduceAdd, Nat.reduceMul, c68, c79, c80]; exact hK) ?_
                              obtain rfl := Option.some.inj h
                              refine AL_ret (fun _ => rfl) ?_
                              exact retF_mk rfl (by exact ⟨trivial, trivial⟩) rfl (by exact rfl) (by exact trivial) (by exact trivial)
                          ·
                            replace c79 := Bool.of_not_eq_true c79
                            refine AL_region [4] [] [] ⟨[], [], []⟩ [(1, 345), (4, 348), (11, 355), (18, 362)] (by kernel_rfl) (by kernel_rfl) (by kernel_rfl) (fun K hK => by simp (decide := true) (maxSteps := 4000000) only [go_sem, Nat.reduceAdd, Nat.reduceMul, c68, c79]; exact hK) ?_
                            obtain rfl := Option.some.inj h
                            refine AL_ret (fun _ => rfl) ?_
                            exact retF_mk rfl (by exact ⟨trivial, trivial⟩) rfl (by exact rfl) (by exact trivial) (by exact trivial)
                  ·
                    obtain ⟨x17, x21, x292, x293, x689000, x689001, x689002, x689003, x689004, x689005, x690000, x690001, x690002, x690003, x690004, x690005, x45, hkq83, h, hS⟩ := hS
                    rcases n with _ | n84
                    · (rw [laws_FnReconciled.l0] at h; cases h)
                    rw [laws_FnReconciled.l0] at h
                    refine AW_at hS ?_
                    refine AL_seq ?_
                    refine AL_region [5, 6, 17, 21, 45, 292, 293, 294] [48, 56, 2400] [] ⟨[], [], []⟩ [] (by kernel_rfl) (by kernel_rfl) (by kernel_rfl) (fun K hK => by simp (decide := true) only [go_sem, Nat.reduceAdd, Nat.reduceMul]; exact hK) ?_
                    refine AL_seq ?_
                    rcases ite_or h with ⟨c85, h⟩ | ⟨c85, h⟩
                    ·
                      replace c85 := eq_true c85
                      refine AL_then (by simp (decide := true) only [go_sem, Nat.reduceAdd, Nat.reduceMul, c85]) ?_
                      refine AL_skip ?_
                      refine AL_seq ?_
                      refine AL_block ?_
                      refine AL_seq ?_
                      refine AL_region [5, 6, 17, 21, 45, 46, 292, 293] [48, 56, 2400] [] ⟨[], [], []⟩ [] (by kernel_rfl) (by kernel_rfl) (by kernel_rfl) (fun K hK => by simp (decide := true) only [go_sem, Nat.reduceAdd, Nat.reduceMul, c85]; exact hK) ?_
                      obtain ⟨c86, h⟩ := ite_l h
                      have c86l := lim8 c86
                      replace c86 := eq_true c86
                      refine AL_region [5, 6, 17, 21, 45, 292, 293] [48, 56, 2400] [] ⟨[], [], []⟩ [] (by kernel_rfl) (by kernel_rfl) (by kernel_rfl) (fun K hK => by simp (decide := true) only [go_sem, Nat.reduceAdd, Nat.reduceMul, c85, c86l, c86]; exact hK) ?_
                      refine blockQ_n ?_
                      refine AL_region [5, 6, 17, 21, 45, 292, 293] [48, 56, 2400] [] ⟨[], [], []⟩ [] (by kernel_rfl) (by kernel_rfl) (by kernel_rfl) (fun K hK => by simp (decide := true) only [go_sem, Nat.reduceAdd, Nat.reduceMul, c85, c86l, c86]; exact hK) ?_
                      refine AL_again (m := n84) (by omega) ?_
                      exact .inr (⟨_, _, _, _, _, _, _, _, _, _, _, _, _, _, _, _, _, by omega, h, At_keep [5, 6, 17, 21, 45, 292, 293] [48, 56, 2400]⟩)
                    ·
                      replace c85 := eq_false c85
                      refine AL_else (by simp (decide := true) only [go_sem, Nat.reduceAdd, Nat.reduceMul, c85]) ?_
                      refine AL_exit ?_
                      repeat first | refine thenQ_x ?_ | refine blockQ_miss (by decide) ?_
                      refine blockQ_hit ?_
                      refine AL_seq ?_
                      obtain ⟨⟨t748, t749, t750⟩, g87, h⟩ := bind_or h
                      dsimp only at h
                      refine AL_region [5, 6, 17, 21, 45, 47, 48, 49] [48, 56, 2400] [] ⟨[], [], []⟩ [] (by kernel_rfl) (by kernel_rfl) (by kernel_rfl) (fun K hK => by simp (decide := true) only [go_sem, Nat.reduceAdd, Nat.reduceMul, c85]; refine ⟨_, _, _, impl_SumsOf.V g87, ?_⟩; simp (decide := true) only [go_sem, Nat.reduceAdd, Nat.reduceMul, c85]; exact hK) ?_
                      refine AL_seq ?_
                      obtain ⟨⟨t751, t752, t753⟩, g88, h⟩ := bind_or h
                      dsimp only at h
                      refine AL_region [5, 17, 21, 47, 48, 49, 50, 51, 52] [48] [] ⟨[], [], []⟩ [] (by kernel_rfl) (by kernel_rfl) (by kernel_rfl) (fun K hK => by simp (decide := true) only [go_sem, Nat.reduceAdd, Nat.reduceMul, c85]; refine ⟨_, _, _, impl_SumsOf.V g88, ?_⟩; simp (decide := true) only [go_sem, Nat.reduceAdd, Nat.reduceMul, c85]; exact hK) ?_
                      refine AL_seq ?_
                      refine AL_region [5, 17, 21, 47, 48, 49, 50, 51, 52, 53, 54] [48] [] ⟨[], [], []⟩ [] (by kernel_rfl) (by kernel_rfl) (by kernel_rfl) (fun K hK => by simp (decide := true) only [go_sem, Nat.reduceAdd, Nat.reduceMul, c85]; exact hK) ?_
                      refine AL_seq ?_
                      refine AL_seq ?_
                      refine AL_region [5, 17, 21, 47, 48, 49, 50, 51, 52, 53, 54, 315, 316, 317] [48] [] ⟨[], [], []⟩ [] (by kernel_rfl) (by kernel_rfl) (by kernel_rfl) (fun K hK => by simp (decide := true) only [go_sem, Nat.reduceAdd, Nat.reduceMul, c85]; exact hK) ?_
                      refine AL_block ?_
                      refine AL_loop (n := n84) (fun n S => (∃ x17 : List (List Int), ∃ x21 : Int, ∃ x47 : Int, ∃ x48 : Int, ∃ x49 : Bool, ∃ x50 : Int, ∃ x51 : Int, ∃ x52 : Bool, ∃ x53 : Int, ∃ x54 : Int, ∃ x315 : List (List Int), ∃ x316 : Int, ∃ x317 : Int, ∃ x689000 : Int, ∃ x689001 : Int, ∃ x689002 : Int, ∃ x689003 : List Int, ∃ x689004 : List Int, ∃ x689005 : List Int, n ≤ n84 ∧ laws_FnReconciled.l1 n x17 x21 x47 x48 x49 x50 x51 x52 x53 x54 x315 x316 x317 x689000 x689001 x689002 x689003 x689004 x689005 = some r ∧ At [(5, .ptr 48 0 0), (17, .sl true 1 (mp mkL x17)), (21, .int .i64 x21), (47, .int .i64 x47), (48, .int .i64 x48), (49, .bool x49), (50, .int .i64 x50), (51, .int .i64 x51), (52, .bool x52), (53, .int .i64 x53), (54, .int .i64 x54), (315, .sl true 1 (mp mkL x315)), (316, .int .i64 x316), (317, .int .i64 x317)] [(48, some (.box [.int .i64 x689000, .int .i64 x689001, .int .i64 x689002, .sl true 1 (mp mkI x689003), .sl true 1 (mp mkI x689004), .sl true 1 (mp mkI x689005)]))] S)) ?_ ?_
                      · exact ⟨_, _, _, _, _, _, _, _, _, _, _, _, _, _, _, _, _, _, _, by omega, h, At_keep [5, 17, 21, 47, 48, 49, 50, 51, 52, 53, 54, 315, 316, 317] [48]⟩
                      ·
                        intro n S hS
                        obtain ⟨x17, x21, x47, x48, x49, x50, x51, x52, x53, x54, x315, x316, x317, x689000, x689001, x689002, x689003, x689004, x689005, hkq89, h, hS⟩ := hS
                        rcases n with _ | n90
                        · (rw [laws_FnReconciled.l1] at h; cases h)
                        rw [laws_FnReconciled.l1] at h
                        refine AW_at hS ?_
                        refine AL_seq ?_
                        refine AL_region [5, 17, 21, 47, 48, 49, 50, 51, 52, 53, 54, 315, 316, 317, 318] [48] [] ⟨[], [], []⟩ [] (by kernel_rfl) (by kernel_rfl) (by kernel_rfl) (fun K hK => by simp (decide := true) only [go_sem, Nat.reduceAdd, Nat.reduceMul]; exact hK) ?_
                        refine AL_seq ?_
                        rcases ite_or h with ⟨c91, h⟩ | ⟨c91, h⟩
                        ·
                          replace c91 := eq_true c91
                          refine AL_then (by simp (decide := true) only [go_sem, Nat.reduceAdd, Nat.reduceMul, c91]) ?_
                          refine AL_skip ?_
                          refine AL_seq ?_
                          refine AL_block ?_
                          refine AL_seq ?_
                          obtain ⟨c92, h⟩ := ite_l h
                          replace c92 := eq_true c92
                          obtain ⟨c93, h⟩ := ite_l h
                          replace c93 := eq_true c93
                          refine AL_region [5, 17, 21, 47, 48, 49, 50, 51, 52, 53, 54, 56, 315, 316, 317] [48] [] ⟨[], [], []⟩ [] (by kernel_rfl) (by kernel_rfl) (by kernel_rfl) (fun K hK => by simp (decide := true) only [go_sem, Nat.reduceAdd, Nat.reduceMul, c91, c92, c93]; exact hK) ?_
                          refine AL_seq ?_
                          obtain ⟨c94, h⟩ := ite_l h
                          try simp only [List.length_cons, List.length_nil, List.length_append, Nat.reduceAdd, nlit] at c94
                          replace c94 := eq_true c94
                          refine AL_region [5, 17, 21, 47, 48, 49, 50, 51, 52, 53, 54, 56, 315, 316, 317] [48] [] ⟨[], [], []⟩ [] (by kernel_rfl) (by kernel_rfl) (by kernel_rfl) (fun K hK => by simp (decide := true) only [go_sem, Nat.reduceAdd, Nat.reduceMul, c91, c92, c93, c94]; exact hK) ?_
                          refine AL_seq ?_
                          obtain ⟨c95, h⟩ := ite_l h
                          try simp only [List.length_cons, List.length_nil, List.length_append, Nat.reduceAdd, nlit] at c95
                          replace c95 := eq_true c95
                          refine AL_region [5, 17, 21, 47, 48, 49, 50, 51, 52, 53, 54, 56, 315, 316, 317] [48] [] ⟨[], [], []⟩ [] (by kernel_rfl) (by kernel_rfl) (by kernel_rfl) (fun K hK => by simp (decide := true) only [go_sem, Nat.reduceAdd, Nat.reduceMul, c91, c92, c93, c94, c95]; exact hK) ?_
                          refine AL_seq ?_
                          obtain ⟨t758, g96, h⟩ := bind_or h
                          obtain ⟨c97, h⟩ := ite_l h
                          replace c97 := eq_true c97
                          obtain ⟨c98, h⟩ := ite_l h
                          replace c98 := eq_true c98
                          obtain ⟨c99, h⟩ := ite_l h
                          try simp only [List.length_cons, List.length_nil, List.length_append, Nat.reduceAdd, nlit] at c99
                          replace c99 := eq_true c99
                          obtain ⟨t761, g100, h⟩ := bind_or h
                          refine AL_region [5, 17, 21, 47, 48, 49, 50, 51, 52, 53, 54, 315, 316, 317, 342] [48] [] ⟨[], [], []⟩ [] (by kernel_rfl) (by kernel_rfl) (by kernel_rfl) (fun K hK => by simp (decide := true) (maxSteps := 4000000) only [go_sem, Nat.reduceAdd, Nat.reduceMul, c91, c92, c93, c94, c95, c97, c98, c99]; refine ⟨_, _, _, laws_qAbs.V g96, ?_⟩; simp (decide := true) (maxSteps := 4000000) only [go_sem, Nat.reduceAdd, Nat.reduceMul, c91, c92, c93, c94, c95, c97, c98, c99]; refine ⟨_, _, _, laws_qAbs.V g100, ?_⟩; simp (decide := true) (maxSteps := 4000000) only [go_sem, Nat.reduceAdd, Nat.reduceMul, c91, c92, c93, c94, c95, c97, c98, c99]; exact hK) ?_
                          rcases ite_or h with ⟨c101, h⟩ | ⟨c101, h⟩
                          ·
                            replace c101 := eq_true c101
                            refine AL_then (by simp (decide := true) only [go_sem, Nat.reduceAdd, Nat.reduceMul, c91, c92, c93, c94, c95, c97, c98, c99, c101]) ?_
                            refine AL_seq ?_
                            refine AL_region [4] [] [] ⟨[], [], []⟩ [] (by kernel_rfl) (by kernel_rfl) (by kernel_rfl) (fun K hK => by simp (decide := true) only [go_sem, Nat.reduceAdd, Nat.reduceMul, c91, c92, c93, c94, c95, c97, c98, c99, c101]; exact hK) ?_
                            obtain rfl := Option.some.inj h
                            refine AL_ret (fun _ => rfl) ?_
                            exact retF_mk rfl (by exact ⟨trivial, trivial⟩) rfl (by exact rfl) (by exact trivial) (by exact trivial)
                          ·
                            replace c101 := eq_false c101
                            refine AL_else (by simp (decide := true) only [go_sem, Nat.reduceAdd, Nat.reduceMul, c91, c92, c93, c94, c95, c97, c98, c99, c101]) ?_
                            refine AL_skip ?_
                            refine blockQ_n ?_
                            refine AL_region [5, 17, 21, 47, 48, 49, 50, 51, 52, 53, 54, 315, 316, 317] [48] [] ⟨[], [], []⟩ [] (by kernel_rfl) (by kernel_rfl) (by kernel_rfl) (fun K hK => by simp (decide := true) only [go_sem, Nat.reduceAdd, Nat.reduceMul, c91, c92, c93, c94, c95, c97, c98, c99, c101]; exact hK) ?_
                            refine AL_again (m := n90) (by omega) ?_
                            exact ⟨_, _, _, _, _, _, _, _, _, _, _, _, _, _, _, _, _, _, _, by omega, h, At_keep [5, 17, 21, 47, 48, 49, 50, 51, 52, 53, 54, 315, 316, 317] [48]⟩
                        ·
                          replace c91 := eq_false c91
                          refine AL_else (by simp (decide := true) only [go_sem, Nat.reduceAdd, Nat.reduceMul, c91]) ?_
                          refine AL_exit ?_
                          repeat first | refine thenQ_x ?_ | refine blockQ_miss (by decide) ?_
                          refine blockQ_hit ?_
                          refine AL_seq ?_
                          rcases ite_or h with ⟨c102, h⟩ | ⟨c102, h⟩
                          ·
                            rcases ite_or h with ⟨c103, h⟩ | ⟨c103, h⟩
                            ·
                              rcases ite_or h with ⟨c104, h⟩ | ⟨c104, h⟩
                              ·
                                replace c104 := eq_true c104
                                rcases ite_or h with ⟨c105, h⟩ | ⟨c105, h⟩
                                ·
                                  replace c105 := eq_true c105
                                  refine AL_region [4] [] [] ⟨[], [], []⟩ [(1, 345), (4, 348), (11, 355), (18, 362)] (by kernel_rfl) (by kernel_rfl) (by kernel_rfl) (fun K hK => by simp (decide := true) (maxSteps := 4000000) only [go_sem, Nat.reduceAdd, Nat.reduceMul, c91, c102, c103, c104, c105]; exact hK) ?_
                                  obtain rfl := Option.some.inj h
                                  refine AL_ret (fun _ => rfl) ?_
                                  exact retF_mk rfl (by exact ⟨trivial, trivial⟩) rfl (by exact rfl) (by exact trivial) (by exact trivial)
                                ·
                                  replace c105 := eq_false c105
                                  refine AL_region [4] [] [] ⟨[], [], []⟩ [(1, 345), (4, 348), (11, 355), (18, 362)] (by kernel_rfl) (by kernel_rfl) (by kernel_rfl) (fun K hK => by simp (decide := true) (maxSteps := 4000000) only [go_sem, Nat.reduceAdd, Nat.reduceMul, c91, c102, c103, c104, c105]; exact hK) ?_
                                  obtain rfl := Option.some.inj h
                                  refine AL_ret (fun _ => rfl) ?_
                                  exact retF_mk rfl (by exact ⟨trivial, trivial⟩) rfl (by exact rfl) (by exact trivial) (by exact trivial)
                              ·
                                replace c104 := eq_false c104
                                refine AL_region [4] [] [] ⟨[], [], []⟩ [(1, 345), (4, 348), (11, 355), (18, 362)] (by kernel_rfl) (by kernel_rfl) (by kernel_rfl) (fun K hK => by simp (decide := true) (maxSteps := 4000000) only [go_sem, Nat.reduceAdd, Nat.reduceMul, c91, c102, c103, c104]; exact hK) ?_
                                obtain rfl := Option.some.inj h
                                refine AL_ret (fun _ => rfl) ?_
                                exact retF_mk rfl (by exact ⟨trivial, trivial⟩) rfl (by exact rfl) (by exact trivial) (by exact trivial)
                            ·
                              replace c103 := Bool.of_not_eq_true c103
                              refine AL_region [4] [] [] ⟨[], [], []⟩ [(1, 345), (4, 348), (11, 355), (18, 362)] (by kernel_rfl) (by kernel_rfl) (by kernel_rfl) (fun K hK => by simp (decide := true) (maxSteps := 4000000) only [go_sem, Nat.reduceAdd, Nat.reduceMul, c91, c102, c103]; exact hK) ?_
                              obtain rfl := Option.some.inj h
                              refine AL_ret (fun _ => rfl) ?_
                              exact retF_mk rfl (by exact ⟨trivial, trivial⟩) rfl (by exact rfl) (by exact trivial) (by exact trivial)
                          ·
                            replace c102 := Bool.of_not_eq_true c102
                            refine AL_region [4] [] [] ⟨[], [], []⟩ [(1, 345), (4, 348), (11, 355), (18, 362)] (by kernel_rfl) (by kernel_rfl) (by kernel_rfl) (fun K hK => by simp (decide := true) (maxSteps := 4000000) only [go_sem, Nat.reduceAdd, Nat.reduceMul, c91, c102]; exact hK) ?_
                            obtain rfl := Option.some.inj h
                            refine AL_ret (fun _ => rfl) ?_
                            exact retF_mk rfl (by exact ⟨trivial, trivial⟩) rfl (by exact rfl) (by exact trivial) (by exact trivial)
              ·
                replace c59 := Bool.of_not_eq_true c59
                refine AL_then (by simp (decide := true) only [go_sem, Nat.reduceAdd, Nat.reduceMul, c59]) ?_
                refine AL_seq ?_
                refine AL_region [4] [] [] ⟨[], [], []⟩ [] (by kernel_rfl) (by kernel_rfl) (by kernel_rfl) (fun K hK => by simp (decide := true) only [go_sem, Nat.reduceAdd, Nat.reduceMul, c59]; exact hK) ?_
                obtain rfl := Option.some.inj h
                refine AL_ret (fun _ => rfl) ?_
                exact retF_mk rfl (by exact ⟨trivial, trivial⟩) rfl (by exact rfl) (by exact trivial) (by exact trivial)
end Go.Proofs.Ytfakhgopbhnocaa.PFnReconciled
