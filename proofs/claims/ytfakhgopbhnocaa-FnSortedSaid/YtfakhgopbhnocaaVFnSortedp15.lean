/- Each function's run, shown to compute what its plain function says. -/
import Derived.Test.YtfakhgopbhnocaaVFnSortedp14
import Derived.KernelRfl
set_option linter.unusedVariables false
set_option linter.unusedSimpArgs false
namespace Go.Proofs.Ytfakhgopbhnocaa.PFnSorted
open Go Go.Proofs.YtfakhgopbhnocaaVM Go.Proofs.Ytfakhgopbhnocaa.VE Go.RowKit Go.Proofs.YtfakhgopbhnocaaW.PrintWords Go.Proofs.YtfakhgopbhnocaaW.PrintLast Go.Proofs.YtfakhgopbhnocaaW.PrintMore
attribute [local go_sem] runF_nil runF_cons kG_go kG_store kG_skip kG_pass kS_go kS_call kQ_go flagB_no inFl_some inFl_store hasB_nil hasB_hit hasB_miss flagB_eq clB_no wrB_no clB_yes wrB_store wrB_call opdL_load opdL_index opdL_len nm0_eq nmV_nil nmV_cons pt0_ptr pt0_int pt0_bool pt0_sl pt0_nil pt0_ref pt0_agg guardB_none guardB_some gL_some gB_true gB_false gB_skip look_hit look_miss tg_hit tg_miss bg_hit bg_miss ev_tmp ev_int ev_bool ev_nil ev_agg sQ_some stO_move stO_assign stO_pick stO_un stO_bin stO_field stO_load stO_index stO_extract stO_conv stO_box stO_alloc stO_len stO_call qUn_not qUn_neg qPick_true qPick_false qField_ptr qField_fat qLd_some qConv_some sB_some sA_some qLen_sl qLen_nil boxV_agg boxV_int boxV_bool boxV_nil boxV_sl boxV_ref qBin_add qBin_sub qBin_mul qBin_quo qBin_rem qBin_and qBin_or qBin_shr qBin_shl qBin_eql qBin_neq qBin_lss qBin_leq qBin_gtr qBin_geq qBin_beq qBin_bne qEx_tup keepT_cons keepB_nil keepB_cons keepT_nil qLoad_fat1 qLoad_fat2 qLoad_ptr ldB_box1 ld1_some ldB_box2 ldB_row ldR_1 ldR_2 unc_int unc_bool unc_nil unc_ref unc_sl unc_con_sl unc_con_nil rt_int rt_bool rt_nil rt_sl qIndex_sl ixT_some ixS_some qIndex_ref ixR_some ixR1_some argPtr_nil argPtr_ptr argPtr_int argPtr_bool argPtr_sl argPtr_ref argPtr_nl argPtr_agg memIn_none memIn_some mi1_box mi2_some viewL_int viewL_bool viewL_nil viewL_sl viewL_ref vwR_some cons2_some viewLs_nil viewLs_cons viewAs_nil viewAs_cons viewA_int viewA_bool viewA_nil viewA_sl viewA_ref viewA_agg agg1_some viewA_ptr sC_go sC2_some renT_int renT_bool renT_nil renT_sl renT_agg renT_tup renA_int renA_bool renA_nil renA_sl renA_agg renL_int renL_bool renL_nil renL_sl rowsD_nil memD_none memD_some md1_box mergeL_nil mergeL_int mergeL_bool mergeL_sl mergeL_nl stO_build sP_some sF_some fillV_nil fillV_cons fl1_go stO_nilCheck qNil_ptr stO_min qMin_int stO_max qMax_int stO_make sMe_some sM_some stO_slice sSe_some sS_own sS_fix rowsV_nil rowsV_cons rv1_some rowV_int rowV_bool rowV_nil rowV_sl rowV_agg stO_append sApp_new sApp_on qStore_eq qS2_some qS1_some qApp_eq qA0_some qA1_some qA2_nil qA2_ref stored1_ptr st1_box st1_row setL_nil setL_cons qA3_some absB_t absB_b0 absB_b1 absB_nil noBB_row noBB_box noTB_int noAB_int noLB_int killT_int killA_int killL_int noTB_bool noAB_bool noLB_bool killT_bool killA_bool killL_bool noTB_nil noAB_nil noLB_nil killT_nil killA_nil killL_nil noTB_und noAB_und noLB_und killT_und killA_und killL_und noTB_skip noAB_skip noLB_skip killT_skip killA_skip killL_skip noTB_sl noAB_sl noLB_sl killT_sl killA_sl killL_sl noTB_fat noAB_fat noLB_fat killT_fat killA_fat killL_fat noTB_ref noAB_ref noLB_ref killT_ref0 killT_ref killA_ref0 killA_ref killL_ref0 killL_ref noTB_ptr noAB_ptr noLB_ptr killT_ptr0 killT_ptr killA_ptr0 killA_ptr killL_ptr0 killL_ptr noTB_agg noAB_agg noTB_tup noLB_con_sl noLB_con_nil killT_agg killA_agg killT_tup killL_con_sl killL_con_nil killTL_nil killTL_cons killBL_nil killBL_none killBL_row killBL_box shut1_int shut1_bool shut1_nil shut1_sl scal_int scal_bool known1_int known1_bool known1_nil known1_sl known1_ref opdL_call nm0_func intsOf_nil intsOf_cons qBin_eqA qBin_neA eqA_eq eqA_ne nil_beq renT_ref renA_ref renL_ref rowsD_cons qLen_refR lenR_some tn_lt rowI_getn rowI_set nlit rowI_scal mp_nil rowI_cons rowI_len mkI_eq mkB_eq mp_length mp_app mp_ne rowI_one rowI_zero ibeq ibne true_and and_true and_self decide_true decide_false Bool.not_true Bool.not_false Bool.not_not List.length_map List.length_cons List.length_nil List.getElem?_cons_zero List.getElem?_cons_succ List.drop_zero List.drop_succ_cons List.take_succ_cons List.take_zero List.map_cons List.map_nil List.all_cons List.all_nil Bool.and_true Bool.true_and List.getD_cons_zero List.getD_cons_succ List.set_cons_zero List.set_cons_succ Option.isSome_none Option.isSome_some List.nil_append List.cons_append List.append_eq List.append_nil List.length_append cond_true cond_false ne_eq List.map_eq_nil_iff not_false_eq_true List.cons_ne_nil Bool.true_bne Bool.false_bne Bool.bne_true Bool.bne_false Bool.true_beq Bool.false_beq Int.zero_sub List.cons_beq_cons Option.map_some true_or or_true beq_self_eq_true Nat.zero_lt_succ ti_3 ti_5 ti_22 ti_24 ti_25 ti_27 ti_68 ti_127 ti_129 el_22 el_25 el_32 el_60 el_205 fo_24_0 fo_24_1 fo_24_2 fo_27_0 fo_27_1 fo_27_2 fo_27_3 fo_68_0 fo_68_1 fo_68_2 fo_68_3 fo_68_4 fo_129_0 fo_129_1 fo_129_2 bo_4 io_3 io_5 io_127 pl_24 pl_27 pl_68 pl_129 eqs_24 loud_4 loud_21 loud_23 loud_24 loud_25 loud_26 loud_27 loud_28 loud_29 loud_30 loud_31 loud_32 loud_33 loud_34 loud_35 loud_36 loud_37 loud_94 loud_96 loud_97 loud_98 loud_99 loud_101 loud_103 loud_110 loud_111 loud_112 loud_113 loud_114 loud_115 loud_116 loud_117 loud_118 loud_119 loud_120 loud_121 loud_122 loud_131 loud_136 loud_145 loud_177 loud_178 loud_180 loud_183 loud_184 loud_185 loud_189 i64w wl mx_rule mn_rule rowI_get rowB_get mkS24_eq rowS24_get rowS24_one rowS24_cons rowS24_len mkL_eq rowL_one rowL_cons rowL_len
/-! laws_FnSorted : 4 -/
set_option maxRecDepth 100000 in
set_option maxHeartbeats 4000000 in
theorem laws_FnSorted.V {k : Nat} {l0 : List Int} {l1 : List Int} {r : Bool} (h : laws_FnSorted.f k l0 l1 = some r) : FnV E 4 [.sl false 1 (mp mkB l0), .sl false 1 (mp mkB l1)] none (.bool r) [] none := by
  refine FnV_list E (rs := [.tmp 4]) Try.func4 (by rfl) rfl Try.ntmps4 rfl [] (by simp) rfl (by simp) rfl (fun us => ?_)
  simp only [argsL, memL, wrapL, wrap1, Nat.reduceAdd]
  unfold laws_FnSorted.f at h
  refine AL_seq ?_
  refine AL_region [0, 1] [] [] ⟨[], [], []⟩ [] (by kernel_rfl) (by kernel_rfl) (by kernel_rfl) (fun K hK => by simp (decide := true) only [go_sem, Nat.reduceAdd, Nat.reduceMul]; exact hK) ?_
  refine AL_seq ?_
  refine AL_seq ?_
  refine AL_region [0, 1, 52] [] [] ⟨[], [], []⟩ [] (by kernel_rfl) (by kernel_rfl) (by kernel_rfl) (fun K hK => by simp (decide := true) only [go_sem, Nat.reduceAdd, Nat.reduceMul]; exact hK) ?_
  rcases ite_or h with ⟨c1, h⟩ | ⟨c1, h⟩
  ·
    replace c1 := eq_true c1
    refine AL_then (by simp (decide := true) only [go_sem, Nat.reduceAdd, Nat.reduceMul, c1]) ?_
    refine AL_seq ?_
    refine AL_region [4] [] [] ⟨[], [], []⟩ [] (by kernel_rfl) (by kernel_rfl) (by kernel_rfl) (fun K hK => by simp (decide := true) only [go_sem, Nat.reduceAdd, Nat.reduceMul, c1]; exact hK) ?_
    obtain rfl := Option.some.inj h
    refine AL_ret (fun _ => rfl) ?_
    exact retF_mk rfl (by exact ⟨trivial, trivial⟩) rfl (by exact rfl) (by exact trivial) (by exact trivial)
  ·
    replace c1 := eq_false c1
    refine AL_else (by simp (decide := true) only [go_sem, Nat.reduceAdd, Nat.reduceMul, c1]) ?_
    refine AL_skip ?_
    refine AL_seq ?_
    obtain ⟨⟨t683, t684, t685, t686, t689, t692, t695, t696, t697, t698, t701, t704, t707⟩, g2, h⟩ := bind_or h
    dsimp only at h
    refine AL_region [1, 5, 6, 7] [48, 56] [] ⟨[], [], []⟩ [] (by kernel_rfl) (by kernel_rfl) (by kernel_rfl) (fun K hK => by simp (decide := true) (maxSteps := 4000000) only [go_sem, Nat.reduceAdd, Nat.reduceMul, c1]; refine ⟨_, _, _, spec_DrawSortTable.V g2, ?_⟩; simp (decide := true) (maxSteps := 4000000) only [go_sem, Nat.reduceAdd, Nat.reduceMul, c1]; exact hK) ?_
    refine AL_seq ?_
    obtain ⟨⟨t710, t713⟩, g3, h⟩ := bind_or h
    dsimp only at h
    refine AL_region [1, 5, 6, 7, 8, 9] [48, 56] [] ⟨[], [], []⟩ [] (by kernel_rfl) (by kernel_rfl) (by kernel_rfl) (fun K hK => by simp (decide := true) only [go_sem, Nat.reduceAdd, Nat.reduceMul, c1]; refine ⟨_, _, _, impl_SortTable.V g3, ?_⟩; simp (decide := true) only [go_sem, Nat.reduceAdd, Nat.reduceMul, c1]; exact hK) ?_
    refine AL_seq ?_
    obtain ⟨⟨t714, t717⟩, g4, h⟩ := bind_or h
    dsimp only at h
    refine AL_region [1, 5, 6, 7, 8, 9, 10, 11] [48, 56] [] ⟨[], [], []⟩ [] (by kernel_rfl) (by kernel_rfl) (by kernel_rfl) (fun K hK => by simp (decide := true) only [go_sem, Nat.reduceAdd, Nat.reduceMul, c1]; refine ⟨_, _, _, spec_SortTable.V g4, ?_⟩; simp (decide := true) only [go_sem, Nat.reduceAdd, Nat.reduceMul, c1]; exact hK) ?_
    refine AL_seq ?_
    obtain ⟨⟨t718, t719, t720⟩, g5, h⟩ := bind_or h
    dsimp only at h
    refine AL_region [1, 5, 6, 7, 8, 9, 10, 11, 12, 13, 14] [48, 56] [] ⟨[], [], []⟩ [] (by kernel_rfl) (by kernel_rfl) (by kernel_rfl) (fun K hK => by simp (decide := true) (maxSteps := 4000000) only [go_sem, Nat.reduceAdd, Nat.reduceMul, c1]; refine ⟨_, _, _, impl_WrongMetal.V g5, ?_⟩; simp (decide := true) (maxSteps := 4000000) only [go_sem, Nat.reduceAdd, Nat.reduceMul, c1]; exact hK) ?_
    refine AL_seq ?_
    obtain ⟨⟨t721, t722, t723⟩, g6, h⟩ := bind_or h
    dsimp only at h
    refine AL_region [1, 6, 7, 8, 9, 10, 11, 12, 13, 14, 15, 16, 17] [56] [] ⟨[], [], []⟩ [] (by kernel_rfl) (by kernel_rfl) (by kernel_rfl) (fun K hK => by simp (decide := true) (maxSteps := 4000000) only [go_sem, Nat.reduceAdd, Nat.reduceMul, c1]; refine ⟨_, _, _, spec_WrongMetal.V g6, ?_⟩; simp (decide := true) (maxSteps := 4000000) only [go_sem, Nat.reduceAdd, Nat.reduceMul, c1]; exact hK) ?_
    refine AL_seq ?_
    obtain ⟨⟨t724, t725, t726, t727, t730, t733, t736, t737⟩, g7, h⟩ := bind_or h
    dsimp only at h
    refine AL_region [1, 6, 7, 8, 9, 10, 11, 12, 13, 14, 15, 16, 17, 18, 19, 20] [56, 152] [] ⟨[], [], []⟩ [] (by kernel_rfl) (by kernel_rfl) (by kernel_rfl) (fun K hK => by simp (decide := true) only [go_sem, Nat.reduceAdd, Nat.reduceMul, c1]; refine ⟨_, _, _, spec_DrawScaleModel.V g7, ?_⟩; simp (decide := true) only [go_sem, Nat.reduceAdd, Nat.reduceMul, c1]; exact hK) ?_
    refine AL_seq ?_
    obtain ⟨⟨t739, t740, t741, t742, t745, t748, t751⟩, g8, h⟩ := bind_or h
    dsimp only at h
    refine AL_region [1, 6, 7, 8, 9, 10, 11, 12, 13, 14, 15, 16, 17, 18, 19, 20, 21, 22] [56, 152, 176] [] ⟨[], [], []⟩ [] (by kernel_rfl) (by kernel_rfl) (by kernel_rfl) (fun K hK => by simp (decide := true) only [go_sem, Nat.reduceAdd, Nat.reduceMul, c1]; refine ⟨_, _, _, impl_ScaleModel.V g8, ?_⟩; simp (decide := true) only [go_sem, Nat.reduceAdd, Nat.reduceMul, c1]; exact hK) ?_
    refine AL_seq ?_
    obtain ⟨⟨t753, t754, t755, t756, t759, t762, t765⟩, g9, h⟩ := bind_or h
    dsimp only at h
    refine AL_region [1, 6, 7, 8, 9, 10, 11, 12, 13, 14, 15, 16, 17, 18, 19, 20, 21, 22, 23, 24] [56, 152, 176, 192] [] ⟨[], [], []⟩ [] (by kernel_rfl) (by kernel_rfl) (by kernel_rfl) (fun K hK => by simp (decide := true) only [go_sem, Nat.reduceAdd, Nat.reduceMul, c1]; refine ⟨_, _, _, spec_ScaleModel.V g9, ?_⟩; simp (decide := true) only [go_sem, Nat.reduceAdd, Nat.reduceMul, c1]; exact hK) ?_
    refine AL_seq ?_
    obtain ⟨⟨t767, t768, t769, t770, t773, t776, t779, t780, t781, t782, t785, t788, t791⟩, g10, h⟩ := bind_or h
    dsimp only at h
    refine AL_region [6, 7, 8, 9, 10, 11, 12, 13, 14, 15, 16, 17, 18, 19, 20, 21, 22, 23, 24, 25, 26, 27] [56, 152, 176, 192, 208, 216] [] ⟨[], [], []⟩ [] (by kernel_rfl) (by kernel_rfl) (by kernel_rfl) (fun K hK => by simp (decide := true) (maxSteps := 4000000) only [go_sem, Nat.reduceAdd, Nat.reduceMul, c1]; refine ⟨_, _, _, spec_DrawMixModels.V g10, ?_⟩; simp (decide := true) (maxSteps := 4000000) only [go_sem, Nat.reduceAdd, Nat.reduceMul, c1]; exact hK) ?_
    refine AL_seq ?_
    obtain ⟨⟨t794, t795, t796, t797, t800, t803, t806⟩, g11, h⟩ := bind_or h
    dsimp only at h
    refine AL_region [6, 7, 8, 9, 10, 11, 12, 13, 14, 15, 16, 17, 18, 19, 20, 21, 22, 23, 24, 25, 26, 27, 28, 29] [56, 152, 176, 192, 208, 216, 232] [] ⟨[], [], []⟩ [] (by kernel_rfl) (by kernel_rfl) (by kernel_rfl) (fun K hK => by simp (decide := true) only [go_sem, Nat.reduceAdd, Nat.reduceMul, c1]; refine ⟨_, _, _, impl_MixModels.V g11, ?_⟩; simp (decide := true) only [go_sem, Nat.reduceAdd, Nat.reduceMul, c1]; exact hK) ?_
    refine AL_seq ?_
    obtain ⟨⟨t808, t809, t810, t811, t814, t817, t820⟩, g12, h⟩ := bind_or h
    dsimp only at h
    refine AL_region [6, 7, 8, 9, 10, 11, 12, 13, 14, 15, 16, 17, 18, 19, 20, 21, 22, 23, 24, 25, 26, 27, 28, 29, 30, 31] [56, 152, 176, 192, 208, 216, 232, 248] [] ⟨[], [], []⟩ [] (by kernel_rfl) (by kernel_rfl) (by kernel_rfl) (fun K hK => by simp (decide := true) only [go_sem, Nat.reduceAdd, Nat.reduceMul, c1]; refine ⟨_, _, _, spec_MixModels.V g12, ?_⟩; simp (decide := true) only [go_sem, Nat.reduceAdd, Nat.reduceMul, c1]; exact hK) ?_
    refine AL_seq ?_
    refine AL_seq ?_
    refine AL_cut (fun S => (∃ kk : Nat, ∃ x7 : Int, ∃ x9 : Bool, ∃ x10 : List Int, ∃ x15 : Int, ∃ x16 : Int, ∃ x19 : Int, ∃ x20 : Int, ∃ x22 : Bool, ∃ x27 : Int, ∃ x29 : Bool, ∃ x179 : Bool, ∃ x710000 : Int, ∃ x710001 : Int, ∃ x710002 : Int, ∃ x710003 : List Int, ∃ x710004 : List Int, ∃ x710005 : List Int, ∃ x739000 : Int, ∃ x739001 : Int, ∃ x739002 : Int, ∃ x739003 : List Int, ∃ x739004 : List Int, ∃ x739005 : List Int, ∃ x753000 : Int, ∃ x753001 : Int, ∃ x753002 : Int, ∃ x753003 : List Int, ∃ x753004 : List Int, ∃ x753005 : List Int, ∃ x767000 : Int, ∃ x767001 : Int, ∃ x767002 : Int, ∃ x767003 : List Int, ∃ x767004 : List Int, ∃ x767005 : List Int, ∃ x793000 : Int, ∃ x793001 : Int, ∃ x793002 : Int, ∃ x793003 : List Int, ∃ x793004 : List Int, ∃ x793005 : List Int, ∃ x794000 : Int, ∃ x794001 : Int, ∃ x794002 : Int, ∃ x794003 : List Int, ∃ x794004 : List Int, ∃ x794005 : List Int, ∃ x808000 : Int, ∃ x808001 : Int, ∃ x808002 : Int, ∃ x808003 : List Int, ∃ x808004 : List Int, ∃ x808005 : List Int, ∃ x822000 : Int, ∃ x822001 : Int, ∃ x822002 : Int, ∃ x822003 : List Int, ∃ x822004 : List Int, ∃ x822005 : List Int, kk ≤ k ∧ laws_FnSorted.j0 kk x7 x9 x10 x15 x16 x19 x20 x22 x27 x29 x179 x710000 x710001 x710002 x710003 x710004 x710005 x739000 x739001 x739002 x739003 x739004 x739005 x753000 x753001 x753002 x753003 x753004 x753005 x767000 x767001 x767002 x767003 x767004 x767005 x793000 x793001 x793002 x793003 x793004 x793005 x794000 x794001 x794002 x794003 x794004 x794005 x808000 x808001 x808002 x808003 x808004 x808005 x822000 x822001 x822002 x822003 x822004 x822005 = some r ∧ At [(6, .ptr 56 0 0), (7, .int .i64 x7), (9, .bool x9), (10, .sl true 1 (mp mkI x10)), (15, .int .i64 x15), (16, .int .i64 x16), (18, .ptr 152 0 0), (19, .int .i64 x19), (20, .int .i64 x20), (21, .ptr 176 0 0), (22, .bool x22), (23, .ptr 192 0 0), (25, .ptr 208 0 0), (26, .ptr 216 0 0), (27, .int .i64 x27), (28, .ptr 232 0 0), (29, .bool x29), (30, .ptr 248 0 0), (179, .bool x179)] [(56, some (.box [.int .i64 x710000, .int .i64 x710001, .int .i64 x710002, .sl true 1 (mp mkI x710003), .sl true 1 (mp mkI x710004), .sl true 1 (mp mkI x710005)])), (152, some (.box [.int .i64 x739000, .int .i64 x739001, .int .i64 x739002, .sl true 1 (mp mkI x739003), .sl true 1 (mp mkI x739004), .sl true 1 (mp mkI x739005)])), (176, some (.box [.int .i64 x753000, .int .i64 x753001, .int .i64 x753002, .sl true 1 (mp mkI x753003), .sl true 1 (mp mkI x753004), .sl true 1 (mp mkI x753005)])), (192, some (.box [.int .i64 x767000, .int .i64 x767001, .int .i64 x767002, .sl true 1 (mp mkI x767003), .sl true 1 (mp mkI x767004), .sl true 1 (mp mkI x767005)])), (208, some (.box [.int .i64 x793000, .int .i64 x793001, .int .i64 x793002, .sl true 1 (mp mkI x793003), .sl true 1 (mp mkI x793004), .sl true 1 (mp mkI x793005)])), (216, some (.box [.int .i64 x794000, .int .i64 x794001, .int .i64 x794002, .sl true 1 (mp mkI x794003), .sl true 1 (mp mkI x794004), .sl true 1 (mp mkI x794005)])), (232, some (.box [.int .i64 x808000, .int .i64 x808001, .int .i64 x808002, .sl true 1 (mp mkI x808003), .sl true 1 (mp mkI x808004), .sl true 1 (mp mkI x808005)])), (248, some (.box [.int .i64 x822000, .int .i64 x822001, .int .i64 x822002, .sl true 1 (mp mkI x822003), .sl true 1 (mp mkI x822004), .sl true 1 (mp mkI x822005)]))] S)) ?_ ?_
    ·
      rcases ite_or h with ⟨c13, h⟩ | ⟨c13, h⟩
      ·
        try simp only [ibeq, ibne, Bool.true_bne, Bool.false_bne, Bool.bne_true, Bool.bne_false, Bool.true_beq, Bool.false_beq, Bool.not_eq_true', Bool.not_eq_false', c1] at c13
        refine AL_region [6, 7, 9, 10, 15, 16, 18, 19, 20, 21, 22, 23, 25, 26, 27, 28, 29, 30, 179] [56, 152, 176, 192, 208, 216, 232, 248] [] ⟨[], [], []⟩ [(3, 132), (9, 138), (14, 143), (19, 148), (24, 153), (29, 158), (35, 164), (40, 169), (46, 175)] (by kernel_rfl) (by kernel_rfl) (by kernel_rfl) (fun K hK => by simp (decide := true) (maxSteps := 4000000) only [go_sem, Nat.reduceAdd, Nat.reduceMul, c1, c13]; exact hK) ?_
        refine AL_meet ?_
        exact ⟨_, _, _, _, _, _, _, _, _, _, _, _, _, _, _, _, _, _, _, _, _, _, _, _, _, _, _, _, _, _, _, _, _, _, _, _, _, _, _, _, _, _, _, _, _, _, _, _, _, _, _, _, _, _, _, _, _, _, _, _, by omega, h, At_keep [6, 7, 9, 10, 15, 16, 18, 19, 20, 21, 22, 23, 25, 26, 27, 28, 29, 30, 179] [56, 152, 176, 192, 208, 216, 232, 248]⟩
      ·
        replace c13 := Bool.of_not_eq_true c13
        try simp only [ibeq, ibne, Bool.true_bne, Bool.false_bne, Bool.bne_true, Bool.bne_false, Bool.true_beq, Bool.false_beq, Bool.not_eq_true', Bool.not_eq_false', c1] at c13
        obtain ⟨t822, g14, h⟩ := bind_or h
        rcases ite_or h with ⟨c15, h⟩ | ⟨c15, h⟩
        ·
          rcases ite_or h with ⟨c16, h⟩ | ⟨c16, h⟩
          ·
            try simp only [ibeq, ibne, Bool.true_bne, Bool.false_bne, Bool.bne_true, Bool.bne_false, Bool.true_beq, Bool.false_beq, Bool.not_eq_true', Bool.not_eq_false', c1, c13, c15] at c16
            refine AL_region [6, 7, 9, 10, 15, 16, 18, 19, 20, 21, 22, 23, 25, 26, 27, 28, 29, 30, 179] [56, 152, 176, 192, 208, 216, 232, 248] [] ⟨[], [], []⟩ [(3, 132), (9, 138), (14, 143), (19, 148), (24, 153), (29, 158), (35, 164), (40, 169), (46, 175)] (by kernel_rfl) (by kernel_rfl) (by kernel_rfl) (fun K hK => by simp (decide := true) (maxSteps := 4000000) only [go_sem, Nat.reduceAdd, Nat.reduceMul, c1, c13, c15, c16]; refine ⟨_, _, _, laws_qInts.V g14, ?_⟩; simp (decide := true) (maxSteps := 4000000) only [go_sem, Nat.reduceAdd, Nat.reduceMul, c1, c13, c15, c16]; exact hK) ?_
            refine AL_meet ?_
            exact ⟨_, _, _, _, _, _, _, _, _, _, _, _, _, _, _, _, _, _, _, _, _, _, _, _, _, _, _, _, _, _, _, _, _, _, _, _, _, _, _, _, _, _, _, _, _, _, _, _, _, _, _, _, _, _, _, _, _, _, _, _, by omega, h, At_keep [6, 7, 9, 10, 15, 16, 18, 19, 20, 21, 22, 23, 25, 26, 27, 28, 29, 30, 179] [56, 152, 176, 192, 208, 216, 232, 248]⟩
          ·
            replace c16 := Bool.of_not_eq_true c16
            try simp only [ibeq, ibne, Bool.true_bne, Bool.false_bne, Bool.bne_true, Bool.bne_false, Bool.true_beq, Bool.false_beq, Bool.not_eq_true', Bool.not_eq_false', c1, c13, c15] at c16
            rcases ite_or h with ⟨c17, h⟩ | ⟨c17, h⟩
            ·
              replace c17 := eq_true c17
              rcases ite_or h with ⟨c18, h⟩ | ⟨c18, h⟩
              ·
                replace c18 := eq_true c18
                rcases ite_or h with ⟨c19, h⟩ | ⟨c19, h⟩
                ·
                  try simp only [ibeq, ibne, Bool.true_bne, Bool.false_bne, Bool.bne_true, Bool.bne_false, Bool.true_beq, Bool.false_beq, Bool.not_eq_true', Bool.not_eq_false', c1, c13, c15, c16, c17, c18] at c19
                  refine AL_region [6, 7, 9, 10, 15, 16, 18, 19, 20, 21, 22, 23, 25, 26, 27, 28, 29, 30, 179] [56, 152, 176, 192, 208, 216, 232, 248] [] ⟨[], [], []⟩ [(3, 132), (9, 138), (14, 143), (19, 148), (24, 153), (29, 158), (35, 164), (40, 169), (46, 175)] (by kernel_rfl) (by kernel_rfl) (by kernel_rfl) (fun K hK => by simp (decide := true) (maxSteps := 4000000) only [go_sem, Nat.reduceAdd, Nat.reduceMul, c1, c13, c15, c16, c17, c18, c19]; refine ⟨_, _, _, laws_qInts.V g14, ?_⟩; simp (decide := true) (maxSteps := 4000000) only [go_sem, Nat.reduceAdd, Nat.reduceMul, c1, c13, c15, c16, c17, c18, c19]; exact hK) ?_
                  refine AL_meet ?_
                  exact ⟨_, _, _, _, _, _, _, _, _, _, _, _, _, _, _, _, _, _, _, _, _, _, _, _, _, _, _, _, _, _, _, _, _, _, _, _, _, _, _, _, _, _, _, _, _, _, _, _, _, _, _, _, _, _, _, _, _, _, _, _, by omega, h, At_keep [6, 7, 9, 10, 15, 16, 18, 19, 20, 21, 22, 23, 25, 26, 27, 28, 29, 30, 179] [56, 152, 176, 192, 208, 216, 232, 248]⟩
                ·
                  replace c19 := Bool.of_not_eq_true c19
                  try simp only [ibeq, ibne, Bool.true_bne, Bool.false_bne, Bool.bne_true, Bool.bne_false, Bool.true_beq, Bool.false_beq, Bool.not_eq_true', Bool.not_eq_false', c1, c13, c15, c16, c17, c18] at c19
                  obtain ⟨t823, g20, h⟩ := bind_or h
                  rcases ite_or h with ⟨c21, h⟩ | ⟨c21, h⟩
                  ·
                    rcases ite_or h with ⟨c22, h⟩ | ⟨c22, h⟩
                    ·
                      try simp only [ibeq, ibne, Bool.true_bne, Bool.false_bne, Bool.bne_true, Bool.bne_false, Bool.true_beq, Bool.false_beq, Bool.not_eq_true', Bool.not_eq_false', c1, c13, c15, c16, c17, c18, c19, c21] at c22
                      refine AL_region [6, 7, 9, 10, 15, 16, 18, 19, 20, 21, 22, 23, 25, 26, 27, 28, 29, 30, 179] [56, 152, 176, 192, 208, 216, 232, 248] [] ⟨[], [], []⟩ [(3, 132), (9, 138), (14, 143), (19, 148), (24, 153), (29, 158), (35, 164), (40, 169), (46, 175)] (by kernel_rfl) (by kernel_rfl) (by kernel_rfl) (fun K hK => by simp (decide := true) (maxSteps := 4000000) only [go_sem, Nat.reduceAdd, Nat.reduceMul, c1, c13, c15, c16, c17, c18, c19, c21, c22]; refine ⟨_, _, _, laws_qInts.V g14, ?_⟩; simp (decide := true) (maxSteps := 4000000) only [go_sem, Nat.reduceAdd, Nat.reduceMul, c1, c13, c15, c16, c17, c18, c19, c21, c22]; refine ⟨_, _, _, laws_qModel.V g20, ?_⟩; simp (decide := true) (maxSteps := 4000000) only [go_sem, Nat.reduceAdd, Nat.reduceMul, c1, c13, c15, c16, c17, c18, c19, c21, c22]; exact hK) ?_
                      refine AL_meet ?_
                      exact ⟨_, _, _, _, _, _, _, _, _, _, _, _, _, _, _, _, _, _, _, _, _, _, _, _, _, _, _, _, _, _, _, _, _, _, _, _, _, _, _, _, _, _, _, _, _, _, _, _, _, _, _, _, _, _, _, _, _, _, _, _, by omega, h, At_keep [6, 7, 9, 10, 15, 16, 18, 19, 20, 21, 22, 23, 25, 26, 27, 28, 29, 30, 179] [56, 152, 176, 192, 208, 216, 232, 248]⟩
                    ·
                      replace c22 := Bool.of_not_eq_true c22
                      try simp only [ibeq, ibne, Bool.true_bne, Bool.false_bne, Bool.bne_true, Bool.bne_false, Bool.true_beq, Bool.false_beq, Bool.not_eq_true', Bool.not_eq_false', c1, c13, c15, c16, c17, c18, c19, c21] at c22
                      obtain ⟨t824, g23, h⟩ := bind_or h
                      rcases ite_or h with ⟨c24, h⟩ | ⟨c24, h⟩
                      ·
                        refine AL_region [6, 7, 9, 10, 15, 16, 18, 19, 20, 21, 22, 23, 25, 26, 27, 28, 29, 30, 179] [56, 152, 176, 192, 208, 216, 232, 248] [] ⟨[], [], []⟩ [(3, 132), (9, 138), (14, 143), (19, 148), (24, 153), (29, 158), (35, 164), (40, 169), (46, 175)] (by kernel_rfl) (by kernel_rfl) (by kernel_rfl) (fun K hK => by simp (decide := true) (maxSteps := 4000000) only [go_sem, Nat.reduceAdd, Nat.reduceMul, c1, c13, c15, c16, c17, c18, c19, c21, c22, c24]; refine ⟨_, _, _, laws_qInts.V g14, ?_⟩; simp (decide := true) (maxSteps := 4000000) only [go_sem, Nat.reduceAdd, Nat.reduceMul, c1, c13, c15, c16, c17, c18, c19, c21, c22, c24]; refine ⟨_, _, _, laws_qModel.V g20, ?_⟩; simp (decide := true) (maxSteps := 4000000) only [go_sem, Nat.reduceAdd, Nat.reduceMul, c1, c13, c15, c16, c17, c18, c19, c21, c22, c24]; refine ⟨_, _, _, laws_qModel.V g23, ?_⟩; simp (decide := true) (maxSteps := 4000000) only [go_sem, Nat.reduceAdd, Nat.reduceMul, c1, c13, c15, c16, c17, c18, c19, c21, c22, c24]; exact hK) ?_
                        refine AL_meet ?_
                        exact ⟨_, _, _, _, _, _, _, _, _, _, _, _, _, _, _, _, _, _, _, _, _, _, _, _, _, _, _, _, _, _, _, _, _, _, _, _, _, _, _, _, _, _, _, _, _, _, _, _, _, _, _, _, _, _, _, _, _, _, _, _, by omega, h, At_keep [6, 7, 9, 10, 15, 16, 18, 19, 20, 21, 22, 23, 25, 26, 27, 28, 29, 30, 179] [56, 152, 176, 192, 208, 216, 232, 248]⟩
                      ·
                        replace c24 := Bool.of_not_eq_true c24
                        refine AL_region [6, 7, 9, 10, 15, 16, 18, 19, 20, 21, 22, 23, 25, 26, 27, 28, 29, 30, 179] [56, 152, 176, 192, 208, 216, 232, 248] [] ⟨[], [], []⟩ [(3, 132), (9, 138), (14, 143), (19, 148), (24, 153), (29, 158), (35, 164), (40, 169), (46, 175)] (by kernel_rfl) (by kernel_rfl) (by kernel_rfl) (fun K hK => by simp (decide := true) (maxSteps := 4000000) only [go_sem, Nat.reduceAdd, Nat.reduceMul, c1, c13, c15, c16, c17, c18, c19, c21, c22, c24]; refine ⟨_, _, _, laws_qInts.V g14, ?_⟩; simp (decide := true) (maxSteps := 4000000) only [go_sem, Nat.reduceAdd, Nat.reduceMul, c1, c13, c15, c16, c17, c18, c19, c21, c22, c24]; refine ⟨_, _, _, laws_qModel.V g20, ?_⟩; simp (decide := true) (maxSteps := 4000000) only [go_sem, Nat.reduceAdd, Nat.reduceMul, c1, c13, c15, c16, c17, c18, c19, c21, c22, c24]; refine ⟨_, _, _, laws_qModel.V g23, ?_⟩; simp (decide := true) (maxSteps := 4000000) only [go_sem, Nat.reduceAdd, Nat.reduceMul, c1, c13, c15, c16, c17, c18, c19, c21, c22, c24]; exact hK) ?_
                        refine AL_meet ?_
                        exact ⟨_, _, _, _, _, _, _, _, _, _, _, _, _, _, _, _, _, _, _, _, _, _, _, _, _, _, _, _, _, _, _, _, _, _, _, _, _, _, _, _, _, _, _, _, _, _, _, _, _, _, _, _, _, _, _, _, _, _, _, _, by omega, h, At_keep [6, 7, 9, 10, 15, 16, 18, 19, 20, 21, 22, 23, 25, 26, 27, 28, 29, 30, 179] [56, 152, 176, 192, 208, 216, 232, 248]⟩
                  ·
                    replace c21 := Bool.of_not_eq_true c21
                    refine AL_region [6, 7, 9, 10, 15, 16, 18, 19, 20, 21, 22, 23, 25, 26, 27, 28, 29, 30, 179] [56, 152, 176, 192, 208, 216, 232, 248] [] ⟨[], [], []⟩ [(3, 132), (9, 138), (14, 143), (19, 148), (24, 153), (29, 158), (35, 164), (40, 169), (46, 175)] (by kernel_rfl) (by kernel_rfl) (by kernel_rfl) (fun K hK => by simp (decide := true) (maxSteps := 4000000) only [go_sem, Nat.reduceAdd, Nat.reduceMul, c1, c13, c15, c16, c17, c18, c19, c21]; refine ⟨_, _, _, laws_qInts.V g14, ?_⟩; simp (decide := true) (maxSteps := 4000000) only [go_sem, Nat.reduceAdd, Nat.reduceMul, c1, c13, c15, c16, c17, c18, c19, c21]; refine ⟨_, _, _, laws_qModel.V g20, ?_⟩; simp (decide := true) (maxSteps := 4000000) only [go_sem, Nat.reduceAdd, Nat.reduceMul, c1, c13, c15, c16, c17, c18, c19, c21]; exact hK) ?_
                    refine AL_meet ?_
                    exact ⟨_, _, _, _, _, _, _, _, _, _, _, _, _, _, _, _, _, _, _, _, _, _, _, _, _, _, _, _, _, _, _, _, _, _, _, _, _, _, _, _, _, _, _, _, _, _, _, _, _, _, _, _, _, _, _, _, _, _, _, _, by omega, h, At_keep [6, 7, 9, 10, 15, 16, 18, 19, 20, 21, 22, 23, 25, 26, 27, 28, 29, 30, 179] [56, 152, 176, 192, 208, 216, 232, 248]⟩
              ·
                replace c18 := eq_false c18
                refine AL_region [6, 7, 9, 10, 15, 16, 18, 19, 20, 21, 22, 23, 25, 26, 27, 28, 29, 30, 179] [56, 152, 176, 192, 208, 216, 232, 248] [] ⟨[], [], []⟩ [(3, 132), (9, 138), (14, 143), (19, 148), (24, 153), (29, 158), (35, 164), (40, 169), (46, 175)] (by kernel_rfl) (by kernel_rfl) (by kernel_rfl) (fun K hK => by simp (decide := true) (maxSteps := 4000000) only [go_sem, Nat.reduceAdd, Nat.reduceMul, c1, c13, c15, c16, c17, c18]; refine ⟨_, _, _, laws_qInts.V g14, ?_⟩; simp (decide := true) (maxSteps := 4000000) only [go_sem, Nat.reduceAdd, Nat.reduceMul, c1, c13, c15, c16, c17, c18]; exact hK) ?_
                refine AL_meet ?_
                exact ⟨_, _, _, _, _, _, _, _, _, _, _, _, _, _, _, _, _, _, _, _, _, _, _, _, _, _, _, _, _, _, _, _, _, _, _, _, _, _, _, _, _, _, _, _, _, _, _, _, _, _, _, _, _, _, _, _, _, _, _, _, by omega, h, At_keep [6, 7, 9, 10, 15, 16, 18, 19, 20, 21, 22, 23, 25, 26, 27, 28, 29, 30, 179] [56, 152, 176, 192, 208, 216, 232, 248]⟩
            ·
              replace c17 := eq_false c17
              refine AL_region [6, 7, 9, 10, 15, 16, 18, 19, 20, 21, 22, 23, 25, 26, 27, 28, 29, 30, 179] [56, 152, 176, 192, 208, 216, 232, 248] [] ⟨[], [], []⟩ [(3, 132), (9, 138), (14, 143), (19, 148), (24, 153), (29, 158), (35, 164), (40, 169), (46, 175)] (by kernel_rfl) (by kernel_rfl) (by kernel_rfl) (fun K hK => by simp (decide := true) (maxSteps := 4000000) only [go_sem, Nat.reduceAdd, Nat.reduceMul, c1, c13, c15, c16, c17]; refine ⟨_, _, _, laws_qInts.V g14, ?_⟩; simp (decide := true) (maxSteps := 4000000) only [go_sem, Nat.reduceAdd, Nat.reduceMul, c1, c13, c15, c16, c17]; exact hK) ?_
              refine AL_meet ?_
              exact ⟨_, _, _, _, _, _, _, _, _, _, _, _, _, _, _, _, _, _, _, _, _, _, _, _, _, _, _, _, _, _, _, _, _, _, _, _, _, _, _, _, _, _, _, _, _, _, _, _, _, _, _, _, _, _, _, _, _, _, _, _, by omega, h, At_keep [6, 7, 9, 10, 15, 16, 18, 19, 20, 21, 22, 23, 25, 26, 27, 28, 29, 30, 179] [56, 152, 176, 192, 208, 216, 232, 248]⟩
        ·
          replace c15 := Bool.of_not_eq_true c15
          refine AL_region [6, 7, 9, 10, 15, 16, 18, 19, 20, 21, 22, 23, 25, 26, 27, 28, 29, 30, 179] [56, 152, 176, 192, 208, 216, 232, 248] [] ⟨[], [], []⟩ [(3, 132), (9, 138), (14, 143), (19, 148), (24, 153), (29, 158), (35, 164), (40, 169), (46, 175)] (by kernel_rfl) (by kernel_rfl) (by kernel_rfl) (fun K hK => by simp (decide := true) (maxSteps := 4000000) only [go_sem, Nat.reduceAdd, Nat.reduceMul, c1, c13, c15]; refine ⟨_, _, _, laws_qInts.V g14, ?_⟩; simp (decide := true) (maxSteps := 4000000) only [go_sem, Nat.reduceAdd, Nat.reduceMul, c1, c13, c15]; exact hK) ?_
          refine AL_meet ?_
          exact ⟨_, _, _, _, _, _, _, _, _, _, _, _, _, _, _, _, _, _, _, _, _, _, _, _, _, _, _, _, _, _, _, _, _, _, _, _, _, _, _, _, _, _, _, _, _, _, _, _, _, _, _, _, _, _, _, _, _, _, _, _, by omega, h, At_keep [6, 7, 9, 10, 15, 16, 18, 19, 20, 21, 22, 23, 25, 26, 27, 28, 29, 30, 179] [56, 152, 176, 192, 208, 216, 232, 248]⟩
    ·
      intro S hS
      obtain ⟨kk25, x7, x9, x10, x15, x16, x19, x20, x22, x27, x29, x179, x710000, x710001, x710002, x710003, x710004, x710005, x739000, x739001, x739002, x739003, x739004, x739005, x753000, x753001, x753002, x753003, x753004, x753005, x767000, x767001, x767002, x767003, x767004, x767005, x793000, x793001, x793002, x793003, x793004, x793005, x794000, x794001, x794002, x794003, x794004, x794005, x808000, x808001, x808002, x808003, x808004, x808005, x822000, x822001, x822002, x822003, x822004, x822005, hkq26, h, hS⟩ := hS
      rcases kk25 with _ | n27
      · (rw [laws_FnSorted.j0] at h; cases h)
      rw [laws_FnSorted.j0] at h
      refine AW_at hS ?_
      rcases ite_or h with ⟨c28, h⟩ | ⟨c28, h⟩
      ·
        refine AL_then (by simp (decide := true) only [go_sem, Nat.reduceAdd, Nat.reduceMul, c28]) ?_
        refine AL_seq ?_
        refine AL_region [4] [] [] ⟨[], [], []⟩ [] (by kernel_rfl) (by kernel_rfl) (by kernel_rfl) (fun K hK => by simp (decide := true) only [go_sem, Nat.reduceAdd, Nat.reduceMul, c28]; exact hK) ?_
        obtain rfl := Option.some.inj h
        refine AL_ret (fun _ => rfl) ?_
        exact retF_mk rfl (by exact ⟨trivial, trivial⟩) rfl (by exact rfl) (by exact trivial) (by exact trivial)
      ·
        replace c28 := Bool.of_not_eq_true c28
        refine AL_else (by simp (decide := true) only [go_sem, Nat.reduceAdd, Nat.reduceMul, c28]) ?_
        refine AL_skip ?_
        refine AL_seq ?_
        refine AL_seq ?_
        refine AL_region [6, 7, 9, 10, 15, 16, 18, 19, 20, 21, 23, 25, 26, 27, 28, 29, 30, 180] [56, 152, 176, 192, 208, 216, 232, 248] [] ⟨[], [], []⟩ [] (by kernel_rfl) (by kernel_rfl) (by kernel_rfl) (fun K hK => by simp (decide := true) only [go_sem, Nat.reduceAdd, Nat.reduceMul, c28]; exact hK) ?_
        refine AL_cut (fun S => (∃ kk : Nat, ∃ x7 : Int, ∃ x9 : Bool, ∃ x10 : List Int, ∃ x15 : Int, ∃ x16 : Int, ∃ x27 : Int, ∃ x29 : Bool, ∃ x710000 : Int, ∃ x710001 : Int, ∃ x710002 : Int, ∃ x710003 : List Int, ∃ x710004 : List Int, ∃ x710005 : List Int, ∃ x793000 : Int, ∃ x793001 : Int, ∃ x793002 : Int, ∃ x793003 : List Int, ∃ x793004 : List Int, ∃ x793005 : List Int, ∃ x794000 : Int, ∃ x794001 : Int, ∃ x794002 : Int, ∃ x794003 : List Int, ∃ x794004 : List Int, ∃ x794005 : List Int, ∃ x808000 : Int, ∃ x808001 : Int, ∃ x808002 : Int, ∃ x808003 : List Int, ∃ x808004 : List Int, ∃ x808005 : List Int, ∃ x822000 : Int, ∃ x822001 : Int, ∃ x822002 : Int, ∃ x822003 : List Int, ∃ x822004 : List Int, ∃ x822005 : List Int, kk ≤ n27 ∧ laws_FnSorted.j3 kk x7 x9 x10 x15 x16 x27 x29 x710000 x710001 x710002 x710003 x710004 x710005 x793000 x793001 x793002 x793003 x793004 x793005 x794000 x794001 x794002 x794003 x794004 x794005 x808000 x808001 x808002 x808003 x808004 x808005 x822000 x822001 x822002 x822003 x822004 x822005 = some r ∧ At [(6, .ptr 56 0 0), (7, .int .i64 x7), (9, .bool x9), (10, .sl true 1 (mp mkI x10)), (15, .int .i64 x15), (16, .int .i64 x16), (25, .ptr 208 0 0), (26, .ptr 216 0 0), (27, .int .i64 x27), (28, .ptr 232 0 0), (29, .bool x29), (30, .ptr 248 0 0)] [(56, some (.box [.int .i64 x710000, .int .i64 x710001, .int .i64 x710002, .sl true 1 (mp mkI x710003), .sl true 1 (mp mkI x710004), .sl true 1 (mp mkI x710005)])), (208, some (.box [.int .i64 x793000, .int .i64 x793001, .int .i64 x793002, .sl true 1 (mp mkI x793003), .sl true 1 (mp mkI x793004), .sl true 1 (mp mkI x793005)])), (216, some (.box [.int .i64 x794000, .int .i64 x794001, .int .i64 x794002, .sl true 1 (mp mkI x794003), .sl true 1 (mp mkI x794004), .sl true 1 (mp mkI x794005)])), (232, some (.box [.int .i64 x808000, .int .i64 x808001, .int .i64 x808002, .sl true 1 (mp mkI x808003), .sl true 1 (mp mkI x808004), .sl true 1 (mp mkI x808005)])), (248, some (.box [.int .i64 x822000, .int .i64 x822001, .int .i64 x822002, .sl true 1 (mp mkI x822003), .sl true 1 (mp mkI x822004), .sl true 1 (mp mkI x822005)]))] S)) ?_ ?_
        ·
          rcases ite_or h with ⟨c29, h⟩ | ⟨c29, h⟩
          ·
            refine AL_then (by simp (decide := true) only [go_sem, Nat.reduceAdd, Nat.reduceMul, c28, c29]) ?_
            refine AL_seq ?_
            refine AL_seq ?_
            refine AL_cut (fun S => (∃ kk : Nat, ∃ x7 : Int, ∃ x9 : Bool, ∃ x10 : List Int, ∃ x15 : Int, ∃ x16 : Int, ∃ x19 : Int, ∃ x20 : Int, ∃ x27 : Int, ∃ x29 : Bool, ∃ x194 : Bool, ∃ x710000 : Int, ∃ x710001 : Int, ∃ x710002 : Int, ∃ x710003 : List Int, ∃ x710004 : List Int, ∃ x710005 : List Int, ∃ x739000 : Int, ∃ x739001 : Int, ∃ x739002 : Int, ∃ x739003 : List Int, ∃ x739004 : List Int, ∃ x739005 : List Int, ∃ x767000 : Int, ∃ x767001 : Int, ∃ x767002 : Int, ∃ x767003 : List Int, ∃ x767004 : List Int, ∃ x767005 : List Int, ∃ x793000 : Int, ∃ x793001 : Int, ∃ x793002 : Int, ∃ x793003 : List Int, ∃ x793004 : List Int, ∃ x793005 : List Int, ∃ x794000 : Int, ∃ x794001 : Int, ∃ x794002 : Int, ∃ x794003 : List Int, ∃ x794004 : List Int, ∃ x794005 : List Int, ∃ x808000 : Int, ∃ x808001 : Int, ∃ x808002 : Int, ∃ x808003 : List Int, ∃ x808004 : List Int, ∃ x808005 : List Int, ∃ x822000 : Int, ∃ x822001 : Int, ∃ x822002 : Int, ∃ x822003 : List Int, ∃ x822004 : List Int, ∃ x822005 : List Int, kk ≤ n27 ∧ laws_FnSorted.j1 kk x7 x9 x10 x15 x16 x19 x20 x27 x29 x194 x710000 x710001 x710002 x710003 x710004 x710005 x739000 x739001 x739002 x739003 x739004 x739005 x767000 x767001 x767002 x767003 x767004 x767005 x793000 x793001 x793002 x793003 x793004 x793005 x794000 x794001 x794002 x794003 x794004 x794005 x808000 x808001 x808002 x808003 x808004 x808005 x822000 x822001 x822002 x822003 x822004 x822005 = some r ∧ At [(6, .ptr 56 0 0), (7, .int .i64 x7), (9, .bool x9), (10, .sl true 1 (mp mkI x10)), (15, .int .i64 x15), (16, .int .i64 x16), (18, .ptr 152 0 0), (19, .int .i64 x19), (20, .int .i64 x20), (23, .ptr 192 0 0), (25, .ptr 208 0 0), (26, .ptr 216 0 0), (27, .int .i64 x27), (28, .ptr 232 0 0), (29, .bool x29), (30, .ptr 248 0 0), (194, .bool x194)] [(56, some (.box [.int .i64 x710000, .int .i64 x710001, .int .i64 x710002, .sl true 1 (mp mkI x710003), .sl true 1 (mp mkI x710004), .sl true 1 (mp mkI x710005)])), (152, some (.box [.int .i64 x739000, .int .i64 x739001, .int .i64 x739002, .sl true 1 (mp mkI x739003), .sl true 1 (mp mkI x739004), .sl true 1 (mp mkI x739005)])), (192, some (.box [.int .i64 x767000, .int .i64 x767001, .int .i64 x767002, .sl true 1 (mp mkI x767003), .sl true 1 (mp mkI x767004), .sl true 1 (mp mkI x767005)])), (208, some (.box [.int .i64 x793000, .int .i64 x793001, .int .i64 x793002, .sl true 1 (mp mkI x793003), .sl true 1 (mp mkI x793004), .sl true 1 (mp mkI x793005)])), (216, some (.box [.int .i64 x794000, .int .i64 x794001, .int .i64 x794002, .sl true 1 (mp mkI x794003), .sl true 1 (mp mkI x794004), .sl true 1 (mp mkI x794005)])), (232, some (.box [.int .i64 x808000, .int .i64 x808001, .int .i64 x808002, .sl true 1 (mp mkI x808003), .sl true 1 (mp mkI x808004), .sl true 1 (mp mkI x808005)])), (248, some (.box [.int .i64 x822000, .int .i64 x822001, .int .i64 x822002, .sl true 1 (mp mkI x822003), .sl true 1 (mp mkI x822004), .sl true 1 (mp mkI x822005)]))] S)) ?_ ?_
            ·
              obtain ⟨t825, g30, h⟩ := bind_or h
              rcases ite_or h with ⟨c31, h⟩ | ⟨c31, h⟩
              ·
                rcases ite_or h with ⟨c32, h⟩ | ⟨c32, h⟩
                ·
                  replace c32 := eq_true c32
                  obtain ⟨t826, g33, h⟩ := bind_or h
                  refine AL_region [6, 7, 9, 10, 15, 16, 18, 19, 20, 23, 25, 26, 27, 28, 29, 30, 194] [56, 152, 192, 208, 216, 232, 248] [] ⟨[], [], []⟩ [(3, 184), (7, 188)] (by kernel_rfl) (by kernel_rfl) (by kernel_rfl) (fun K hK => by simp (decide := true) (maxSteps := 4000000) only [go_sem, Nat.reduceAdd, Nat.reduceMul, c28, c29, c31, c32]; refine ⟨_, _, _, impl_IsModel.V g30, ?_⟩; simp (decide := true) (maxSteps := 4000000) only [go_sem, Nat.reduceAdd, Nat.reduceMul, c28, c29, c31, c32]; refine ⟨_, _, _, laws_qModel.V g33, ?_⟩; simp (decide := true) (maxSteps := 4000000) only [go_sem, Nat.reduceAdd, Nat.reduceMul, c28, c29, c31, c32]; exact hK) ?_
                  refine AL_meet ?_
                  exact ⟨_, _, _, _, _, _, _, _, _, _, _, _, _, _, _, _, _, _, _, _, _, _, _, _, _, _, _, _, _, _, _, _, _, _, _, _, _, _, _, _, _, _, _, _, _, _, _, _, _, _, _, _, _, by omega, h, At_keep [6, 7, 9, 10, 15, 16, 18, 19, 20, 23, 25, 26, 27, 28, 29, 30, 194] [56, 152, 192, 208, 216, 232, 248]⟩
                ·
                  replace c32 := eq_false c32
                  refine AL_region [6, 7, 9, 10, 15, 16, 18, 19, 20, 23, 25, 26, 27, 28, 29, 30, 194] [56, 152, 192, 208, 216, 232, 248] [] ⟨[], [], []⟩ [(3, 184), (7, 188)] (by kernel_rfl) (by kernel_rfl) (by kernel_rfl) (fun K hK => by simp (decide := true) (maxSteps := 4000000) only [go_sem, Nat.reduceAdd, Nat.reduceMul, c28, c29, c31, c32]; refine ⟨_, _, _, impl_IsModel.V g30, ?_⟩; simp (decide := true) (maxSteps := 4000000) only [go_sem, Nat.reduceAdd, Nat.reduceMul, c28, c29, c31, c32]; exact hK) ?_
                  refine AL_meet ?_
                  exact ⟨_, _, _, _, _, _, _, _, _, _, _, _, _, _, _, _, _, _, _, _, _, _, _, _, _, _, _, _, _, _, _, _, _, _, _, _, _, _, _, _, _, _, _, _, _, _, _, _, _, _, _, _, _, by omega, h, At_keep [6, 7, 9, 10, 15, 16, 18, 19, 20, 23, 25, 26, 27, 28, 29, 30, 194] [56, 152, 192, 208, 216, 232, 248]⟩
              ·
                replace c31 := Bool.of_not_eq_true c31
                refine AL_region [6, 7, 9, 10, 15, 16, 18, 19, 20, 23, 25, 26, 27, 28, 29, 30, 194] [56, 152, 192, 208, 216, 232, 248] [] ⟨[], [], []⟩ [(3, 184), (7, 188)] (by kernel_rfl) (by kernel_rfl) (by kernel_rfl) (fun K hK => by simp (decide := true) (maxSteps := 4000000) only [go_sem, Nat.reduceAdd, Nat.reduceMul, c28, c29, c31]; refine ⟨_, _, _, impl_IsModel.V g30, ?_⟩; simp (decide := true) (maxSteps := 4000000) only [go_sem, Nat.reduceAdd, Nat.reduceMul, c28, c29, c31]; exact hK) ?_
                refine AL_meet ?_
                exact ⟨_, _, _, _, _, _, _, _, _, _, _, _, _, _, _, _, _, _, _, _, _, _, _, _, _, _, _, _, _, _, _, _, _, _, _, _, _, _, _, _, _, _, _, _, _, _, _, _, _, _, _, _, _, by omega, h, At_keep [6, 7, 9, 10, 15, 16, 18, 19, 20, 23, 25, 26, 27, 28, 29, 30, 194] [56, 152, 192, 208, 216, 232, 248]⟩
            ·
              intro S hS
              obtain ⟨kk34, x7, x9, x10, x15, x16, x19, x20, x27, x29, x194, x710000, x710001, x710002, x710003, x710004, x710005, x739000, x739001, x739002, x739003, x739004, x739005, x767000, x767001, x767002, x767003, x767004, x767005, x793000, x793001, x793002, x793003, x793004, x793005, x794000, x794001, x794002, x794003, x794004, x794005, x808000, x808001, x808002, x808003, x808004, x808005, x822000, x822001, x822002, x822003, x822004, x822005, hkq35, h, hS⟩ := hS
              rcases kk34 with _ | n36
              · (rw [laws_FnSorted.j1] at h; cases h)
              rw [laws_FnSorted.j1] at h
              refine AW_at hS ?_
              rcases ite_or h with ⟨c37, h⟩ | ⟨c37, h⟩
              ·
                refine AL_then (by simp (decide := true) only [go_sem, Nat.reduceAdd, Nat.reduceMul, c37]) ?_
                refine AL_seq ?_
                refine AL_region [4] [] [] ⟨[], [], []⟩ [] (by kernel_rfl) (by kernel_rfl) (by kernel_rfl) (fun K hK => by simp (decide := true) only [go_sem, Nat.reduceAdd, Nat.reduceMul, c37]; exact hK) ?_
                obtain rfl := Option.some.inj h
                refine AL_ret (fun _ => rfl) ?_
                exact retF_mk rfl (by exact ⟨trivial, trivial⟩) rfl (by exact rfl) (by exact trivial) (by exact trivial)
              ·
                replace c37 := Bool.of_not_eq_true c37
                refine AL_else (by simp (decide := true) only [go_sem, Nat.reduceAdd, Nat.reduceMul, c37]) ?_
                refine AL_skip ?_
                refine AL_seq ?_
                refine AL_region [6, 7, 9, 10, 15, 16, 18, 19, 20, 25, 26, 27, 28, 29, 30, 196, 197, 198] [56, 152, 208, 216, 232, 248] [] ⟨[], [], []⟩ [] (by kernel_rfl) (by kernel_rfl) (by kernel_rfl) (fun K hK => by simp (decide := true) only [go_sem, Nat.reduceAdd, Nat.reduceMul, c37]; exact hK) ?_
                refine AL_block ?_
                refine AL_loop (n := n36) (fun n S => (∃ x7 : Int, ∃ x9 : Bool, ∃ x10 : List Int, ∃ x15 : Int, ∃ x16 : Int, ∃ x19 : Int, ∃ x20 : Int, ∃ x27 : Int, ∃ x29 : Bool, ∃ x196 : List Int, ∃ x197 : Int, ∃ x198 : Int, ∃ x710000 : Int, ∃ x710001 : Int, ∃ x710002 : Int, ∃ x710003 : List Int, ∃ x710004 : List Int, ∃ x710005 : List Int, ∃ x739000 : Int, ∃ x739001 : Int, ∃ x739002 : Int, ∃ x739003 : List Int, ∃ x739004 : List Int, ∃ x739005 : List Int, ∃ x793000 : Int, ∃ x793001 : Int, ∃ x793002 : Int, ∃ x793003 : List Int, ∃ x793004 : List Int, ∃ x793005 : List Int, ∃ x794000 : Int, ∃ x794001 : Int, ∃ x794002 : Int, ∃ x794003 : List Int, ∃ x794004 : List Int, ∃ x794005 : List Int, ∃ x808000 : Int, ∃ x808001 : Int, ∃ x808002 : Int, ∃ x808003 : List Int, ∃ x808004 : List Int, ∃ x808005 : List Int, ∃ x822000 : Int, ∃ x822001 : Int, ∃ x822002 : Int, ∃ x822003 : List Int, ∃ x822004 : List Int, ∃ x822005 : List Int, n ≤ n36 ∧ laws_FnSorted.l0 n x7 x9 x10 x15 x16 x19 x20 x27 x29 x196 x197 x198 x710000 x710001 x710002 x710003 x710004 x710005 x739000 x739001 x739002 x739003 x739004 x739005 x793000 x793001 x793002 x793003 x793004 x793005 x794000 x794001 x794002 x794003 x794004 x794005 x808000 x808001 x808002 x808003 x808004 x808005 x822000 x822001 x822002 x822003 x822004 x822005 = some r ∧ At [(6, .ptr 56 0 0), (7, .int .i64 x7), (9, .bool x9), (10, .sl true 1 (mp mkI x10)), (15, .int .i64 x15), (16, .int .i64 x16), (18, .ptr 152 0 0), (19, .int .i64 x19), (20, .int .i64 x20), (25, .ptr 208 0 0), (26, .ptr 216 0 0), (27, .int .i64 x27), (28, .ptr 232 0 0), (29, .bool x29), (30, .ptr 248 0 0), (196, .sl true 1 (mp mkI x196)), (197, .int .i64 x197), (198, .int .i64 x198)] [(56, some (.box [.int .i64 x710000, .int .i64 x710001, .int .i64 x710002, .sl true 1 (mp mkI x710003), .sl true 1 (mp mkI x710004), .sl true 1 (mp mkI x710005)])), (152, some (.box [.int .i64 x739000, .int .i64 x739001, .int .i64 x739002, .sl true 1 (mp mkI x739003), .sl true 1 (mp mkI x739004), .sl true 1 (mp mkI x739005)])), (208, some (.box [.int .i64 x793000, .int .i64 x793001, .int .i64 x793002, .sl true 1 (mp mkI x793003), .sl true 1 (mp mkI x793004), .sl true 1 (mp mkI x793005)])), (216, some (.box [.int .i64 x794000, .int .i64 x794001, .int .i64 x794002, .sl true 1 (mp mkI x794003), .sl true 1 (mp mkI x794004), .sl true 1 (mp mkI x794005)])), (232, some (.box [.int .i64 x808000, .int .i64 x808001, .int .i64 x808002, .sl true 1 (mp mkI x808003), .sl true 1 (mp mkI x808004), .sl true 1 (mp mkI x808005)])), (248, some (.box [.int .i64 x822000, .int .i64 x822001, .int .i64 x822002, .sl true 1 (mp mkI x822003), .sl true 1 (mp mkI x822004), .sl true 1 (mp mkI x822005)]))] S)) ?_ ?_
                · exact ⟨_, _, _, _, _, _, _, _, _, _, _, _, _, _, _, _, _, _, _, _, _, _, _, _, _, _, _, _, _, _, _, _, _, _, _, _, _, _, _, _, _, _, _, _, _, _, _, _, by omega, h, At_keep [6, 7, 9, 10, 15, 16, 18, 19, 20, 25, 26, 27, 28, 29, 30, 196, 197, 198] [56, 152, 208, 216, 232, 248]⟩
                ·
                  intro n S hS
                  obtain ⟨x7, x9, x10, x15, x16, x19, x20, x27, x29, x196, x197, x198, x710000, x710001, x710002, x710003, x710004, x710005, x739000, x739001, x739002, x739003, x739004, x739005, x793000, x793001, x793002, x793003, x793004, x793005, x794000, x794001, x794002, x794003, x794004, x794005, x808000, x808001, x808002, x808003, x808004, x808005, x822000, x822001, x822002, x822003, x822004, x822005, hkq38, h, hS⟩ := hS
                  rcases n with _ | n39
                  · (rw [laws_FnSorted.l0] at h; cases h)
                  rw [laws_FnSorted.l0] at h
                  refine AW_at hS ?_
                  refine AL_seq ?_
                  refine AL_region [6, 7, 9, 10, 15, 16, 18, 19, 20, 25, 26, 27, 28, 29, 30, 196, 197, 198, 199] [56, 152, 208, 216, 232, 248] [] ⟨[], [], []⟩ [] (by kernel_rfl) (by kernel_rfl) (by kernel_rfl) (fun K hK => by simp (decide := true) only [go_sem, Nat.reduceAdd, Nat.reduceMul]; exact hK) ?_
                  refine AL_seq ?_
                  rcases ite_or h with ⟨c40, h⟩ | ⟨c40, h⟩
                  ·
                    replace c40 := eq_true c40
                    refine AL_then (by simp (decide := true) only [go_sem, Nat.reduceAdd, Nat.reduceMul, c40]) ?_
                    refine AL_skip ?_
                    refine AL_seq ?_
                    refine AL_block ?_
                    refine AL_seq ?_
                    obtain ⟨c41, h⟩ := ite_l h
                    replace c41 := eq_true c41
                    obtain ⟨c42, h⟩ := ite_l h
                    replace c42 := eq_true c42
                    refine AL_region [6, 7, 9, 10, 15, 16, 18, 19, 20, 25, 26, 27, 28, 29, 30, 32, 33, 196, 197, 198] [56, 152, 208, 216, 232, 248] [] ⟨[], [], []⟩ [] (by kernel_rfl) (by kernel_rfl) (by kernel_rfl) (fun K hK => by simp (decide := true) only [go_sem, Nat.reduceAdd, Nat.reduceMul, c40, c41, c42]; exact hK) ?_
                    refine AL_seq ?_
                    rcases ite_or h with ⟨c43, h⟩ | ⟨c43, h⟩
                    ·
                      replace c43 := eq_true c43
                      obtain ⟨c44, h⟩ := ite_l h
                      replace c44 := eq_true c44
                      rcases ite_or h with ⟨c45, h⟩ | ⟨c45, h⟩
                      ·
                        replace c45 := eq_true c45
                        refine AL_region [6, 7, 9, 10, 15, 16, 18, 19, 20, 25, 26, 27, 28, 29, 30, 196, 197, 198, 228] [56, 152, 208, 216, 232, 248] [] ⟨[], [], []⟩ [(3, 206), (12, 215), (16, 219)] (by kernel_rfl) (by kernel_rfl) (by kernel_rfl) (fun K hK => by simp (decide := true) (maxSteps := 4000000) only [go_sem, Nat.reduceAdd, Nat.reduceMul, c40, c41, c42, c43, c44, c45]; exact hK) ?_
                        refine AL_then (by simp (decide := true) only [go_sem, Nat.reduceAdd, Nat.reduceMul, c40, c41, c42, c43, c44, c45]) ?_
                        refine AL_seq ?_
                        refine AL_region [4] [] [] ⟨[], [], []⟩ [] (by kernel_rfl) (by kernel_rfl) (by kernel_rfl) (fun K hK => by simp (decide := true) only [go_sem, Nat.reduceAdd, Nat.reduceMul, c40, c41, c42, c43, c44, c45]; exact hK) ?_
                        obtain rfl := Option.some.inj h
                        refine AL_ret (fun _ => rfl) ?_
                        exact retF_mk rfl (by exact ⟨trivial, trivial⟩) rfl (by exact rfl) (by exact trivial) (by exact trivial)
                      ·
                        replace c45 := eq_false c45
                        rcases ite_or h with ⟨c46, h⟩ | ⟨c46, h⟩
                        ·
                          replace c46 := eq_true c46
                          refine AL_region [6, 7, 9, 10, 15, 16, 18, 19, 20, 25, 26, 27, 28, 29, 30, 196, 197, 198, 228] [56, 152, 208, 216, 232, 248] [] ⟨[], [], []⟩ [(3, 206), (12, 215), (16, 219)] (by kernel_rfl) (by kernel_rfl) (by kernel_rfl) (fun K hK => by simp (decide := true) (maxSteps := 4000000) only [go_sem, Nat.reduceAdd, Nat.reduceMul, c40, c41, c42, c43, c44, c45, c46]; exact hK) ?_
                          rcases ite_or h with ⟨c47, h⟩ | ⟨c47, h⟩
                          ·
                            replace c47 := eq_true c47
                            refine AL_then (by simp (decide := true) only [go_sem, Nat.reduceAdd, Nat.reduceMul, c40, c41, c42, c43, c44, c45, c46, c47]) ?_
                            refine AL_seq ?_
                            refine AL_region [4] [] [] ⟨[], [], []⟩ [] (by kernel_rfl) (by kernel_rfl) (by kernel_rfl) (fun K hK => by simp (decide := true) only [go_sem, Nat.reduceAdd, Nat.reduceMul, c40, c41, c42, c43, c44, c45, c46, c47]; exact hK) ?_
                            obtain rfl := Option.some.inj h
                            refine AL_ret (fun _ => rfl) ?_
                            exact retF_mk rfl (by exact ⟨trivial, trivial⟩) rfl (by exact rfl) (by exact trivial) (by exact trivial)
                          ·
                            replace c47 := eq_false c47
                            refine AL_else (by simp (decide := true) only [go_sem, Nat.reduceAdd, Nat.reduceMul, c40, c41, c42, c43, c44, c45, c46, c47]) ?_
                            refine AL_skip ?_
                            refine blockQ_n ?_
                            refine AL_region [6, 7, 9, 10, 15, 16, 18, 19, 20, 25, 26, 27, 28, 29, 30, 196, 197, 198] [56, 152, 208, 216, 232, 248] [] ⟨[], [], []⟩ [] (by kernel_rfl) (by kernel_rfl) (by kernel_rfl) (fun K hK => by simp (decide := true) only [go_sem, Nat.reduceAdd, Nat.reduceMul, c40, c41, c42, c43, c44, c45, c46, c47]; exact hK) ?_
                            refine AL_again (m := n39) (by omega) ?_
                            exact ⟨_, _, _, _, _, _, _, _, _, _, _, _, _, _, _, _, _, _, _, _, _, _, _, _, _, _, _, _, _, _, _, _, _, _, _, _, _, _, _, _, _, _, _, _, _, _, _, _, by omega, h, At_keep [6, 7, 9, 10, 15, 16, 18, 19, 20, 25, 26, 27, 28, 29, 30, 196, 197, 198] [56, 152, 208, 216, 232, 248]⟩
                        ·
                          replace c46 := eq_false c46
                          refine AL_region [6, 7, 9, 10, 15, 16, 18, 19, 20, 25, 26, 27, 28, 29, 30, 196, 197, 198, 228] [56, 152, 208, 216, 232, 248] [] ⟨[], [], []⟩ [(3, 206), (12, 215), (16, 219)] (by kernel_rfl) (by kernel_rfl) (by kernel_rfl) (fun K hK => by simp (decide := true) (maxSteps := 4000000) only [go_sem, Nat.reduceAdd, Nat.reduceMul, c40, c41, c42, c43, c44, c45, c46]; exact hK) ?_
                          refine AL_else (by simp (decide := true) only [go_sem, Nat.reduceAdd, Nat.reduceMul, c40, c41, c42, c43, c44, c45, c46]) ?_
                          refine AL_skip ?_
                          refine blockQ_n ?_
                          refine AL_region [6, 7, 9, 10, 15, 16, 18, 19, 20, 25, 26, 27, 28, 29, 30, 196, 197, 198] [56, 152, 208, 216, 232, 248] [] ⟨[], [], []⟩ [] (by kernel_rfl) (by kernel_rfl) (by kernel_rfl) (fun K hK => by simp (decide := true) only [go_sem, Nat.reduceAdd, Nat.reduceMul, c40, c41, c42, c43, c44, c45, c46]; exact hK) ?_
                          refine AL_again (m := n39) (by omega) ?_
                          exact ⟨_, _, _, _, _, _, _, _, _, _, _, _, _, _, _, _, _, _, _, _, _, _, _, _, _, _, _, _, _, _, _, _, _, _, _, _, _, _, _, _, _, _, _, _, _, _, _, _, by omega, h, At_keep [6, 7, 9, 10, 15, 16, 18, 19, 20, 25, 26, 27, 28, 29, 30, 196, 197, 198] [56, 152, 208, 216, 232, 248]⟩
                    ·
                      replace c43 := eq_false c43
                      rcases ite_or h with ⟨c48, h⟩ | ⟨c48, h⟩
                      ·
                        replace c48 := eq_true c48
                        obtain ⟨c49, h⟩ := ite_l h
                        replace c49 := eq_true c49
                        refine AL_region [6, 7, 9, 10, 15, 16, 18, 19, 20, 25, 26, 27, 28, 29, 30, 196, 197, 198, 228] [56, 152, 208, 216, 232, 248] [] ⟨[], [], []⟩ [(3, 206), (12, 215), (16, 219)] (by kernel_rfl) (by kernel_rfl) (by kernel_rfl) (fun K hK => by simp (decide := true) (maxSteps := 4000000) only [go_sem, Nat.reduceAdd, Nat.reduceMul, c40, c41, c42, c43, c48, c49]; exact hK) ?_
                        rcases ite_or h with ⟨c50, h⟩ | ⟨c50, h⟩
                        ·
                          replace c50 := eq_true c50
                          refine AL_then (by simp (decide := true) only [go_sem, Nat.reduceAdd, Nat.reduceMul, c40, c41, c42, c43, c48, c49, c50]) ?_
                          refine AL_seq ?_
                          refine AL_region [4] [] [] ⟨[], [], []⟩ [] (by kernel_rfl) (by kernel_rfl) (by kernel_rfl) (fun K hK => by simp (decide := true) only [go_sem, Nat.reduceAdd, Nat.reduceMul, c40, c41, c42, c43, c48, c49, c50]; exact hK) ?_
                          obtain rfl := Option.some.inj h
                          refine AL_ret (fun _ => rfl) ?_
                          exact retF_mk rfl (by exact ⟨trivial, trivial⟩) rfl (by exact rfl) (by exact trivial) (by exact trivial)
                        ·
                          replace c50 := eq_false c50
                          refine AL_else (by simp (decide := true) only [go_sem, Nat.reduceAdd, Nat.reduceMul, c40, c41, c42, c43, c48, c49, c50]) ?_
                          refine AL_skip ?_
                          refine blockQ_n ?_
                          refine AL_region [6, 7, 9, 10, 15, 16, 18, 19, 20, 25, 26, 27, 28, 29, 30, 196, 197, 198] [56, 152, 208, 216, 232, 248] [] ⟨[], [], []⟩ [] (by kernel_rfl) (by kernel_rfl) (by kernel_rfl) (fun K hK => by simp (decide := true) only [go_sem, Nat.reduceAdd, Nat.reduceMul, c40, c41, c42, c43, c48, c49, c50]; exact hK) ?_
                          refine AL_again (m := n39) (by omega) ?_
                          exact ⟨_, _, _, _, _, _, _, _, _, _, _, _, _, _, _, _, _, _, _, _, _, _, _, _, _, _, _, _, _, _, _, _, _, _, _, _, _, _, _, _, _, _, _, _, _, _, _, _, by omega, h, At_keep [6, 7, 9, 10, 15, 16, 18, 19, 20, 25, 26, 27, 28, 29, 30, 196, 197, 198] [56, 152, 208, 216, 232, 248]⟩
                      ·
                        replace c48 := eq_false c48
                        refine AL_region [6, 7, 9, 10, 15, 16, 18, 19, 20, 25, 26, 27, 28, 29, 30, 196, 197, 198, 228] [56, 152, 208, 216, 232, 248] [] ⟨[], [], []⟩ [(3, 206), (12, 215), (16, 219)] (by kernel_rfl) (by kernel_rfl) (by kernel_rfl) (fun K hK => by simp (decide := true) (maxSteps := 4000000) only [go_sem, Nat.reduceAdd, Nat.reduceMul, c40, c41, c42, c43, c48]; exact hK) ?_
                        refine AL_else (by simp (decide := true) only [go_sem, Nat.reduceAdd, Nat.reduceMul, c40, c41, c42, c43, c48]) ?_
                        refine AL_skip ?_
                        refine blockQ_n ?_
                        refine AL_region [6, 7, 9, 10, 15, 16, 18, 19, 20, 25, 26, 27, 28, 29, 30, 196, 197, 198] [56, 152, 208, 216, 232, 248] [] ⟨[], [], []⟩ [] (by kernel_rfl) (by kernel_rfl) (by kernel_rfl) (fun K hK => by simp (decide := true) only [go_sem, Nat.reduceAdd, Nat.reduceMul, c40, c41, c42, c43, c48]; exact hK) ?_
                        refine AL_again (m := n39) (by omega) ?_
                        exact ⟨_, _, _, _, _, _, _, _, _, _, _, _, _, _, _, _, _, _, _, _, _, _, _, _, _, _, _, _, _, _, _, _, _, _, _, _, _, _, _, _, _, _, _, _, _, _, _, _, by omega, h, At_keep [6, 7, 9, 10, 15, 16, 18, 19, 20, 25, 26, 27, 28, 29, 30, 196, 197, 198] [56, 152, 208, 216, 232, 248]⟩
                  ·
                    replace c40 := eq_false c40
                    refine AL_else (by simp (decide := true) only [go_sem, Nat.reduceAdd, Nat.reduceMul, c40]) ?_
                    refine AL_exit ?_
                    repeat first | refine thenQ_x ?_ | refine blockQ_miss (by decide) ?_
                    refine blockQ_hit ?_
                    refine AL_meet ?_
                    exact ⟨_, _, _, _, _, _, _, _, _, _, _, _, _, _, _, _, _, _, _, _, _, _, _, _, _, _, _, _, _, _, _, _, _, _, _, _, _, _, by omega, h, At_keep [6, 7, 9, 10, 15, 16, 25, 26, 27, 28, 29, 30] [56, 208, 216, 232, 248]⟩
          ·
            replace c29 := Bool.of_not_eq_true c29
            refine AL_else (by simp (decide := true) only [go_sem, Nat.reduceAdd, Nat.reduceMul, c28, c29]) ?_
            refine AL_skip ?_
            refine AL_meet ?_
            exact ⟨_, _, _, _, _, _, _, _, _, _, _, _, _, _, _, _, _, _, _, _, _, _, _, _, _, _, _, _, _, _, _, _, _, _, _, _, _, _, by omega, h, At_keep [6, 7, 9, 10, 15, 16, 25, 26, 27, 28, 29, 30] [56, 208, 216, 232, 248]⟩
        ·
          intro S hS
          obtain ⟨kk51, x7, x9, x10, x15, x16, x27, x29, x710000, x710001, x710002, x710003, x710004, x710005, x793000, x793001, x793002, x793003, x793004, x793005, x794000, x794001, x794002, x794003, x794004, x794005, x808000, x808001, x808002, x808003, x808004, x808005, x822000, x822001, x822002, x822003, x822004, x822005, hkq52, h, hS⟩ := hS
          rcases kk51 with _ | n53
          · (rw [laws_FnSorted.j3] at h; cases h)
          rw [laws_FnSorted.j3] at h
          refine AW_at hS ?_
          refine AL_seq ?_
          refine AL_seq ?_
          refine AL_region [6, 7, 9, 10, 15, 16, 25, 26, 27, 28, 30, 230] [56, 208, 216, 232, 248] [] ⟨[], [], []⟩ [] (by kernel_rfl) (by kernel_rfl) (by kernel_rfl) (fun K hK => by simp (decide := true) only [go_sem, Nat.reduceAdd, Nat.reduceMul]; exact hK) ?_
          refine AL_cut (fun S => (∃ kk : Nat, ∃ x7 : Int, ∃ x9 : Bool, ∃ x10 : List Int, ∃ x15 : Int, ∃ x16 : Int, ∃ x710000 : Int, ∃ x710001 : Int, ∃ x710002 : Int, ∃ x710003 : List Int, ∃ x710004 : List Int, ∃ x710005 : List Int, kk ≤ n53 ∧ laws_FnSorted.j5 kk x7 x9 x10 x15 x16 x710000 x710001 x710002 x710003 x710004 x710005 = some r ∧ At [(6, .ptr 56 0 0), (7, .int .i64 x7), (9, .bool x9), (10, .sl true 1 (mp mkI x10)), (15, .int .i64 x15), (16, .int .i64 x16)] [(56, some (.box [.int .i64 x710000, .int .i64 x710001, .int .i64 x710002, .sl true 1 (mp mkI x710003), .sl true 1 (mp mkI x710004), .sl true 1 (mp mkI x710005)]))] S)) ?_ ?_
          ·
            rcases ite_or h with ⟨c54, h⟩ | ⟨c54, h⟩
            ·
              refine AL_then (by simp (decide := true) only [go_sem, Nat.reduceAdd, Nat.reduceMul, c54]) ?_
              refine AL_seq ?_
              refine AL_seq ?_
              refine AL_region [6, 7, 9, 10, 15, 16, 25, 26, 27, 28, 30, 232, 233, 234] [56, 208, 216, 232, 248] [] ⟨[], [], []⟩ [] (by kernel_rfl) (by kernel_rfl) (by kernel_rfl) (fun K hK => by simp (decide := true) only [go_sem, Nat.reduceAdd, Nat.reduceMul, c54]; exact hK) ?_
              refine AL_block ?_
              refine AL_loop (n := n53) (fun n S => (∃ x7 : Int, ∃ x9 : Bool, ∃ x10 : List Int, ∃ x15 : Int, ∃ x16 : Int, ∃ x27 : Int, ∃ x232 : List Int, ∃ x233 : Int, ∃ x234 : Int, ∃ x710000 : Int, ∃ x710001 : Int, ∃ x710002 : Int, ∃ x710003 : List Int, ∃ x710004 : List Int, ∃ x710005 : List Int, ∃ x793000 : Int, ∃ x793001 : Int, ∃ x793002 : Int, ∃ x793003 : List Int, ∃ x793004 : List Int, ∃ x793005 : List Int, ∃ x794000 : Int, ∃ x794001 : Int, ∃ x794002 : Int, ∃ x794003 : List Int, ∃ x794004 : List Int, ∃ x794005 : List Int, ∃ x808000 : Int, ∃ x808001 : Int, ∃ x808002 : Int, ∃ x808003 : List Int, ∃ x808004 : List Int, ∃ x808005 : List Int, ∃ x822000 : Int, ∃ x822001 : Int, ∃ x822002 : Int, ∃ x822003 : List Int, ∃ x822004 : List Int, ∃ x822005 : List Int, n ≤ n53 ∧ laws_FnSorted.l1 n x7 x9 x10 x15 x16 x27 x232 x233 x234 x710000 x710001 x710002 x710003 x710004 x710005 x793000 x793001 x793002 x793003 x793004 x793005 x794000 x794001 x794002 x794003 x794004 x794005 x808000 x808001 x808002 x808003 x808004 x808005 x822000 x822001 x822002 x822003 x822004 x822005 = some r ∧ At [(6, .ptr 56 0 0), (7, .int .i64 x7), (9, .bool x9), (10, .sl true 1 (mp mkI x10)), (15, .int .i64 x15), (16, .int .i64 x16), (25, .ptr 208 0 0), (26, .ptr 216 0 0), (27, .int .i64 x27), (28, .ptr 232 0 0), (30, .ptr 248 0 0), (232, .sl true 1 (mp mkI x232)), (233, .int .i64 x233), (234, .int .i64 x234)] [(56, some (.box [.int .i64 x710000, .int .i64 x710001, .int .i64 x710002, .sl true 1 (mp mkI x710003), .sl true 1 (mp mkI x710004), .sl true 1 (mp mkI x710005)])), (208, some (.box [.int .i64 x793000, .int .i64 x793001, .int .i64 x793002, .sl true 1 (mp mkI x793003), .sl true 1 (mp mkI x793004), .sl true 1 (mp mkI x793005)])), (216, some (.box [.int .i64 x794000, .int .i64 x794001, .int .i64 x794002, .sl true 1 (mp mkI x794003), .sl true 1 (mp mkI x794004), .sl true 1 (mp mkI x794005)])), (232, some (.box [.int .i64 x808000, .int .i64 x808001, .int .i64 x808002, .sl true 1 (mp mkI x808003), .sl true 1 (mp mkI x808004), .sl true 1 (mp mkI x808005)])), (248, some (.box [.int .i64 x822000, .int .i64 x822001, .int .i64 x822002, .sl true 1 (mp mkI x822003), .sl true 1 (mp mkI x822004), .sl true 1 (mp mkI x822005)]))] S)) ?_ ?_
              · exact ⟨_, _, _, _, _, _, _, _, _, _, _, _, _, _, _, _, _, _, _, _, _, _, _, _, _, _, _, _, _, _, _, _, _, _, _, _, _, _, _, by omega, h, At_keep [6, 7, 9, 10, 15, 16, 25, 26, 27, 28, 30, 232, 233, 234] [56, 208, 216, 232, 248]⟩
              ·
                intro n S hS
                obtain ⟨x7, x9, x10, x15, x16, x27, x232, x233, x234, x710000, x710001, x710002, x710003, x710004, x710005, x793000, x793001, x793002, x793003, x793004, x793005, x794000, x794001, x794002, x794003, x794004, x794005, x808000, x808001, x808002, x808003, x808004, x808005, x822000, x822001, x822002, x822003, x822004, x822005, hkq55, h, hS⟩ := hS
                rcases n with _ | n56
                · (rw [laws_FnSorted.l1] at h; cases h)
                rw [laws_FnSorted.l1] at h
                refine AW_at hS ?_
                refine AL_seq ?_
                refine AL_region [6, 7, 9, 10, 15, 16, 25, 26, 27, 28, 30, 232, 233, 234, 235] [56, 208, 216, 232, 248] [] ⟨[], [], []⟩ [] (by kernel_rfl) (by kernel_rfl) (by kernel_rfl) (fun K hK => by simp (decide := true) only [go_sem, Nat.reduceAdd, Nat.reduceMul]; exact hK) ?_
                refine AL_seq ?_
                rcases ite_or h with ⟨c57, h⟩ | ⟨c57, h⟩
                ·
                  replace c57 := eq_true c57
                  refine AL_then (by simp (decide := true) only [go_sem, Nat.reduceAdd, Nat.reduceMul, c57]) ?_
                  refine AL_skip ?_
                  refine AL_seq ?_
                  refine AL_block ?_
                  refine AL_seq ?_
                  obtain ⟨c58, h⟩ := ite_l h
                  replace c58 := eq_true c58
                  obtain ⟨c59, h⟩ := ite_l h
                  replace c59 := eq_true c59
                  refine AL_region [6, 7, 9, 10, 15, 16, 25, 26, 27, 28, 30, 34, 35, 232, 233, 234] [56, 208, 216, 232, 248] [] ⟨[], [], []⟩ [] (by kernel_rfl) (by kernel_rfl) (by kernel_rfl) (fun K hK => by simp (decide := true) only [go_sem, Nat.reduceAdd, Nat.reduceMul, c57, c58, c59]; exact hK) ?_
                  refine AL_seq ?_
                  obtain ⟨c60, h⟩ := ite_l h
                  replace c60 := eq_true c60
                  obtain ⟨c61, h⟩ := ite_l h
                  replace c61 := eq_true c61
                  refine AL_region [6, 7, 9, 10, 15, 16, 25, 26, 27, 28, 30, 35, 36, 37, 232, 233, 234] [56, 208, 216, 232, 248] [] ⟨[], [], []⟩ [] (by kernel_rfl) (by kernel_rfl) (by kernel_rfl) (fun K hK => by simp (decide := true) (maxSteps := 4000000) only [go_sem, Nat.reduceAdd, Nat.reduceMul, c57, c58, c59, c60, c61]; exact hK) ?_
                  refine AL_seq ?_
                  refine AL_seq ?_
                  refine AL_region [6, 7, 9, 10, 15, 16, 25, 26, 27, 28, 30, 35, 36, 37, 232, 233, 234, 251] [56, 208, 216, 232, 248] [] ⟨[], [], []⟩ [] (by kernel_rfl) (by kernel_rfl) (by kernel_rfl) (fun K hK => by simp (decide := true) only [go_sem, Nat.reduceAdd, Nat.reduceMul, c57, c58, c59, c60, c61]; exact hK) ?_
                  rcases ite_or h with ⟨c62, h⟩ | ⟨c62, h⟩
                  ·
                    replace c62 := eq_true c62
                    refine AL_then (by simp (decide := true) only [go_sem, Nat.reduceAdd, Nat.reduceMul, c57, c58, c59, c60, c61, c62]) ?_
                    refine AL_region [6, 7, 9, 10, 15, 16, 25, 26, 27, 28, 30, 35, 36, 37, 232, 233, 234] [56, 208, 216, 232, 248] [] ⟨[], [], []⟩ [] (by kernel_rfl) (by kernel_rfl) (by kernel_rfl) (fun K hK => by simp (decide := true) only [go_sem, Nat.reduceAdd, Nat.reduceMul, c57, c58, c59, c60, c61, c62]; exact hK) ?_
                    refine AL_seq ?_
                    rcases ite_or h with ⟨c63, h⟩ | ⟨c63, h⟩
                    ·
                      replace c63 := eq_true c63
                      refine AL_region [6, 7, 9, 10, 15, 16, 25, 26, 27, 28, 30, 232, 233, 234, 261] [56, 208, 216, 232, 248] [] ⟨[], [], []⟩ [(3, 257)] (by kernel_rfl) (by kernel_rfl) (by kernel_rfl) (fun K hK => by simp (decide := true) only [go_sem, Nat.reduceAdd, Nat.reduceMul, c57, c58, c59, c60, c61, c62, c63]; exact hK) ?_
                      refine AL_then (by simp (decide := true) only [go_sem, Nat.reduceAdd, Nat.reduceMul, c57, c58, c59, c60, c61, c62, c63]) ?_
                      refine AL_seq ?_
                      refine AL_region [4] [] [] ⟨[], [], []⟩ [] (by kernel_rfl) (by kernel_rfl) (by kernel_rfl) (fun K hK => by simp (decide := true) only [go_sem, Nat.reduceAdd, Nat.reduceMul, c57, c58, c59, c60, c61, c62, c63]; exact hK) ?_
                      obtain rfl := Option.some.inj h
                      refine AL_ret (fun _ => rfl) ?_
                      exact retF_mk rfl (by exact ⟨trivial, trivial⟩) rfl (by exact rfl) (by exact trivial) (by exact trivial)
                    ·
                      replace c63 := eq_false c63
                      refine AL_region [6, 7, 9, 10, 15, 16, 25, 26, 27, 28, 30, 232, 233, 234, 261] [56, 208, 216, 232, 248] [] ⟨[], [], []⟩ [(3, 257)] (by kernel_rfl) (by kernel_rfl) (by kernel_rfl) (fun K hK => by simp (decide := true) only [go_sem, Nat.reduceAdd, Nat.reduceMul, c57, c58, c59, c60, c61, c62, c63]; exact hK) ?_
                      rcases ite_or h with ⟨c64, h⟩ | ⟨c64, h⟩
                      ·
                        replace c64 := eq_true c64
                        refine AL_then (by simp (decide := true) only [go_sem, Nat.reduceAdd, Nat.reduceMul, c57, c58, c59, c60, c61, c62, c63, c64]) ?_
                        refine AL_seq ?_
                        refine AL_region [4] [] [] ⟨[], [], []⟩ [] (by kernel_rfl) (by kernel_rfl) (by kernel_rfl) (fun K hK => by simp (decide := true) only [go_sem, Nat.reduceAdd, Nat.reduceMul, c57, c58, c59, c60, c61, c62, c63, c64]; exact hK) ?_
                        obtain rfl := Option.some.inj h
                        refine AL_ret (fun _ => rfl) ?_
                        exact retF_mk rfl (by exact ⟨trivial, trivial⟩) rfl (by exact rfl) (by exact trivial) (by exact trivial)
                      ·
                        replace c64 := eq_false c64
                        refine AL_else (by simp (decide := true) only [go_sem, Nat.reduceAdd, Nat.reduceMul, c57, c58, c59, c60, c61, c62, c63, c64]) ?_
                        refine AL_skip ?_
                        refine blockQ_n ?_
                        refine AL_region [6, 7, 9, 10, 15, 16, 25, 26, 27, 28, 30, 232, 233, 234] [56, 208, 216, 232, 248] [] ⟨[], [], []⟩ [] (by kernel_rfl) (by kernel_rfl) (by kernel_rfl) (fun K hK => by simp (decide := true) only [go_sem, Nat.reduceAdd, Nat.reduceMul, c57, c58, c59, c60, c61, c62, c63, c64]; exact hK) ?_
                        refine AL_again (m := n56) (by omega) ?_
                        exact ⟨_, _, _, _, _, _, _, _, _, _, _, _, _, _, _, _, _, _, _, _, _, _, _, _, _, _, _, _, _, _, _, _, _, _, _, _, _, _, _, by omega, h, At_keep [6, 7, 9, 10, 15, 16, 25, 26, 27, 28, 30, 232, 233, 234] [56, 208, 216, 232, 248]⟩
                  ·
                    replace c62 := eq_false c62
                    refine AL_else (by simp (decide := true) only [go_sem, Nat.reduceAdd, Nat.reduceMul, c57, c58, c59, c60, c61, c62]) ?_
                    refine AL_skip ?_
                    refine AL_seq ?_
                    rcases ite_or h with ⟨c65, h⟩ | ⟨c65, h⟩
                    ·
                      replace c65 := eq_true c65
                      refine AL_region [6, 7, 9, 10, 15, 16, 25, 26, 27, 28, 30, 232, 233, 234, 261] [56, 208, 216, 232, 248] [] ⟨[], [], []⟩ [(3, 257)] (by kernel_rfl) (by kernel_rfl) (by kernel_rfl) (fun K hK => by simp (decide := true) only [go_sem, Nat.reduceAdd, Nat.reduceMul, c57, c58, c59, c60, c61, c62, c65]; exact hK) ?_
                      refine AL_then (by simp (decide := true) only [go_sem, Nat.reduceAdd, Nat.reduceMul, c57, c58, c59, c60, c61, c62, c65]) ?_
                      refine AL_seq ?_
                      refine AL_region [4] [] [] ⟨[], [], []⟩ [] (by kernel_rfl) (by kernel_rfl) (by kernel_rfl) (fun K hK => by simp (decide := true) only [go_sem, Nat.reduceAdd, Nat.reduceMul, c57, c58, c59, c60, c61, c62, c65]; exact hK) ?_
                      obtain rfl := Option.some.inj h
                      refine AL_ret (fun _ => rfl) ?_
                      exact retF_mk rfl (by exact ⟨trivial, trivial⟩) rfl (by exact rfl) (by exact trivial) (by exact trivial)
                    ·
                      replace c65 := eq_false c65
                      refine AL_region [6, 7, 9, 10, 15, 16, 25, 26, 27, 28, 30, 232, 233, 234, 261] [56, 208, 216, 232, 248] [] ⟨[], [], []⟩ [(3, 257)] (by kernel_rfl) (by kernel_rfl) (by kernel_rfl) (fun K hK => by simp (decide := true) only [go_sem, Nat.reduceAdd, Nat.reduceMul, c57, c58, c59, c60, c61, c62, c65]; exact hK) ?_
                      rcases ite_or h with ⟨c66, h⟩ | ⟨c66, h⟩
                      ·
                        replace c66 := eq_true c66
                        refine AL_then (by simp (decide := true) only [go_sem, Nat.reduceAdd, Nat.reduceMul, c57, c58, c59, c60, c61, c62, c65, c66]) ?_
                        refine AL_seq ?_
                        refine AL_region [4] [] [] ⟨[], [], []⟩ [] (by kernel_rfl) (by kernel_rfl) (by kernel_rfl) (fun K hK => by simp (decide := true) only [go_sem, Nat.reduceAdd, Nat.reduceMul, c57, c58, c59, c60, c61, c62, c65, c66]; exact hK) ?_
                        obtain rfl := Option.some.inj h
                        refine AL_ret (fun _ => rfl) ?_
                        exact retF_mk rfl (by exact ⟨trivial, trivial⟩) rfl (by exact rfl) (by exact trivial) (by exact trivial)
                      ·
                        replace c66 := eq_false c66
                        refine AL_else (by simp (decide := true) only [go_sem, Nat.reduceAdd, Nat.reduceMul, c57, c58, c59, c60, c61, c62, c65, c66]) ?_
                        refine AL_skip ?_
                        refine blockQ_n ?_
                        refine AL_region [6, 7, 9, 10, 15, 16, 25, 26, 27, 28, 30, 232, 233, 234] [56, 208, 216, 232, 248] [] ⟨[], [], []⟩ [] (by kernel_rfl) (by kernel_rfl) (by kernel_rfl) (fun K hK => by simp (decide := true) only [go_sem, Nat.reduceAdd, Nat.reduceMul, c57, c58, c59, c60, c61, c62, c65, c66]; exact hK) ?_
                        refine AL_again (m := n56) (by omega) ?_
                        exact ⟨_, _, _, _, _, _, _, _, _, _, _, _, _, _, _, _, _, _, _, _, _, _, _, _, _, _, _, _, _, _, _, _, _, _, _, _, _, _, _, by omega, h, At_keep [6, 7, 9, 10, 15, 16, 25, 26, 27, 28, 30, 232, 233, 234] [56, 208, 216, 232, 248]⟩
                ·
                  replace c57 := eq_false c57
                  refine AL_else (by simp (decide := true) only [go_sem, Nat.reduceAdd, Nat.reduceMul, c57]) ?_
                  refine AL_exit ?_
                  repeat first | refine thenQ_x ?_ | refine blockQ_miss (by decide) ?_
                  refine blockQ_hit ?_
                  refine AL_seq ?_
                  rcases ite_or h with ⟨c67, h⟩ | ⟨c67, h⟩
                  ·
                    replace c67 := eq_true c67
                    obtain ⟨t834, g68, h⟩ := bind_or h
                    rcases ite_or h with ⟨c69, h⟩ | ⟨c69, h⟩
                    ·
                      obtain ⟨t835, g70, h⟩ := bind_or h
                      refine AL_region [6, 7, 9, 10, 15, 16, 275] [56] [] ⟨[], [], []⟩ [(2, 265), (8, 271)] (by kernel_rfl) (by kernel_rfl) (by kernel_rfl) (fun K hK => by simp (decide := true) (maxSteps := 4000000) only [go_sem, Nat.reduceAdd, Nat.reduceMul, c57, c67, c69]; refine ⟨_, _, _, laws_qModel.V g68, ?_⟩; simp (decide := true) (maxSteps := 4000000) only [go_sem, Nat.reduceAdd, Nat.reduceMul, c57, c67, c69]; refine ⟨_, _, _, impl_IsModel.V g70, ?_⟩; simp (decide := true) (maxSteps := 4000000) only [go_sem, Nat.reduceAdd, Nat.reduceMul, c57, c67, c69]; exact hK) ?_
                      rcases ite_or h with ⟨c71, h⟩ | ⟨c71, h⟩
                      ·
                        refine AL_else (by simp (decide := true) only [go_sem, Nat.reduceAdd, Nat.reduceMul, c57, c67, c69, c71]) ?_
                        refine AL_skip ?_
                        refine AL_meet ?_
                        exact ⟨_, _, _, _, _, _, _, _, _, _, _, _, by omega, h, At_keep [6, 7, 9, 10, 15, 16] [56]⟩
                      ·
                        replace c71 := Bool.of_not_eq_true c71
                        refine AL_then (by simp (decide := true) only [go_sem, Nat.reduceAdd, Nat.reduceMul, c57, c67, c69, c71]) ?_
                        refine AL_seq ?_
                        refine AL_region [4] [] [] ⟨[], [], []⟩ [] (by kernel_rfl) (by kernel_rfl) (by kernel_rfl) (fun K hK => by simp (decide := true) only [go_sem, Nat.reduceAdd, Nat.reduceMul, c57, c67, c69, c71]; exact hK) ?_
                        obtain rfl := Option.some.inj h
                        refine AL_ret (fun _ => rfl) ?_
                        exact retF_mk rfl (by exact ⟨trivial, trivial⟩) rfl (by exact rfl) (by exact trivial) (by exact trivial)
                    ·
                      replace c69 := Bool.of_not_eq_true c69
                      refine AL_region [6, 7, 9, 10, 15, 16, 275] [56] [] ⟨[], [], []⟩ [(2, 265), (8, 271)] (by kernel_rfl) (by kernel_rfl) (by kernel_rfl) (fun K hK => by simp (decide := true) (maxSteps := 4000000) only [go_sem, Nat.reduceAdd, Nat.reduceMul, c57, c67, c69]; refine ⟨_, _, _, laws_qModel.V g68, ?_⟩; simp (decide := true) (maxSteps := 4000000) only [go_sem, Nat.reduceAdd, Nat.reduceMul, c57, c67, c69]; exact hK) ?_
                      refine AL_then (by simp (decide := true) only [go_sem, Nat.reduceAdd, Nat.reduceMul, c57, c67, c69]) ?_
                      refine AL_seq ?_
                      refine AL_region [4] [] [] ⟨[], [], []⟩ [] (by kernel_rfl) (by kernel_rfl) (by kernel_rfl) (fun K hK => by simp (decide := true) only [go_sem, Nat.reduceAdd, Nat.reduceMul, c57, c67, c69]; exact hK) ?_
                      obtain rfl := Option.some.inj h
                      refine AL_ret (fun _ => rfl) ?_
                      exact retF_mk rfl (by exact ⟨trivial, trivial⟩) rfl (by exact rfl) (by exact trivial) (by exact trivial)
                  ·
                    replace c67 := eq_false c67
                    obtain ⟨t836, g72, h⟩ := bind_or h
                    refine AL_region [6, 7, 9, 10, 15, 16, 275] [56] [] ⟨[], [], []⟩ [(2, 265), (8, 271)] (by kernel_rfl) (by kernel_rfl) (by kernel_rfl) (fun K hK => by simp (decide := true) (maxSteps := 4000000) only [go_sem, Nat.reduceAdd, Nat.reduceMul, c57, c67]; refine ⟨_, _, _, impl_IsModel.V g72, ?_⟩; simp (decide := true) (maxSteps := 4000000) only [go_sem, Nat.reduceAdd, Nat.reduceMul, c57, c67]; exact hK) ?_
                    rcases ite_or h with ⟨c73, h⟩ | ⟨c73, h⟩
                    ·
                      refine AL_else (by simp (decide := true) only [go_sem, Nat.reduceAdd, Nat.reduceMul, c57, c67, c73]) ?_
                      refine AL_skip ?_
                      refine AL_meet ?_
                      exact ⟨_, _, _, _, _, _, _, _, _, _, _, _, by omega, h, At_keep [6, 7, 9, 10, 15, 16] [56]⟩
                    ·
                      replace c73 := Bool.of_not_eq_true c73
                      refine AL_then (by simp (decide := true) only [go_sem, Nat.reduceAdd, Nat.reduceMul, c57, c67, c73]) ?_
                      refine AL_seq ?_
                      refine AL_region [4] [] [] ⟨[], [], []⟩ [] (by kernel_rfl) (by kernel_rfl) (by kernel_rfl) (fun K hK => by simp (decide := true) only [go_sem, Nat.reduceAdd, Nat.reduceMul, c57, c67, c73]; exact hK) ?_
                      obtain rfl := Option.some.inj h
                      refine AL_ret (fun _ => rfl) ?_
                      exact retF_mk rfl (by exact ⟨trivial, trivial⟩) rfl (by exact rfl) (by exact trivial) (by exact trivial)
            ·
              replace c54 := Bool.of_not_eq_true c54
              refine AL_else (by simp (decide := true) only [go_sem, Nat.reduceAdd, Nat.reduceMul, c54]) ?_
              refine AL_skip ?_
              refine AL_meet ?_
              exact ⟨_, _, _, _, _, _, _, _, _, _, _, _, by omega, h, At_keep [6, 7, 9, 10, 15, 16] [56]⟩
          ·
            intro S hS
            obtain ⟨kk74, x7, x9, x10, x15, x16, x710000, x710001, x710002, x710003, x710004, x710005, hkq75, h, hS⟩ := hS
            rcases kk74 with _ | n76
            · (rw [laws_FnSorted.j5] at h; cases h)
            rw [laws_FnSorted.j5] at h
            refine AW_at hS ?_
            refine AL_seq ?_
            refine AL_seq ?_
            refine AL_region [6, 7, 10, 15, 16, 277] [56] [] ⟨[], [], []⟩ [] (by kernel_rfl) (by kernel_rfl) (by kernel_rfl) (fun K hK => by simp (decide := true) only [go_sem, Nat.reduceAdd, Nat.reduceMul]; exact hK) ?_
            rcases ite_or h with ⟨c77, h⟩ | ⟨c77, h⟩
            ·
              refine AL_else (by simp (decide := true) only [go_sem, Nat.reduceAdd, Nat.reduceMul, c77]) ?_
              refine AL_skip ?_
              refine AL_seq ?_
              refine AL_region [6, 7, 10, 15, 16, 38] [56] [] ⟨[], [], []⟩ [] (by kernel_rfl) (by kernel_rfl) (by kernel_rfl) (fun K hK => by simp (decide := true) only [go_sem, Nat.reduceAdd, Nat.reduceMul, c77]; exact hK) ?_
              refine AL_seq ?_
              refine AL_seq ?_
              refine AL_region [6, 7, 10, 15, 16, 38, 280, 281] [56] [] ⟨[], [], []⟩ [] (by kernel_rfl) (by kernel_rfl) (by kernel_rfl) (fun K hK => by simp (decide := true) only [go_sem, Nat.reduceAdd, Nat.reduceMul, c77]; exact hK) ?_
              refine AL_block ?_
              refine AL_loop (n := n76) (fun n S => (∃ x7 : Int, ∃ x10 : List Int, ∃ x15 : Int, ∃ x16 : Int, ∃ x280 : Int, ∃ x281 : Int, ∃ x710000 : Int, ∃ x710001 : Int, ∃ x710002 : Int, ∃ x710003 : List Int, ∃ x710004 : List Int, ∃ x710005 : List Int, n ≤ n76 ∧ laws_FnSorted.l2 n x7 x10 x15 x16 ([] : List Int) x280 x281 x710000 x710001 x710002 x710003 x710004 x710005 = some r ∧ At [(6, .ptr 56 0 0), (7, .int .i64 x7), (10, .sl true 1 (mp mkI x10)), (15, .int .i64 x15), (16, .int .i64 x16), (38, .nil), (280, .int .i64 x280), (281, .int .i64 x281)] [(56, some (.box [.int .i64 x710000, .int .i64 x710001, .int .i64 x710002, .sl true 1 (mp mkI x710003), .sl true 1 (mp mkI x710004), .sl true 1 (mp mkI x710005)]))] S) ∨ (∃ x7 : Int, ∃ x10 : List Int, ∃ x15 : Int, ∃ x16 : Int, ∃ x280 : Int, ∃ x281 : Int, ∃ x710000 : Int, ∃ x710001 : Int, ∃ x710002 : Int, ∃ x710003 : List Int, ∃ x710004 : List Int, ∃ x710005 : List Int, ∃ x38 : List Int, n ≤ n76 ∧ laws_FnSorted.l2 n x7 x10 x15 x16 x38 x280 x281 x710000 x710001 x710002 x710003 x710004 x710005 = some r ∧ At [(6, .ptr 56 0 0), (7, .int .i64 x7), (10, .sl true 1 (mp mkI x10)), (15, .int .i64 x15), (16, .int .i64 x16), (38, .ref 2304), (280, .int .i64 x280), (281, .int .i64 x281)] [(56, some (.box [.int .i64 x710000, .int .i64 x710001, .int .i64 x710002, .sl true 1 (mp mkI x710003), .sl true 1 (mp mkI x710004), .sl true 1 (mp mkI x710005)])), (2304, some (.row 3 1 (mp mkI x38)))] S)) ?_ ?_
              · exact .inl ⟨_, _, _, _, _, _, _, _, _, _, _, _, by omega, h, At_keep [6, 7, 10, 15, 16, 38, 280, 281] [56]⟩
              ·
                intro n S hS
                rcases hS with hS | hS
                ·
                  obtain ⟨x7, x10, x15, x16, x280, x281, x710000, x710001, x710002, x710003, x710004, x710005, hkq78, h, hS⟩ := hS
                  rcases n with _ | n79
                  · (rw [laws_FnSorted.l2] at h; cases h)
                  rw [laws_FnSorted.l2] at h
                  refine AW_at hS ?_
                  refine AL_seq ?_
                  refine AL_region [6, 7, 10, 15, 16, 38, 280, 281, 282] [56] [] ⟨[], [], []⟩ [] (by kernel_rfl) (by kernel_rfl) (by kernel_rfl) (fun K hK => by simp (decide := true) only [go_sem, Nat.reduceAdd, Nat.reduceMul]; exact hK) ?_
                  refine AL_seq ?_
                  rcases ite_or h with ⟨c80, h⟩ | ⟨c80, h⟩
                  ·
                    replace c80 := eq_true c80
                    refine AL_then (by simp (decide := true) only [go_sem, Nat.reduceAdd, Nat.reduceMul, c80]) ?_
                    refine AL_skip ?_
                    refine AL_seq ?_
                    refine AL_block ?_
                    refine AL_seq ?_
                    refine AL_region [6, 7, 10, 15, 16, 38, 39, 280, 281] [56] [] ⟨[], [], []⟩ [] (by kernel_rfl) (by kernel_rfl) (by kernel_rfl) (fun K hK => by simp (decide := true) only [go_sem, Nat.reduceAdd, Nat.reduceMul, c80]; exact hK) ?_
                    obtain ⟨c81, h⟩ := ite_l h
                    have c81l := lim8 c81
                    replace c81 := eq_true c81
                    refine AL_region [6, 7, 10, 15, 16, 38, 280, 281] [56, 2304] [] ⟨[], [], []⟩ [] (by kernel_rfl) (by kernel_rfl) (by kernel_rfl) (fun K hK => by simp (decide := true) only [go_sem, Nat.reduceAdd, Nat.reduceMul, c80, c81l, c81]; exact hK) ?_
                    refine blockQ_n ?_
                    refine AL_region [6, 7, 10, 15, 16, 38, 280, 281] [56, 2304] [] ⟨[], [], []⟩ [] (by kernel_rfl) (by kernel_rfl) (by kernel_rfl) (fun K hK => by simp (decide := true) only [go_sem, Nat.reduceAdd, Nat.reduceMul, c80, c81l, c81]; exact hK) ?_
                    refine AL_again (m := n79) (by omega) ?_
                    exact .inr (⟨_, _, _, _, _, _, _, _, _, _, _, _, _, by omega, h, At_keep [6, 7, 10, 15, 16, 38, 280, 281] [56, 2304]⟩)
                  ·
                    replace c80 := eq_false c80
                    refine AL_else (by simp (decide := true) only [go_sem, Nat.reduceAdd, Nat.reduceMul, c80]) ?_
                    refine AL_exit ?_
                    repeat first | refine thenQ_x ?_ | refine blockQ_miss (by decide) ?_
                    refine blockQ_hit ?_
                    refine AL_seq ?_
                    obtain ⟨⟨t840, t841, t842⟩, g82, h⟩ := bind_or h
                    dsimp only at h
                    refine AL_region [6, 7, 10, 15, 16, 40, 41, 42] [56] [] ⟨[], [], []⟩ [] (by kernel_rfl) (by kernel_rfl) (by kernel_rfl) (fun K hK => by simp (decide := true) only [go_sem, Nat.reduceAdd, Nat.reduceMul, c80]; refine ⟨_, _, _, FnV.weak (impl_SumsOf.V g82) ⟨⟨rfl, rfl, rfl, rfl, rfl, rfl, trivial⟩, rfl, trivial⟩, ?_⟩; simp (decide := true) only [go_sem, Nat.reduceAdd, Nat.reduceMul, c80]; exact hK) ?_
                    refine AL_seq ?_
                    obtain ⟨⟨t843, t846⟩, g83, h⟩ := bind_or h
                    dsimp only at h
                    refine AL_region [6, 7, 10, 15, 16, 40, 41, 42, 43, 44] [56] [] ⟨[], [], []⟩ [] (by kernel_rfl) (by kernel_rfl) (by kernel_rfl) (fun K hK => by simp (decide := true) only [go_sem, Nat.reduceAdd, Nat.reduceMul, c80]; refine ⟨_, _, _, impl_SortTable.V g83, ?_⟩; simp (decide := true) only [go_sem, Nat.reduceAdd, Nat.reduceMul, c80]; exact hK) ?_
                    refine AL_seq ?_
                    obtain ⟨⟨t847, t850⟩, g84, h⟩ := bind_or h
                    dsimp only at h
                    refine AL_region [10, 15, 16, 40, 41, 42, 43, 44, 45, 46] [] [] ⟨[], [], []⟩ [] (by kernel_rfl) (by kernel_rfl) (by kernel_rfl) (fun K hK => by simp (decide := true) only [go_sem, Nat.reduceAdd, Nat.reduceMul, c80]; refine ⟨_, _, _, spec_SortTable.V g84, ?_⟩; simp (decide := true) only [go_sem, Nat.reduceAdd, Nat.reduceMul, c80]; exact hK) ?_
                    refine AL_seq ?_
                    rcases ite_or h with ⟨c85, h⟩ | ⟨c85, h⟩
                    ·
                      obtain ⟨t851, g86, h⟩ := bind_or h
                      rcases ite_or h with ⟨c87, h⟩ | ⟨c87, h⟩
                      ·
                        replace c87 := eq_true c87
                        rcases ite_or h with ⟨c88, h⟩ | ⟨c88, h⟩
                        ·
                          replace c88 := eq_true c88
                          rcases ite_or h with ⟨c89, h⟩ | ⟨c89, h⟩
                          ·
                            rcases ite_or h with ⟨c90, h⟩ | ⟨c90, h⟩
                            ·
                              obtain ⟨t852, g91, h⟩ := bind_or h
                              rcases ite_or h with ⟨c92, h⟩ | ⟨c92, h⟩
                              ·
                                obtain ⟨c93, h⟩ := ite_l h
                                replace c93 := eq_true c93
                                rcases ite_or h with ⟨c94, h⟩ | ⟨c94, h⟩
                                ·
                                  replace c94 := eq_true c94
                                  obtain ⟨c95, h⟩ := ite_l h
                                  replace c95 := eq_true c95
                                  refine AL_region [4] [] [] ⟨[], [], []⟩ [(1, 311), (7, 317), (14, 324), (17, 327), (20, 330), (25, 335), (31, 341)] (by kernel_rfl) (by kernel_rfl) (by kernel_rfl) (fun K hK => by simp (decide := true) (maxSteps := 4000000) only [go_sem, Nat.reduceAdd, Nat.reduceMul, c80, c85, c87, c88, c89, c90, c92, c93, c94, c95]; refine ⟨_, _, _, laws_qSum.V g86, ?_⟩; simp (decide := true) (maxSteps := 4000000) only [go_sem, Nat.reduceAdd, Nat.reduceMul, c80, c85, c87, c88, c89, c90, c92, c93, c94, c95]; refine ⟨_, _, _, laws_qInts.V g91, ?_⟩; simp (decide := true) (maxSteps := 4000000) only [go_sem, Nat.reduceAdd, Nat.reduceMul, c80, c85, c87, c88, c89, c90, c92, c93, c94, c95]; exact hK) ?_
                                  obtain rfl := Option.some.inj h
                                  refine AL_ret (fun _ => rfl) ?_
                                  exact retF_mk rfl (by exact ⟨trivial, trivial⟩) rfl (by exact rfl) (by exact trivial) (by exact trivial)
                                ·
                                  replace c94 := eq_false c94
                                  refine AL_region [4] [] [] ⟨[], [], []⟩ [(1, 311), (7, 317), (14, 324), (17, 327), (20, 330), (25, 335), (31, 341)] (by kernel_rfl) (by kernel_rfl) (by kernel_rfl) (fun K hK => by simp (decide := true) (maxSteps := 4000000) only [go_sem, Nat.reduceAdd, Nat.reduceMul, c80, c85, c87, c88, c89, c90, c92, c93, c94]; refine ⟨_, _, _, laws_qSum.V g86, ?_⟩; simp (decide := true) (maxSteps := 4000000) only [go_sem, Nat.reduceAdd, Nat.reduceMul, c80, c85, c87, c88, c89, c90, c92, c93, c94]; refine ⟨_, _, _, laws_qInts.V g91, ?_⟩; simp (decide := true) (maxSteps := 4000000) only [go_sem, Nat.reduceAdd, Nat.reduceMul, c80, c85, c87, c88, c89, c90, c92, c93, c94]; exact hK) ?_
                                  obtain rfl := Option.some.inj h
                                  refine AL_ret (fun _ => rfl) ?_
                                  exact retF_mk rfl (by exact ⟨trivial, trivial⟩) rfl (by exact rfl) (by exact trivial) (by exact trivial)
                              ·
                                replace c92 := Bool.of_not_eq_true c92
                                refine AL_region [4] [] [] ⟨[], [], []⟩ [(1, 311), (7, 317), (14, 324), (17, 327), (20, 330), (25, 335), (31, 341)] (by kernel_rfl) (by kernel_rfl) (by kernel_rfl) (fun K hK => by simp (decide := true) (maxSteps := 4000000) only [go_sem, Nat.reduceAdd, Nat.reduceMul, c80, c85, c87, c88, c89, c90, c92]; refine ⟨_, _, _, laws_qSum.V g86, ?_⟩; simp (decide := true) (maxSteps := 4000000) only [go_sem, Nat.reduceAdd, Nat.reduceMul, c80, c85, c87, c88, c89, c90, c92]; refine ⟨_, _, _, laws_qInts.V g91, ?_⟩; simp (decide := true) (maxSteps := 4000000) only [go_sem, Nat.reduceAdd, Nat.reduceMul, c80, c85, c87, c88, c89, c90, c92]; exact hK) ?_
                                obtain rfl := Option.some.inj h
                                refine AL_ret (fun _ => rfl) ?_
                                exact retF_mk rfl (by exact ⟨trivial, trivial⟩) rfl (by exact rfl) (by exact trivial) (by exact trivial)
                            ·
                              replace c90 := Bool.of_not_eq_true c90
                              refine AL_region [4] [] [] ⟨[], [], []⟩ [(1, 311), (7, 317), (14, 324), (17, 327), (20, 330), (25, 335), (31, 341)] (by kernel_rfl) (by kernel_rfl) (by kernel_rfl) (fun K hK => by simp (decide := true) (maxSteps := 4000000) only [go_sem, Nat.reduceAdd, Nat.reduceMul, c80, c85, c87, c88, c89, c90]; refine ⟨_, _, _, laws_qSum.V g86, ?_⟩; simp (decide := true) (maxSteps := 4000000) only [go_sem, Nat.reduceAdd, Nat.reduceMul, c80, c85, c87, c88, c89, c90]; exact hK) ?_
                              obtain rfl := Option.some.inj h
                              refine AL_ret (fun _ => rfl) ?_
                              exact retF_mk rfl (by exact ⟨trivial, trivial⟩) rfl (by exact rfl) (by exact trivial) (by exact trivial)
                          ·
                            replace c89 := Bool.of_not_eq_true c89
                            refine AL_region [4] [] [] ⟨[], [], []⟩ [(1, 311), (7, 317), (14, 324), (17, 327), (20, 330), (25, 335), (31, 341)] (by kernel_rfl) (by kernel_rfl) (by kernel_rfl) (fun K hK => by simp (decide := true) (maxSteps := 4000000) only [go_sem, Nat.reduceAdd, Nat.reduceMul, c80, c85, c87, c88, c89]; refine ⟨_, _, _, laws_qSum.V g86, ?_⟩; simp (decide := true) (maxSteps := 4000000) only [go_sem, Nat.reduceAdd, Nat.reduceMul, c80, c85, c87, c88, c89]; exact hK) ?_
                            obtain rfl := Option.some.inj h
                            refine AL_ret (fun _ => rfl) ?_
                            exact retF_mk rfl (by exact ⟨trivial, trivial⟩) rfl (by exact rfl) (by exact trivial) (by exact trivial)
                        ·
                          replace c88 := eq_false c88
                          refine AL_region [4] [] [] ⟨[], [], []⟩ [(1, 311), (7, 317), (14, 324), (17, 327), (20, 330), (25, 335), (31, 341)] (by kernel_rfl) (by kernel_rfl) (by kernel_rfl) (fun K hK => by simp (decide := true) (maxSteps := 4000000) only [go_sem, Nat.reduceAdd, Nat.reduceMul, c80, c85, c87, c88]; refine ⟨_, _, _, laws_qSum.V g86, ?_⟩; simp (decide := true) (maxSteps := 4000000) only [go_sem, Nat.reduceAdd, Nat.reduceMul, c80, c85, c87, c88]; exact hK) ?_
                          obtain rfl := Option.some.inj h
                          refine AL_ret (fun _ => rfl) ?_
                          exact retF_mk rfl (by exact ⟨trivial, trivial⟩) rfl (by exact rfl) (by exact trivial) (by exact trivial)
                      ·
                        replace c87 := eq_false c87
                        refine AL_region [4] [] [] ⟨[], [], []⟩ [(1, 311), (7, 317), (14, 324), (17, 327), (20, 330), (25, 335), (31, 341)] (by kernel_rfl) (by kernel_rfl) (by kernel_rfl) (fun K hK => by simp (decide := true) (maxSteps := 4000000) only [go_sem, Nat.reduceAdd, Nat.reduceMul, c80, c85, c87]; refine ⟨_, _, _, laws_qSum.V g86, ?_⟩; simp (decide := true) (maxSteps := 4000000) only [go_sem, Nat.reduceAdd, Nat.reduceMul, c80, c85, c87]; exact hK) ?_
                        obtain rfl := Option.some.inj h
                        refine AL_ret (fun _ => rfl) ?_
                        exact retF_mk rfl (by exact ⟨trivial, trivial⟩) rfl (by exact rfl) (by exact trivial) (by exact trivial)
                    ·
                      replace c85 := Bool.of_not_eq_true c85
                      refine AL_region [4] [] [] ⟨[], [], []⟩ [(1, 311), (7, 317), (14, 324), (17, 327), (20, 330), (25, 335), (31, 341)] (by kernel_rfl) (by kernel_rfl) (by kernel_rfl) (fun K hK => by simp (decide := true) (maxSteps := 4000000) only [go_sem, Nat.reduceAdd, Nat.reduceMul, c80, c85]; exact hK) ?_
                      obtain rfl := Option.some.inj h
                      refine AL_ret (fun _ => rfl) ?_
                      exact retF_mk rfl (by exact ⟨trivial, trivial⟩) rfl (by exact rfl) (by exact trivial) (by exact trivial)
                ·
                  obtain ⟨x7, x10, x15, x16, x280, x281, x710000, x710001, x710002, x710003, x710004, x710005, x38, hkq96, h, hS⟩ := hS
                  rcases n with _ | n97
                  · (rw [laws_FnSorted.l2] at h; cases h)
                  rw [laws_FnSorted.l2] at h
                  refine AW_at hS ?_
                  refine AL_seq ?_
                  refine AL_region [6, 7, 10, 15, 16, 38, 280, 281, 282] [56, 2304] [] ⟨[], [], []⟩ [] (by kernel_rfl) (by kernel_rfl) (by kernel_rfl) (fun K hK => by simp (decide := true) only [go_sem, Nat.reduceAdd, Nat.reduceMul]; exact hK) ?_
                  refine AL_seq ?_
                  rcases ite_or h with ⟨c98, h⟩ | ⟨c98, h⟩
                  ·
                    replace c98 := eq_true c98
                    refine AL_then (by simp (decide := true) only [go_sem, Nat.reduceAdd, Nat.reduceMul, c98]) ?_
                    refine AL_skip ?_
                    refine AL_seq ?_
                    refine AL_block ?_
                    refine AL_seq ?_
                    refine AL_region [6, 7, 10, 15, 16, 38, 39, 280, 281] [56, 2304] [] ⟨[], [], []⟩ [] (by kernel_rfl) (by kernel_rfl) (by kernel_rfl) (fun K hK => by simp (decide := true) only [go_sem, Nat.reduceAdd, Nat.reduceMul, c98]; exact hK) ?_
                    obtain ⟨c99, h⟩ := ite_l h
                    have c99l := lim8 c99
                    replace c99 := eq_true c99
                    refine AL_region [6, 7, 10, 15, 16, 38, 280, 281] [56, 2304] [] ⟨[], [], []⟩ [] (by kernel_rfl) (by kernel_rfl) (by kernel_rfl) (fun K hK => by simp (decide := true) only [go_sem, Nat.reduceAdd, Nat.reduceMul, c98, c99l, c99]; exact hK) ?_
                    refine blockQ_n ?_
                    refine AL_region [6, 7, 10, 15, 16, 38, 280, 281] [56, 2304] [] ⟨[], [], []⟩ [] (by kernel_rfl) (by kernel_rfl) (by kernel_rfl) (fun K hK => by simp (decide := true) only [go_sem, Nat.reduceAdd, Nat.reduceMul, c98, c99l, c99]; exact hK) ?_
                    refine AL_again (m := n97) (by omega) ?_
                    exact .inr (⟨_, _, _, _, _, _, _, _, _, _, _, _, _, by omega, h, At_keep [6, 7, 10, 15, 16, 38, 280, 281] [56, 2304]⟩)
                  ·
                    replace c98 := eq_false c98
                    refine AL_else (by simp (decide := true) only [go_sem, Nat.reduceAdd, Nat.reduceMul, c98]) ?_
                    refine AL_exit ?_
                    repeat first | refine thenQ_x ?_ | refine blockQ_miss (by decide) ?_
                    refine blockQ_hit ?_
                    refine AL_seq ?_
                    obtain ⟨⟨t840, t841, t842⟩, g100, h⟩ := bind_or h
                    dsimp only at h
                    refine AL_region [6, 7, 10, 15, 16, 40, 41, 42] [56] [] ⟨[], [], []⟩ [] (by kernel_rfl) (by kernel_rfl) (by kernel_rfl) (fun K hK => by simp (decide := true) only [go_sem, Nat.reduceAdd, Nat.reduceMul, c98]; refine ⟨_, _, _, impl_SumsOf.V g100, ?_⟩; simp (decide := true) only [go_sem, Nat.reduceAdd, Nat.reduceMul, c98]; exact hK) ?_
                    refine AL_seq ?_
                    obtain ⟨⟨t843, t846⟩, g101, h⟩ := bind_or h
                    dsimp only at h
                    refine AL_region [6, 7, 10, 15, 16, 40, 41, 42, 43, 44] [56] [] ⟨[], [], []⟩ [] (by kernel_rfl) (by kernel_rfl) (by kernel_rfl) (fun K hK => by simp (decide := true) only [go_sem, Nat.reduceAdd, Nat.reduceMul, c98]; refine ⟨_, _, _, impl_SortTable.V g101, ?_⟩; simp (decide := true) only [go_sem, Nat.reduceAdd, Nat.reduceMul, c98]; exact hK) ?_
                    refine AL_seq ?_
                    obtain ⟨⟨t847, t850⟩, g102, h⟩ := bind_or h
                    dsimp only at h
                    refine AL_region [10, 15, 16, 40, 41, 42, 43, 44, 45, 46] [] [] ⟨[], [], []⟩ [] (by kernel_rfl) (by kernel_rfl) (by kernel_rfl) (fun K hK => by simp (decide := true) only [go_sem, Nat.reduceAdd, Nat.reduceMul, c98]; refine ⟨_, _, _, spec_SortTable.V g102, ?_⟩; simp (decide := true) only [go_sem, Nat.reduceAdd, Nat.reduceMul, c98]; exact hK) ?_
                    refine AL_seq ?_
                    rcases ite_or h with ⟨c103, h⟩ | ⟨c103, h⟩
                    ·
                      obtain ⟨t851, g104, h⟩ := bind_or h
                      rcases ite_or h with ⟨c105, h⟩ | ⟨c105, h⟩
                      ·
                        replace c105 := eq_true c105
                        rcases ite_or h with ⟨c106, h⟩ | ⟨c106, h⟩
                        ·
                          replace c106 := eq_true c106
                          rcases ite_or h with ⟨c107, h⟩ | ⟨c107, h⟩
                          ·
                            rcases ite_or h with ⟨c108, h⟩ | ⟨c108, h⟩
                            ·
                              obtain ⟨t852, g109, h⟩ := bind_or h
                              rcases ite_or h with ⟨c110, h⟩ | ⟨c110, h⟩
                              ·
                                obtain ⟨c111, h⟩ := ite_l h
                                replace c111 := eq_true c111
                                rcases ite_or h with ⟨c112, h⟩ | ⟨c112, h⟩
                                ·
                                  replace c112 := eq_true c112
                                  obtain ⟨c113, h⟩ := ite_l h
                                  replace c113 := eq_true c113
                                  refine AL_region [4] [] [] ⟨[], [], []⟩ [(1, 311), (7, 317), (14, 324), (17, 327), (20, 330), (25, 335), (31, 341)] (by kernel_rfl) (by kernel_rfl) (by kernel_rfl) (fun K hK => by simp (decide := true) (maxSteps := 4000000) only [go_sem, Nat.reduceAdd, Nat.reduceMul, c98, c103, c105, c106, c107, c108, c110, c111, c112, c113]; refine ⟨_, _, _, laws_qSum.V g104, ?_⟩; simp (decide := true) (maxSteps := 4000000) only [go_sem, Nat.reduceAdd, Nat.reduceMul, c98, c103, c105, c106, c107, c108, c110, c111, c112, c113]; refine ⟨_, _, _, laws_qInts.V g109, ?_⟩; simp (decide := true) (maxSteps := 4000000) only [go_sem, Nat.reduceAdd, Nat.reduceMul, c98, c103, c105, c106, c107, c108, c110, c111, c112, c113]; exact hK) ?_
                                  obtain rfl := Option.some.inj h
                                  refine AL_ret (fun _ => rfl) ?_
                                  exact retF_mk rfl (by exact ⟨trivial, trivial⟩) rfl (by exact rfl) (by exact trivial) (by exact trivial)
                                ·
                                  replace c112 := eq_false c112
                                  refine AL_region [4] [] [] ⟨[], [], []⟩ [(1, 311), (7, 317), (14, 324), (17, 327), (20, 330), (25, 335), (31, 341)] (by kernel_rfl) (by kernel_rfl) (by kernel_rfl) (fun K hK => by simp (decide := true) (maxSteps := 4000000) only [go_sem, Nat.reduceAdd, Nat.reduceMul, c98, c103, c105, c106, c107, c108, c110, c111, c112]; refine ⟨_, _, _, laws_qSum.V g104, ?_⟩; simp (decide := true) (maxSteps := 4000000) only [go_sem, Nat.reduceAdd, Nat.reduceMul, c98, c103, c105, c106, c107, c108, c110, c111, c112]; refine ⟨_, _, _, laws_qInts.V g109, ?_⟩; simp (decide := true) (maxSteps := 4000000) only [go_sem, Nat.reduceAdd, Nat.reduceMul, c98, c103, c105, c106, c107, c108, c110, c111, c112]; exact hK) ?_
                                  obtain rfl := Option.some.inj h
                                  refine AL_ret (fun _ => rfl) ?_
                                  exact retF_mk rfl (by exact ⟨trivial, trivial⟩) rfl (by exact rfl) (by exact trivial) (by exact trivial)
                              ·
                                replace c110 := Bool.of_not_eq_true c110
                                refine AL_region [4] [] [] ⟨[], [], []⟩ [(1, 311), (7, 317), (14, 324), (17, 327), (20, 330), (25, 335), (31, 341)] (by kernel_rfl) (by kernel_rfl) (by kernel_rfl) (fun K hK => by simp (decide := true) (maxSteps := 4000000) only [go_sem, Nat.reduceAdd, Nat.reduceMul, c98, c103, c105, c106, c107, c108, c110]; refine ⟨_, _, _, laws_qSum.V g104, ?_⟩; simp (decide := true) (maxSteps := 4000000) only [go_sem, Nat.reduceAdd, Nat.reduceMul, c98, c103, c105, c106, c107, c108, c110]; refine ⟨_, _, _, laws_qInts.V g109, ?_⟩; simp (decide := true) (maxSteps := 4000000) only [go_sem, Nat.reduceAdd, Nat.reduceMul, c98, c103, c105, c106, c107, c108, c110]; exact hK) ?_
                                obtain rfl := Option.some.inj h
                                refine AL_ret (fun _ => rfl) ?_
                                exact retF_mk rfl (by exact ⟨trivial, trivial⟩) rfl (by exact rfl) (by exact trivial) (by exact trivial)
                            ·
                              replace c108 := Bool.of_not_eq_true c108
                              refine AL_region [4] [] [] ⟨[], [], []⟩ [(1, 311), (7, 317), (14, 324), (17, 327), (20, 330), (25, 335), (31, 341)] (by kernel_rfl) (by kernel_rfl) (by kernel_rfl) (fun K hK => by simp (decide := true) (maxSteps := 4000000) only [go_sem, Nat.reduceAdd, Nat.reduceMul, c98, c103, c105, c106, c107, c108]; refine ⟨_, _, _, laws_qSum.V g104, ?_⟩; simp (decide := true) (maxSteps := 4000000) only [go_sem, Nat.reduceAdd, Nat.reduceMul, c98, c103, c105, c106, c107, c108]; exact hK) ?_
                              obtain rfl := Option.some.inj h
                              refine AL_ret (fun _ => rfl) ?_
                              exact retF_mk rfl (by exact ⟨trivial, trivial⟩) rfl (by exact rfl) (by exact trivial) (by exact trivial)
                          ·
                            replace c107 := Bool.of_not_eq_true c107
                            refine AL_region [4] [] [] ⟨[], [], []⟩ [(1, 311), (7, 317), (14, 324), (17, 327), (20, 330), (25, 335), (31, 341)] (by kernel_rfl) (by kernel_rfl) (by kernel_rfl) (fun K hK => by simp (decide := true) (maxSteps := 4000000) only [go_sem, Nat.reduceAdd, Nat.reduceMul, c98, c103, c105, c106, c107]; refine ⟨_, _, _, laws_qSum.V g104, ?_⟩; simp (decide := true) (maxSteps := 4000000) only [go_sem, Nat.reduceAdd, Nat.reduceMul, c98, c103, c105, c106, c107]; exact hK) ?_
                            obtain rfl := Option.some.inj h
                            refine AL_ret (fun _ => rfl) ?_
                            exact retF_mk rfl (by exact ⟨trivial, trivial⟩) rfl (by exact rfl) (by exact trivial) (by exact trivial)
                        ·
                          replace c106 := eq_false c106
                          refine AL_region [4] [] [] ⟨[], [], []⟩ [(1, 311), (7, 317), (14, 324), (17, 327), (20, 330), (25, 335), (31, 341)] (by kernel_rfl) (by kernel_rfl) (by kernel_rfl) (fun K hK => by simp (decide := true) (maxSteps := 4000000) only [go_sem, Nat.reduceAdd, Nat.reduceMul, c98, c103, c105, c106]; refine ⟨_, _, _, laws_qSum.V g104, ?_⟩; simp (decide := true) (maxSteps := 4000000) only [go_sem, Nat.reduceAdd, Nat.reduceMul, c98, c103, c105, c106]; exact hK) ?_
                          obtain rfl := Option.some.inj h
                          refine AL_ret (fun _ => rfl) ?_
                          exact retF_mk rfl (by exact ⟨trivial, trivial⟩) rfl (by exact rfl) (by exact trivial) (by exact trivial)
                      ·
                        replace c105 := eq_false c105
                        refine AL_region [4] [] [] ⟨[], [], []⟩ [(1, 311), (7, 317), (14, 324), (17, 327), (20, 330), (25, 335), (31, 341)] (by kernel_rfl) (by kernel_rfl) (by kernel_rfl) (fun K hK => by simp (decide := true) (maxSteps := 4000000) only [go_sem, Nat.reduceAdd, Nat.reduceMul, c98, c103, c105]; refine ⟨_, _, _, laws_qSum.V g104, ?_⟩; simp (decide := true) (maxSteps := 4000000) only [go_sem, Nat.reduceAdd, Nat.reduceMul, c98, c103, c105]; exact hK) ?_
                        obtain rfl := Option.some.inj h
                        refine AL_ret (fun _ => rfl) ?_
                        exact retF_mk rfl (by exact ⟨trivial, trivial⟩) rfl (by exact rfl) (by exact trivial) (by exact trivial)
                    ·
                      replace c103 := Bool.of_not_eq_true c103
                      refine AL_region [4] [] [] ⟨[], [], []⟩ [(1, 311), (7, 317), (14, 324), (17, 327), (20, 330), (25, 335), (31, 341)] (by kernel_rfl) (by kernel_rfl) (by kernel_rfl) (fun K hK => by simp (decide := true) (maxSteps := 4000000) only [go_sem, Nat.reduceAdd, Nat.reduceMul, c98, c103]; exact hK) ?_
                      obtain rfl := Option.some.inj h
                      refine AL_ret (fun _ => rfl) ?_
                      exact retF_mk rfl (by exact ⟨trivial, trivial⟩) rfl (by exact rfl) (by exact trivial) (by exact trivial)
            ·
              replace c77 := Bool.of_not_eq_true c77
              refine AL_then (by simp (decide := true) only [go_sem, Nat.reduceAdd, Nat.reduceMul, c77]) ?_
              refine AL_seq ?_
              refine AL_region [4] [] [] ⟨[], [], []⟩ [] (by kernel_rfl) (by kernel_rfl) (by kernel_rfl) (fun K hK => by simp (decide := true) only [go_sem, Nat.reduceAdd, Nat.reduceMul, c77]; exact hK) ?_
              obtain rfl := Option.some.inj h
              refine AL_ret (fun _ => rfl) ?_
              exact retF_mk rfl (by exact ⟨trivial, trivial⟩) rfl (by exact rfl) (by exact trivial) (by exact trivial)
end Go.Proofs.Ytfakhgopbhnocaa.PFnSorted
