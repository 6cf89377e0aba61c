/- Each function's run, shown to compute what its plain function says. -/
import Derived.Test.YtfakhgopbhnocaaVFnEstimatesp0
import Derived.KernelRfl
set_option linter.unusedVariables false
set_option linter.unusedSimpArgs false
namespace Go.Proofs.Ytfakhgopbhnocaa.PFnEstimates
open Go Go.Proofs.YtfakhgopbhnocaaVM Go.Proofs.Ytfakhgopbhnocaa.VE Go.RowKit Go.Proofs.YtfakhgopbhnocaaW.PrintWords Go.Proofs.YtfakhgopbhnocaaW.PrintLast Go.Proofs.YtfakhgopbhnocaaW.PrintMore
attribute [local go_sem] runF_nil runF_cons kG_go kG_store kG_skip kG_pass kS_go kS_call kQ_go flagB_no inFl_some inFl_store hasB_nil hasB_hit hasB_miss flagB_eq clB_no wrB_no clB_yes wrB_store wrB_call opdL_load opdL_index opdL_len nm0_eq nmV_nil nmV_cons pt0_ptr pt0_int pt0_bool pt0_sl pt0_nil pt0_ref pt0_agg guardB_none guardB_some gL_some gB_true gB_false gB_skip look_hit look_miss tg_hit tg_miss bg_hit bg_miss ev_tmp ev_int ev_bool ev_nil ev_agg sQ_some stO_move stO_assign stO_pick stO_un stO_bin stO_field stO_load stO_index stO_extract stO_conv stO_box stO_alloc stO_len stO_call qUn_not qUn_neg qPick_true qPick_false qField_ptr qField_fat qLd_some qConv_some sB_some sA_some qLen_sl qLen_nil boxV_agg boxV_int boxV_bool boxV_nil boxV_sl boxV_ref qBin_add qBin_sub qBin_mul qBin_quo qBin_rem qBin_and qBin_or qBin_shr qBin_shl qBin_eql qBin_neq qBin_lss qBin_leq qBin_gtr qBin_geq qBin_beq qBin_bne qEx_tup keepT_cons keepB_nil keepB_cons keepT_nil qLoad_fat1 qLoad_fat2 qLoad_ptr ldB_box1 ld1_some ldB_box2 ldB_row ldR_1 ldR_2 unc_int unc_bool unc_nil unc_ref unc_sl unc_con_sl unc_con_nil rt_int rt_bool rt_nil rt_sl qIndex_sl ixT_some ixS_some qIndex_ref ixR_some ixR1_some argPtr_nil argPtr_ptr argPtr_int argPtr_bool argPtr_sl argPtr_ref argPtr_nl argPtr_agg memIn_none memIn_some mi1_box mi2_some viewL_int viewL_bool viewL_nil viewL_sl viewL_ref vwR_some cons2_some viewLs_nil viewLs_cons viewAs_nil viewAs_cons viewA_int viewA_bool viewA_nil viewA_sl viewA_ref viewA_agg agg1_some viewA_ptr sC_go sC2_some renT_int renT_bool renT_nil renT_sl renT_agg renT_tup renA_int renA_bool renA_nil renA_sl renA_agg renL_int renL_bool renL_nil renL_sl rowsD_nil memD_none memD_some md1_box mergeL_nil mergeL_int mergeL_bool mergeL_sl mergeL_nl stO_build sP_some sF_some fillV_nil fillV_cons fl1_go stO_nilCheck qNil_ptr stO_min qMin_int stO_max qMax_int stO_make sMe_some sM_some stO_slice sSe_some sS_own sS_fix rowsV_nil rowsV_cons rv1_some rowV_int rowV_bool rowV_nil rowV_sl rowV_agg stO_append sApp_new sApp_on qStore_eq qS2_some qS1_some qApp_eq qA0_some qA1_some qA2_nil qA2_ref stored1_ptr st1_box st1_row setL_nil setL_cons qA3_some absB_t absB_b0 absB_b1 absB_nil noBB_row noBB_box noTB_int noAB_int noLB_int killT_int killA_int killL_int noTB_bool noAB_bool noLB_bool killT_bool killA_bool killL_bool noTB_nil noAB_nil noLB_nil killT_nil killA_nil killL_nil noTB_und noAB_und noLB_und killT_und killA_und killL_und noTB_skip noAB_skip noLB_skip killT_skip killA_skip killL_skip noTB_sl noAB_sl noLB_sl killT_sl killA_sl killL_sl noTB_fat noAB_fat noLB_fat killT_fat killA_fat killL_fat noTB_ref noAB_ref noLB_ref killT_ref0 killT_ref killA_ref0 killA_ref killL_ref0 killL_ref noTB_ptr noAB_ptr noLB_ptr killT_ptr0 killT_ptr killA_ptr0 killA_ptr killL_ptr0 killL_ptr noTB_agg noAB_agg noTB_tup noLB_con_sl noLB_con_nil killT_agg killA_agg killT_tup killL_con_sl killL_con_nil killTL_nil killTL_cons killBL_nil killBL_none killBL_row killBL_box shut1_int shut1_bool shut1_nil shut1_sl scal_int scal_bool known1_int known1_bool known1_nil known1_sl known1_ref opdL_call nm0_func intsOf_nil intsOf_cons qBin_eqA qBin_neA eqA_eq eqA_ne nil_beq renT_ref renA_ref renL_ref rowsD_cons qLen_refR lenR_some tn_lt rowI_getn rowI_set nlit rowI_scal mp_nil rowI_cons rowI_len mkI_eq mkB_eq mp_length mp_app mp_ne rowI_one rowI_zero ibeq ibne true_and and_true and_self decide_true decide_false Bool.not_true Bool.not_false Bool.not_not List.length_map List.length_cons List.length_nil List.getElem?_cons_zero List.getElem?_cons_succ List.drop_zero List.drop_succ_cons List.take_succ_cons List.take_zero List.map_cons List.map_nil List.all_cons List.all_nil Bool.and_true Bool.true_and List.getD_cons_zero List.getD_cons_succ List.set_cons_zero List.set_cons_succ Option.isSome_none Option.isSome_some List.nil_append List.cons_append List.append_eq List.append_nil List.length_append cond_true cond_false ne_eq List.map_eq_nil_iff not_false_eq_true List.cons_ne_nil Bool.true_bne Bool.false_bne Bool.bne_true Bool.bne_false Bool.true_beq Bool.false_beq Int.zero_sub List.cons_beq_cons Option.map_some true_or or_true beq_self_eq_true Nat.zero_lt_succ ti_3 ti_5 ti_22 ti_24 ti_25 ti_27 ti_68 ti_127 ti_129 el_22 el_25 el_32 el_60 el_205 fo_24_0 fo_24_1 fo_24_2 fo_27_0 fo_27_1 fo_27_2 fo_27_3 fo_68_0 fo_68_1 fo_68_2 fo_68_3 fo_68_4 fo_129_0 fo_129_1 fo_129_2 bo_4 io_3 io_5 io_127 pl_24 pl_27 pl_68 pl_129 eqs_24 loud_6 loud_36 loud_38 loud_46 loud_50 loud_51 loud_52 loud_53 loud_56 loud_57 loud_58 loud_59 loud_60 loud_61 loud_62 loud_63 loud_64 loud_65 loud_66 loud_67 loud_68 loud_69 loud_70 loud_71 loud_96 loud_97 loud_100 loud_103 loud_105 loud_108 loud_109 loud_110 loud_111 loud_112 loud_118 loud_119 loud_120 loud_121 loud_122 loud_123 loud_124 loud_125 loud_127 loud_128 loud_129 loud_130 loud_131 loud_132 loud_133 loud_134 loud_135 loud_136 loud_137 loud_138 loud_139 loud_140 loud_141 loud_142 loud_143 loud_144 loud_145 loud_177 loud_178 loud_180 loud_183 loud_184 loud_185 loud_186 loud_187 loud_188 loud_189 loud_190 loud_191 loud_192 loud_193 loud_194 loud_195 i64w td_60 wl mx_rule mn_rule rowI_get rowB_get mkS68_eq rowS68_get rowS68_one rowS68_cons rowS68_len mkS24_eq rowS24_get rowS24_one rowS24_cons rowS24_len mkL_eq rowL_one rowL_cons rowL_len
/-! spec_l1Cur_grid : 189 -/
set_option maxRecDepth 100000 in
set_option maxHeartbeats 4000000 in
theorem spec_l1Cur_grid.V {s0_0 : List Int} {s0_1 : Int} {s0_2 : Int} {r1 : Int} {r2 : Int} {r3 : Int} {r4 : Int} {r5 : Int} (h : spec_l1Cur_grid.f s0_0 s0_1 s0_2 = some (r1, r2, r3, r4, r5)) : FnV E 189 [.ptr 0 0 0] (some [.sl false 1 (mp mkB s0_0), .int .i64 s0_1, .int .u64 s0_2]) (.agg [.int .i64 r1, .int .i64 r2, .int .i64 r3]) [] (some [.sl false 1 (mp mkB s0_0), .int .i64 r4, .int .u64 r5]) := by
 refine FnV_list E (rs := [.cell 2 24]) Try.func189 (by rfl) rfl Try.ntmps189 rfl [] (by simp) rfl (by simp) rfl (fun us => ?_)
 simp only [argsL, memL, wrapL, wrap1, Nat.reduceAdd]
 unfold spec_l1Cur_grid.f at h
 refine AL_seq ?_
 refine rg0 [0, 2] [0, 24] (fun K hK => by simp (decide := true) only [go_sem, Nat.reduceAdd, Nat.reduceMul]; exact hK) ?_
 refine AL_seq ?_
 refine AL_seq ?_
 obtain ⟨⟨t280, t281, t282⟩, g1, h⟩ := bind_or h
 dsimp only at h
 refine rg0 [0, 2, 4] [0, 24] (fun K hK => by simp (decide := true) only [go_sem, Nat.reduceAdd, Nat.reduceMul]; refine ⟨_, _, _, spec_l1Cur_one.V g1, ?_⟩; simp (decide := true) only [go_sem, Nat.reduceAdd, Nat.reduceMul]; exact hK) ?_
 rcases ite_orb h with ⟨c2, h⟩ | ⟨c2, h⟩
 ·
  refine AL_then (by simp (decide := true) only [go_sem, Nat.reduceAdd, Nat.reduceMul, c2]) ?_
  refine AL_seq ?_
  obtain ⟨y283, hy283, h⟩ := bind_or h
  obtain rfl := Option.some.inj hy283
  obtain ⟨⟨t286, t287, t288⟩, g3, h⟩ := bind_or h
  dsimp only at h
  obtain ⟨c4, h⟩ := ite_lp h
  obtain ⟨c5, h⟩ := ite_l h
  try simp only [List.length_cons, List.length_nil, List.length_append, Nat.reduceAdd, nlit] at c5
  replace c5 := eq_true c5
  refine rg0 [2] [0, 24] (fun K hK => by simp (decide := true) only [go_sem, Nat.reduceAdd, Nat.reduceMul, c2, c4, c5]; refine ⟨_, _, _, spec_l1Cur_pick.V g3, ?_⟩; simp (decide := true) only [go_sem, Nat.reduceAdd, Nat.reduceMul, c2, c4, c5]; exact hK) ?_
  replace h := Option.some.inj h
  obtain ⟨rfl, h1⟩ := Prod.mk.inj h
  obtain ⟨rfl, h2⟩ := Prod.mk.inj h1
  obtain ⟨rfl, h3⟩ := Prod.mk.inj h2
  obtain ⟨rfl, rfl⟩ := Prod.mk.inj h3
  refine AL_ret (fun _ => rfl) ?_
  exact retF_mk rfl (by exact ⟨(by simp), trivial⟩) rfl (by exact ⟨rfl, rfl, rfl, trivial⟩) (by exact trivial) (by exact ⟨rfl, rfl⟩)
 ·
  refine AL_else (by simp (decide := true) only [go_sem, Nat.reduceAdd, Nat.reduceMul, c2]) ?_
  refine AL_skip ?_
  refine AL_seq ?_
  obtain ⟨⟨t290, t291, t292⟩, g6, h⟩ := bind_or h
  dsimp only at h
  obtain ⟨⟨t293, t294, t295⟩, g7, h⟩ := bind_or h
  dsimp only at h
  obtain ⟨⟨t296, t297, t298⟩, g8, h⟩ := bind_or h
  dsimp only at h
  refine rg0 [2] [0, 24] (fun K hK => by simp (decide := true) (maxSteps := 4000000) only [go_sem, Nat.reduceAdd, Nat.reduceMul, c2]; refine ⟨_, _, _, spec_l1Cur_pick.V g6, ?_⟩; simp (decide := true) (maxSteps := 4000000) only [go_sem, Nat.reduceAdd, Nat.reduceMul, c2]; refine ⟨_, _, _, spec_l1Cur_pick.V g7, ?_⟩; simp (decide := true) (maxSteps := 4000000) only [go_sem, Nat.reduceAdd, Nat.reduceMul, c2]; refine ⟨_, _, _, spec_l1Cur_pick.V g8, ?_⟩; simp (decide := true) (maxSteps := 4000000) only [go_sem, Nat.reduceAdd, Nat.reduceMul, c2]; exact hK) ?_
  replace h := Option.some.inj h
  obtain ⟨rfl, h1⟩ := Prod.mk.inj h
  obtain ⟨rfl, h2⟩ := Prod.mk.inj h1
  obtain ⟨rfl, h3⟩ := Prod.mk.inj h2
  obtain ⟨rfl, rfl⟩ := Prod.mk.inj h3
  refine AL_ret (fun _ => rfl) ?_
  exact retF_mk rfl (by exact ⟨(by simp), trivial⟩) rfl (by exact ⟨rfl, rfl, rfl, trivial⟩) (by exact trivial) (by exact ⟨rfl, rfl⟩)
/-! spec_l1Cur_anyGrid : 136 -/
set_option maxRecDepth 100000 in
set_option maxHeartbeats 4000000 in
theorem spec_l1Cur_anyGrid.V {s0_0 : List Int} {s0_1 : Int} {s0_2 : Int} {r1 : Int} {r2 : Int} {r3 : Int} {r4 : Int} {r5 : Int} (h : spec_l1Cur_anyGrid.f s0_0 s0_1 s0_2 = some (r1, r2, r3, r4, r5)) : FnV E 136 [.ptr 0 0 0] (some [.sl false 1 (mp mkB s0_0), .int .i64 s0_1, .int .u64 s0_2]) (.agg [.int .i64 r1, .int .i64 r2, .int .i64 r3]) [] (some [.sl false 1 (mp mkB s0_0), .int .i64 r4, .int .u64 r5]) := by
 refine FnV_list E (rs := [.cell 2 24]) Try.func136 (by rfl) rfl Try.ntmps136 rfl [] (by simp) rfl (by simp) rfl (fun us => ?_)
 simp only [argsL, memL, wrapL, wrap1, Nat.reduceAdd]
 unfold spec_l1Cur_anyGrid.f at h
 refine AL_seq ?_
 refine rg0 [0, 2] [0, 24] (fun K hK => by simp (decide := true) only [go_sem, Nat.reduceAdd, Nat.reduceMul]; exact hK) ?_
 refine AL_seq ?_
 obtain ⟨⟨t300, t301, t302, t303, t304⟩, g1, h⟩ := bind_or h
 dsimp only at h
 refine rg0 [0, 2, 3] [0, 24, 32] (fun K hK => by simp (decide := true) only [go_sem, Nat.reduceAdd, Nat.reduceMul]; refine ⟨_, _, _, spec_l1Cur_grid.V g1, ?_⟩; simp (decide := true) only [go_sem, Nat.reduceAdd, Nat.reduceMul]; exact hK) ?_
 refine AL_seq ?_
 refine AL_seq ?_
 obtain ⟨⟨t306, t307, t308⟩, g2, h⟩ := bind_or h
 dsimp only at h
 refine rg0 [0, 2, 3, 7] [0, 24, 32] (fun K hK => by simp (decide := true) only [go_sem, Nat.reduceAdd, Nat.reduceMul]; refine ⟨_, _, _, spec_l1Cur_pick.V g2, ?_⟩; simp (decide := true) only [go_sem, Nat.reduceAdd, Nat.reduceMul]; exact hK) ?_
 refine AL_block ?_
 refine AL_seq ?_
 refine rg0 [0, 2, 3, 7, 8] [0, 24, 32] (fun K hK => by simp (decide := true) only [go_sem, Nat.reduceAdd, Nat.reduceMul]; exact hK) ?_
 rcases ite_orp h with ⟨c3, h⟩ | ⟨c3, h⟩
 ·
  refine AL_then (by simp (decide := true) only [go_sem, Nat.reduceAdd, Nat.reduceMul, c3]) ?_
  obtain ⟨⟨t312, t313, t314⟩, g4, h⟩ := bind_or h
  dsimp only at h
  refine rg0 [2, 3] [0, 24, 32] (fun K hK => by simp (decide := true) only [go_sem, Nat.reduceAdd, Nat.reduceMul, c3]; refine ⟨_, _, _, spec_l1Cur_among.V g4, ?_⟩; simp (decide := true) only [go_sem, Nat.reduceAdd, Nat.reduceMul, c3]; exact hK) ?_
  refine blockQ_n ?_
  refine AL_seq ?_
  refine rg0 [2] [0, 24] (fun K hK => by simp (decide := true) only [go_sem, Nat.reduceAdd, Nat.reduceMul, c3]; exact hK) ?_
  replace h := Option.some.inj h
  obtain ⟨rfl, h1⟩ := Prod.mk.inj h
  obtain ⟨rfl, h2⟩ := Prod.mk.inj h1
  obtain ⟨rfl, h3⟩ := Prod.mk.inj h2
  obtain ⟨rfl, rfl⟩ := Prod.mk.inj h3
  refine AL_ret (fun _ => rfl) ?_
  exact retF_mk rfl (by exact ⟨(by simp), trivial⟩) rfl (by exact ⟨rfl, rfl, rfl, trivial⟩) (by exact trivial) (by exact ⟨rfl, rfl⟩)
 ·
  refine AL_else (by simp (decide := true) only [go_sem, Nat.reduceAdd, Nat.reduceMul, c3]) ?_
  refine AL_seq ?_
  refine rg0 [0, 2, 3, 7, 14] [0, 24, 32] (fun K hK => by simp (decide := true) only [go_sem, Nat.reduceAdd, Nat.reduceMul, c3]; exact hK) ?_
  rcases ite_orp h with ⟨c5, h⟩ | ⟨c5, h⟩
  ·
   refine AL_then (by simp (decide := true) only [go_sem, Nat.reduceAdd, Nat.reduceMul, c3, c5]) ?_
   obtain ⟨⟨t318, t319, t320⟩, g6, h⟩ := bind_or h
   dsimp only at h
   refine rg0 [2, 3] [0, 24, 32] (fun K hK => by simp (decide := true) only [go_sem, Nat.reduceAdd, Nat.reduceMul, c3, c5]; refine ⟨_, _, _, spec_l1Cur_among.V g6, ?_⟩; simp (decide := true) only [go_sem, Nat.reduceAdd, Nat.reduceMul, c3, c5]; exact hK) ?_
   refine blockQ_n ?_
   refine AL_seq ?_
   refine rg0 [2] [0, 24] (fun K hK => by simp (decide := true) only [go_sem, Nat.reduceAdd, Nat.reduceMul, c3, c5]; exact hK) ?_
   replace h := Option.some.inj h
   obtain ⟨rfl, h1⟩ := Prod.mk.inj h
   obtain ⟨rfl, h2⟩ := Prod.mk.inj h1
   obtain ⟨rfl, h3⟩ := Prod.mk.inj h2
   obtain ⟨rfl, rfl⟩ := Prod.mk.inj h3
   refine AL_ret (fun _ => rfl) ?_
   exact retF_mk rfl (by exact ⟨(by simp), trivial⟩) rfl (by exact ⟨rfl, rfl, rfl, trivial⟩) (by exact trivial) (by exact ⟨rfl, rfl⟩)
  ·
   refine AL_else (by simp (decide := true) only [go_sem, Nat.reduceAdd, Nat.reduceMul, c3, c5]) ?_
   refine AL_seq ?_
   refine rg0 [0, 2, 3, 7, 20] [0, 24, 32] (fun K hK => by simp (decide := true) only [go_sem, Nat.reduceAdd, Nat.reduceMul, c3, c5]; exact hK) ?_
   rcases ite_orp h with ⟨c7, h⟩ | ⟨c7, h⟩
   ·
    refine AL_then (by simp (decide := true) only [go_sem, Nat.reduceAdd, Nat.reduceMul, c3, c5, c7]) ?_
    obtain ⟨⟨t324, t325, t326⟩, g8, h⟩ := bind_or h
    dsimp only at h
    refine rg0 [2, 3] [0, 24, 32] (fun K hK => by simp (decide := true) only [go_sem, Nat.reduceAdd, Nat.reduceMul, c3, c5, c7]; refine ⟨_, _, _, spec_l1Cur_among.V g8, ?_⟩; simp (decide := true) only [go_sem, Nat.reduceAdd, Nat.reduceMul, c3, c5, c7]; exact hK) ?_
    refine blockQ_n ?_
    refine AL_seq ?_
    refine rg0 [2] [0, 24] (fun K hK => by simp (decide := true) only [go_sem, Nat.reduceAdd, Nat.reduceMul, c3, c5, c7]; exact hK) ?_
    replace h := Option.some.inj h
    obtain ⟨rfl, h1⟩ := Prod.mk.inj h
    obtain ⟨rfl, h2⟩ := Prod.mk.inj h1
    obtain ⟨rfl, h3⟩ := Prod.mk.inj h2
    obtain ⟨rfl, rfl⟩ := Prod.mk.inj h3
    refine AL_ret (fun _ => rfl) ?_
    exact retF_mk rfl (by exact ⟨(by simp), trivial⟩) rfl (by exact ⟨rfl, rfl, rfl, trivial⟩) (by exact trivial) (by exact ⟨rfl, rfl⟩)
   ·
    refine AL_else (by simp (decide := true) only [go_sem, Nat.reduceAdd, Nat.reduceMul, c3, c5, c7]) ?_
    refine AL_seq ?_
    refine rg0 [0, 2, 3, 7, 26] [0, 24, 32] (fun K hK => by simp (decide := true) only [go_sem, Nat.reduceAdd, Nat.reduceMul, c3, c5, c7]; exact hK) ?_
    rcases ite_orp h with ⟨c9, h⟩ | ⟨c9, h⟩
    ·
     refine AL_then (by simp (decide := true) only [go_sem, Nat.reduceAdd, Nat.reduceMul, c3, c5, c7, c9]) ?_
     obtain ⟨⟨t330, t331, t332⟩, g10, h⟩ := bind_or h
     dsimp only at h
     refine rg0 [2, 3] [0, 24, 32] (fun K hK => by simp (decide := true) only [go_sem, Nat.reduceAdd, Nat.reduceMul, c3, c5, c7, c9]; refine ⟨_, _, _, spec_l1Cur_among.V g10, ?_⟩; simp (decide := true) only [go_sem, Nat.reduceAdd, Nat.reduceMul, c3, c5, c7, c9]; exact hK) ?_
     refine blockQ_n ?_
     refine AL_seq ?_
     refine rg0 [2] [0, 24] (fun K hK => by simp (decide := true) only [go_sem, Nat.reduceAdd, Nat.reduceMul, c3, c5, c7, c9]; exact hK) ?_
     replace h := Option.some.inj h
     obtain ⟨rfl, h1⟩ := Prod.mk.inj h
     obtain ⟨rfl, h2⟩ := Prod.mk.inj h1
     obtain ⟨rfl, h3⟩ := Prod.mk.inj h2
     obtain ⟨rfl, rfl⟩ := Prod.mk.inj h3
     refine AL_ret (fun _ => rfl) ?_
     exact retF_mk rfl (by exact ⟨(by simp), trivial⟩) rfl (by exact ⟨rfl, rfl, rfl, trivial⟩) (by exact trivial) (by exact ⟨rfl, rfl⟩)
    ·
     refine AL_else (by simp (decide := true) only [go_sem, Nat.reduceAdd, Nat.reduceMul, c3, c5, c7, c9]) ?_
     refine AL_seq ?_
     refine rg0 [2, 3, 32] [0, 24, 32] (fun K hK => by simp (decide := true) only [go_sem, Nat.reduceAdd, Nat.reduceMul, c3, c5, c7, c9]; exact hK) ?_
     rcases ite_orp h with ⟨c11, h⟩ | ⟨c11, h⟩
     ·
      refine AL_then (by simp (decide := true) only [go_sem, Nat.reduceAdd, Nat.reduceMul, c3, c5, c7, c9, c11]) ?_
      refine rg0 [2, 3] [0, 24, 32] (fun K hK => by simp (decide := true) only [go_sem, Nat.reduceAdd, Nat.reduceMul, c3, c5, c7, c9, c11]; exact hK) ?_
      refine blockQ_n ?_
      refine AL_seq ?_
      refine rg0 [2] [0, 24] (fun K hK => by simp (decide := true) only [go_sem, Nat.reduceAdd, Nat.reduceMul, c3, c5, c7, c9, c11]; exact hK) ?_
      replace h := Option.some.inj h
      obtain ⟨rfl, h1⟩ := Prod.mk.inj h
      obtain ⟨rfl, h2⟩ := Prod.mk.inj h1
      obtain ⟨rfl, h3⟩ := Prod.mk.inj h2
      obtain ⟨rfl, rfl⟩ := Prod.mk.inj h3
      refine AL_ret (fun _ => rfl) ?_
      exact retF_mk rfl (by exact ⟨(by simp), trivial⟩) rfl (by exact ⟨rfl, rfl, rfl, trivial⟩) (by exact trivial) (by exact ⟨rfl, rfl⟩)
     ·
      refine AL_else (by simp (decide := true) only [go_sem, Nat.reduceAdd, Nat.reduceMul, c3, c5, c7, c9, c11]) ?_
      refine AL_skip ?_
      refine blockQ_n ?_
      refine AL_seq ?_
      refine rg0 [2] [0, 24] (fun K hK => by simp (decide := true) only [go_sem, Nat.reduceAdd, Nat.reduceMul, c3, c5, c7, c9, c11]; exact hK) ?_
      replace h := Option.some.inj h
      obtain ⟨rfl, h1⟩ := Prod.mk.inj h
      obtain ⟨rfl, h2⟩ := Prod.mk.inj h1
      obtain ⟨rfl, h3⟩ := Prod.mk.inj h2
      obtain ⟨rfl, rfl⟩ := Prod.mk.inj h3
      refine AL_ret (fun _ => rfl) ?_
      exact retF_mk rfl (by exact ⟨(by simp), trivial⟩) rfl (by exact ⟨rfl, rfl, rfl, trivial⟩) (by exact trivial) (by exact ⟨rfl, rfl⟩)
/-! spec_grAt : 190 -/
set_option maxRecDepth 100000 in
set_option maxHeartbeats 4000000 in
theorem spec_grAt.V {a0_0 : Int} {a0_1 : Int} {a0_2 : Int} {a1 : Int} {a2 : Int} {a3 : Int} {r : Int} (h : spec_grAt.f a0_0 a0_1 a0_2 a1 a2 a3 = some r) : FnV E 190 [.agg [.int .i64 a0_0, .int .i64 a0_1, .int .i64 a0_2], .int .i64 a1, .int .i64 a2, .int .i64 a3] none (.int .i64 r) [] none := by
 refine FnV_list E (rs := [.tmp 8]) Try.func190 (by rfl) rfl Try.ntmps190 rfl [] (by simp) rfl (by simp) rfl (fun us => ?_)
 simp only [argsL, memL, wrapL, wrap1, Nat.reduceAdd]
 unfold spec_grAt.f at h
 refine AL_seq ?_
 refine rg0 [1, 2, 3, 4] [40] (fun K hK => by simp (decide := true) only [go_sem, Nat.reduceAdd, Nat.reduceMul]; exact hK) ?_
 refine AL_seq ?_
 refine AL_seq ?_
 obtain ⟨t334, g1, h⟩ := bind_or h
 rcases ite_orb h with ⟨c2, h⟩ | ⟨c2, h⟩
 ·
  obtain ⟨t335, g3, h⟩ := bind_or h
  rcases ite_orb h with ⟨c4, h⟩ | ⟨c4, h⟩
  ·
   obtain ⟨t336, g5, h⟩ := bind_or h
   refine rg1 [1, 2, 3, 4, 30] [40] [(6, 15), (14, 23)] (fun K hK => by simp (decide := true) (maxSteps := 4000000) only [go_sem, Nat.reduceAdd, Nat.reduceMul, c2, c4]; refine ⟨_, _, _, spec_l1In.V g1, ?_⟩; simp (decide := true) (maxSteps := 4000000) only [go_sem, Nat.reduceAdd, Nat.reduceMul, c2, c4]; refine ⟨_, _, _, spec_l1In.V g3, ?_⟩; simp (decide := true) (maxSteps := 4000000) only [go_sem, Nat.reduceAdd, Nat.reduceMul, c2, c4]; refine ⟨_, _, _, spec_l1In.V g5, ?_⟩; simp (decide := true) (maxSteps := 4000000) only [go_sem, Nat.reduceAdd, Nat.reduceMul, c2, c4]; exact hK) ?_
   rcases ite_orb h with ⟨c6, h⟩ | ⟨c6, h⟩
   ·
    refine AL_else (by simp (decide := true) only [go_sem, Nat.reduceAdd, Nat.reduceMul, c2, c4, c6]) ?_
    refine AL_skip ?_
    refine AL_seq ?_
    refine rg0 [8] [] (fun K hK => by simp (decide := true) (maxSteps := 4000000) only [go_sem, Nat.reduceAdd, Nat.reduceMul, c2, c4, c6]; exact hK) ?_
    obtain rfl := Option.some.inj h
    refine AL_ret (fun _ => rfl) ?_
    exact retF_mk rfl (by exact ⟨trivial, trivial⟩) rfl (by exact rfl) (by exact trivial) (by exact trivial)
   ·
    refine AL_then (by simp (decide := true) only [go_sem, Nat.reduceAdd, Nat.reduceMul, c2, c4, c6]) ?_
    refine AL_seq ?_
    refine rg0 [8] [] (fun K hK => by simp (decide := true) only [go_sem, Nat.reduceAdd, Nat.reduceMul, c2, c4, c6]; exact hK) ?_
    obtain rfl := Option.some.inj h
    refine AL_ret (fun _ => rfl) ?_
    exact retF_mk rfl (by exact ⟨trivial, trivial⟩) rfl (by exact rfl) (by exact trivial) (by exact trivial)
  ·
   refine rg1 [1, 2, 3, 4, 30] [40] [(6, 15), (14, 23)] (fun K hK => by simp (decide := true) (maxSteps := 4000000) only [go_sem, Nat.reduceAdd, Nat.reduceMul, c2, c4]; refine ⟨_, _, _, spec_l1In.V g1, ?_⟩; simp (decide := true) (maxSteps := 4000000) only [go_sem, Nat.reduceAdd, Nat.reduceMul, c2, c4]; refine ⟨_, _, _, spec_l1In.V g3, ?_⟩; simp (decide := true) (maxSteps := 4000000) only [go_sem, Nat.reduceAdd, Nat.reduceMul, c2, c4]; exact hK) ?_
   refine AL_then (by simp (decide := true) only [go_sem, Nat.reduceAdd, Nat.reduceMul, c2, c4]) ?_
   refine AL_seq ?_
   refine rg0 [8] [] (fun K hK => by simp (decide := true) only [go_sem, Nat.reduceAdd, Nat.reduceMul, c2, c4]; exact hK) ?_
   obtain rfl := Option.some.inj h
   refine AL_ret (fun _ => rfl) ?_
   exact retF_mk rfl (by exact ⟨trivial, trivial⟩) rfl (by exact rfl) (by exact trivial) (by exact trivial)
 ·
  refine rg1 [1, 2, 3, 4, 30] [40] [(6, 15), (14, 23)] (fun K hK => by simp (decide := true) (maxSteps := 4000000) only [go_sem, Nat.reduceAdd, Nat.reduceMul, c2]; refine ⟨_, _, _, spec_l1In.V g1, ?_⟩; simp (decide := true) (maxSteps := 4000000) only [go_sem, Nat.reduceAdd, Nat.reduceMul, c2]; exact hK) ?_
  refine AL_then (by simp (decide := true) only [go_sem, Nat.reduceAdd, Nat.reduceMul, c2]) ?_
  refine AL_seq ?_
  refine rg0 [8] [] (fun K hK => by simp (decide := true) only [go_sem, Nat.reduceAdd, Nat.reduceMul, c2]; exact hK) ?_
  obtain rfl := Option.some.inj h
  refine AL_ret (fun _ => rfl) ?_
  exact retF_mk rfl (by exact ⟨trivial, trivial⟩) rfl (by exact rfl) (by exact trivial) (by exact trivial)
/-! spec_bhBlock : 139 -/
set_option maxRecDepth 100000 in
set_option maxHeartbeats 4000000 in
theorem spec_bhBlock.V {a0_0 : Int} {a0_1 : Int} {a0_2 : Int} {a1_0 : Int} {a1_1 : Int} {a1_2 : Int} {a1_3 : Int} {a1_4 : Int} {r : Int} (h : spec_bhBlock.f a0_0 a0_1 a0_2 a1_0 a1_1 a1_2 a1_3 a1_4 = some r) : FnV E 139 [.agg [.int .i64 a0_0, .int .i64 a0_1, .int .i64 a0_2], .agg [.int .i64 a1_0, .int .i64 a1_1, .int .i64 a1_2, .int .i64 a1_3, .int .i64 a1_4]] none (.int .i64 r) [] none := by
 refine FnV_list E (rs := [.tmp 4]) Try.func139 (by rfl) rfl Try.ntmps139 rfl [] (by simp) rfl (by simp) rfl (fun us => ?_)
 simp only [argsL, memL, wrapL, wrap1, Nat.reduceAdd]
 unfold spec_bhBlock.f at h
 refine AL_seq ?_
 refine rg0 [2, 3] [24, 32] (fun K hK => by simp (decide := true) only [go_sem, Nat.reduceAdd, Nat.reduceMul]; exact hK) ?_
 refine AL_seq ?_
 obtain ⟨t339, g1, h⟩ := bind_or h
 refine rg0 [4] [] (fun K hK => by simp (decide := true) (maxSteps := 4000000) only [go_sem, Nat.reduceAdd, Nat.reduceMul]; refine ⟨_, _, _, spec_grAt.V g1, ?_⟩; simp (decide := true) (maxSteps := 4000000) only [go_sem, Nat.reduceAdd, Nat.reduceMul]; exact hK) ?_
 obtain rfl := Option.some.inj h
 refine AL_ret (fun _ => rfl) ?_
 exact retF_mk rfl (by exact ⟨trivial, trivial⟩) rfl (by exact rfl) (by exact trivial) (by exact trivial)
/-! spec_l1Cur_block : 186 -/
set_option maxRecDepth 100000 in
set_option maxHeartbeats 4000000 in
theorem spec_l1Cur_block.V {s0_0 : List Int} {s0_1 : Int} {s0_2 : Int} {a1_0 : Int} {a1_1 : Int} {a1_2 : Int} {r1 : Int} {r2 : Int} {r3 : Int} (h : spec_l1Cur_block.f s0_0 s0_1 s0_2 a1_0 a1_1 a1_2 = some (r1, r2, r3)) : FnV E 186 [.ptr 0 0 0, .agg [.int .i64 a1_0, .int .i64 a1_1, .int .i64 a1_2]] (some [.sl false 1 (mp mkB s0_0), .int .i64 s0_1, .int .u64 s0_2]) (.int .i64 r1) [] (some [.sl false 1 (mp mkB s0_0), .int .i64 r2, .int .u64 r3]) := by
 refine FnV_list E (rs := [.tmp 4]) Try.func186 (by rfl) rfl Try.ntmps186 rfl [] (by simp) rfl (by simp) rfl (fun us => ?_)
 simp only [argsL, memL, wrapL, wrap1, Nat.reduceAdd]
 unfold spec_l1Cur_block.f at h
 refine AL_seq ?_
 refine rg0 [0, 3] [0, 32] (fun K hK => by simp (decide := true) only [go_sem, Nat.reduceAdd, Nat.reduceMul]; exact hK) ?_
 refine AL_seq ?_
 refine AL_seq ?_
 obtain ⟨t341, g1, h⟩ := bind_or h
 refine rg0 [0, 3, 7] [0, 32] (fun K hK => by simp (decide := true) only [go_sem, Nat.reduceAdd, Nat.reduceMul]; refine ⟨_, _, _, spec_grGood.V g1, ?_⟩; simp (decide := true) only [go_sem, Nat.reduceAdd, Nat.reduceMul]; exact hK) ?_
 rcases ite_orb h with ⟨c2, h⟩ | ⟨c2, h⟩
 ·
  refine AL_else (by simp (decide := true) only [go_sem, Nat.reduceAdd, Nat.reduceMul, c2]) ?_
  refine AL_skip ?_
  refine AL_seq ?_
  refine AL_seq ?_
  obtain ⟨⟨t342, t343, t344⟩, g3, h⟩ := bind_or h
  dsimp only at h
  refine rg0 [0, 3, 9] [0, 32] (fun K hK => by simp (decide := true) only [go_sem, Nat.reduceAdd, Nat.reduceMul, c2]; refine ⟨_, _, _, spec_l1Cur_one.V g3, ?_⟩; simp (decide := true) only [go_sem, Nat.reduceAdd, Nat.reduceMul, c2]; exact hK) ?_
  rcases ite_orb h with ⟨c4, h⟩ | ⟨c4, h⟩
  ·
   refine AL_then (by simp (decide := true) only [go_sem, Nat.reduceAdd, Nat.reduceMul, c2, c4]) ?_
   refine AL_seq ?_
   obtain ⟨t345, g5, h⟩ := bind_or h
   obtain ⟨⟨t349, t350, t351⟩, g6, h⟩ := bind_or h
   dsimp only at h
   refine rg0 [4] [0] (fun K hK => by simp (decide := true) only [go_sem, Nat.reduceAdd, Nat.reduceMul, c2, c4]; refine ⟨_, _, _, spec_grCount.V g5, ?_⟩; simp (decide := true) only [go_sem, Nat.reduceAdd, Nat.reduceMul, c2, c4]; refine ⟨_, _, _, spec_l1Cur_among.V g6, ?_⟩; simp (decide := true) only [go_sem, Nat.reduceAdd, Nat.reduceMul, c2, c4]; exact hK) ?_
   replace h := Option.some.inj h
   obtain ⟨rfl, h1⟩ := Prod.mk.inj h
   obtain ⟨rfl, rfl⟩ := Prod.mk.inj h1
   refine AL_ret (fun _ => rfl) ?_
   exact retF_mk rfl (by exact ⟨trivial, trivial⟩) rfl (by exact rfl) (by exact trivial) (by exact ⟨rfl, rfl⟩)
  ·
   refine AL_else (by simp (decide := true) only [go_sem, Nat.reduceAdd, Nat.reduceMul, c2, c4]) ?_
   refine AL_skip ?_
   refine AL_seq ?_
   obtain ⟨t352, g7, h⟩ := bind_or h
   obtain ⟨⟨t353, t354, t355⟩, g8, h⟩ := bind_or h
   dsimp only at h
   refine rg0 [4] [0] (fun K hK => by simp (decide := true) only [go_sem, Nat.reduceAdd, Nat.reduceMul, c2, c4]; refine ⟨_, _, _, spec_grCount.V g7, ?_⟩; simp (decide := true) only [go_sem, Nat.reduceAdd, Nat.reduceMul, c2, c4]; refine ⟨_, _, _, spec_l1Cur_pick.V g8, ?_⟩; simp (decide := true) only [go_sem, Nat.reduceAdd, Nat.reduceMul, c2, c4]; exact hK) ?_
   replace h := Option.some.inj h
   obtain ⟨rfl, h1⟩ := Prod.mk.inj h
   obtain ⟨rfl, rfl⟩ := Prod.mk.inj h1
   refine AL_ret (fun _ => rfl) ?_
   exact retF_mk rfl (by exact ⟨trivial, trivial⟩) rfl (by exact rfl) (by exact trivial) (by exact ⟨rfl, rfl⟩)
 ·
  refine AL_then (by simp (decide := true) only [go_sem, Nat.reduceAdd, Nat.reduceMul, c2]) ?_
  refine AL_seq ?_
  refine rg0 [4] [0] (fun K hK => by simp (decide := true) only [go_sem, Nat.reduceAdd, Nat.reduceMul, c2]; exact hK) ?_
  replace h := Option.some.inj h
  obtain ⟨rfl, h1⟩ := Prod.mk.inj h
  obtain ⟨rfl, rfl⟩ := Prod.mk.inj h1
  refine AL_ret (fun _ => rfl) ?_
  exact retF_mk rfl (by exact ⟨trivial, trivial⟩) rfl (by exact rfl) (by exact trivial) (by exact ⟨rfl, rfl⟩)
/-! spec_DrawHolesIn : 123 -/
set_option maxRecDepth 100000 in
set_option maxHeartbeats 4000000 in
theorem spec_DrawHolesIn.V {k : Nat} {l0 : List Int} {r1 : Int} {r2 : Int} {r3 : Int} {r4 : List (S68)} {r5 : Int} (h : spec_DrawHolesIn.f k l0 = some (r1, r2, r3, r4, r5)) : FnV E 123 [.sl false 1 (mp mkB l0)] none (.tup [.agg [.int .i64 r1, .int .i64 r2, .int .i64 r3], .sl true 5 (mp mkS68 r4), .int .i64 r5]) [] none := by
 refine FnV_list E (rs := [.cell 2 24, .tmp 3, .tmp 4]) Try.func123 (by rfl) rfl Try.ntmps123 rfl [] (by simp) rfl (by simp) rfl (fun us => ?_)
 simp only [argsL, memL, wrapL, wrap1, Nat.reduceAdd]
 unfold spec_DrawHolesIn.f at h
 refine AL_seq ?_
 refine rg0 [0, 2] [24] (fun K hK => by simp (decide := true) only [go_sem, Nat.reduceAdd, Nat.reduceMul]; exact hK) ?_
 refine AL_seq ?_
 refine rg0 [2, 5] [24, 96] (fun K hK => by simp (decide := true) only [go_sem, Nat.reduceAdd, Nat.reduceMul]; exact hK) ?_
 refine AL_seq ?_
 obtain ⟨⟨t358, t359, t360, t361, t362⟩, g1, h⟩ := bind_or h
 dsimp only at h
 refine rg0 [2, 5, 6] [24, 56, 96] (fun K hK => by simp (decide := true) only [go_sem, Nat.reduceAdd, Nat.reduceMul]; refine ⟨_, _, _, spec_l1Cur_anyGrid.V g1, ?_⟩; simp (decide := true) only [go_sem, Nat.reduceAdd, Nat.reduceMul]; exact hK) ?_
 refine AL_seq ?_
 obtain ⟨⟨t364, t367, t368⟩, g2, h⟩ := bind_or h
 dsimp only at h
 refine rg0 [2, 5, 6, 7] [24, 56, 96] (fun K hK => by simp (decide := true) only [go_sem, Nat.reduceAdd, Nat.reduceMul]; refine ⟨_, _, _, spec_l1Cur_holes.V g2, ?_⟩; simp (decide := true) only [go_sem, Nat.reduceAdd, Nat.reduceMul]; exact hK) ?_
 refine AL_seq ?_
 obtain ⟨⟨t369, t370, t371⟩, g3, h⟩ := bind_or h
 dsimp only at h
 refine rg0 [2, 5, 6, 7, 8] [24, 56, 96] (fun K hK => by simp (decide := true) only [go_sem, Nat.reduceAdd, Nat.reduceMul]; refine ⟨_, _, _, spec_l1Cur_block.V g3, ?_⟩; simp (decide := true) only [go_sem, Nat.reduceAdd, Nat.reduceMul]; exact hK) ?_
 refine AL_seq ?_
 refine AL_seq ?_
 obtain ⟨t372, g4, h⟩ := bind_or h
 rcases ite_orb h with ⟨c5, h⟩ | ⟨c5, h⟩
 ·
  obtain ⟨t373, g6, h⟩ := bind_or h
  rcases ite_orb h with ⟨c7, h⟩ | ⟨c7, h⟩
  ·
   rcases ite_orp h with ⟨c8, h⟩ | ⟨c8, h⟩
   ·
    obtain ⟨⟨t374, t375, t376⟩, g9, h⟩ := bind_or h
    dsimp only at h
    refine rg1 [2, 6, 7, 8, 35] [24, 56] [(2, 22), (7, 27), (12, 32)] (fun K hK => by simp (decide := true) (maxSteps := 4000000) only [go_sem, Nat.reduceAdd, Nat.reduceMul, c5, c7, c8]; refine ⟨_, _, _, spec_grGood.V g4, ?_⟩; simp (decide := true) (maxSteps := 4000000) only [go_sem, Nat.reduceAdd, Nat.reduceMul, c5, c7, c8]; refine ⟨_, _, _, spec_bhList.V g6, ?_⟩; simp (decide := true) (maxSteps := 4000000) only [go_sem, Nat.reduceAdd, Nat.reduceMul, c5, c7, c8]; refine ⟨_, _, _, spec_l1Cur_one.V g9, ?_⟩; simp (decide := true) (maxSteps := 4000000) only [go_sem, Nat.reduceAdd, Nat.reduceMul, c5, c7, c8]; exact hK) ?_
    rcases ite_orb h with ⟨c10, h⟩ | ⟨c10, h⟩
    ·
     refine AL_then (by simp (decide := true) only [go_sem, Nat.reduceAdd, Nat.reduceMul, c5, c7, c8, c10]) ?_
     obtain ⟨c11, h⟩ := ite_lp h
     obtain ⟨t378, g12, h⟩ := bind_or h
     refine rg0 [2, 6, 7, 8] [24, 56] (fun K hK => by simp (decide := true) only [go_sem, Nat.reduceAdd, Nat.reduceMul, c5, c7, c8, c10, c11]; refine ⟨_, _, _, spec_bhBlock.V g12, ?_⟩; simp (decide := true) only [go_sem, Nat.reduceAdd, Nat.reduceMul, c5, c7, c8, c10, c11]; exact hK) ?_
     refine AL_seq ?_
     refine rg0 [2, 3, 4] [24] (fun K hK => by simp (decide := true) only [go_sem, Nat.reduceAdd, Nat.reduceMul, c5, c7, c8, c10, c11]; exact hK) ?_
     replace h := Option.some.inj h
     obtain ⟨rfl, h1⟩ := Prod.mk.inj h
     obtain ⟨rfl, h2⟩ := Prod.mk.inj h1
     obtain ⟨rfl, h3⟩ := Prod.mk.inj h2
     obtain ⟨rfl, rfl⟩ := Prod.mk.inj h3
     refine AL_ret (fun _ => rfl) ?_
     exact retF_mk rfl (by exact ⟨(by simp), trivial, trivial, trivial⟩) rfl (by exact ⟨⟨rfl, rfl, rfl, trivial⟩, rfl, rfl, trivial⟩) (by exact trivial) (by exact trivial)
    ·
     refine AL_else (by simp (decide := true) only [go_sem, Nat.reduceAdd, Nat.reduceMul, c5, c7, c8, c10]) ?_
     refine AL_skip ?_
     refine AL_seq ?_
     refine rg0 [2, 3, 4] [24] (fun K hK => by simp (decide := true) only [go_sem, Nat.reduceAdd, Nat.reduceMul, c5, c7, c8, c10]; exact hK) ?_
     replace h := Option.some.inj h
     obtain ⟨rfl, h1⟩ := Prod.mk.inj h
     obtain ⟨rfl, h2⟩ := Prod.mk.inj h1
     obtain ⟨rfl, h3⟩ := Prod.mk.inj h2
     obtain ⟨rfl, rfl⟩ := Prod.mk.inj h3
     refine AL_ret (fun _ => rfl) ?_
     exact retF_mk rfl (by exact ⟨(by simp), trivial, trivial, trivial⟩) rfl (by exact ⟨⟨rfl, rfl, rfl, trivial⟩, rfl, rfl, trivial⟩) (by exact trivial) (by exact trivial)
   ·
    refine rg1 [2, 6, 7, 8, 35] [24, 56] [(2, 22), (7, 27), (12, 32)] (fun K hK => by simp (decide := true) (maxSteps := 4000000) only [go_sem, Nat.reduceAdd, Nat.reduceMul, c5, c7, c8]; refine ⟨_, _, _, spec_grGood.V g4, ?_⟩; simp (decide := true) (maxSteps := 4000000) only [go_sem, Nat.reduceAdd, Nat.reduceMul, c5, c7, c8]; refine ⟨_, _, _, spec_bhList.V g6, ?_⟩; simp (decide := true) (maxSteps := 4000000) only [go_sem, Nat.reduceAdd, Nat.reduceMul, c5, c7, c8]; exact hK) ?_
    refine AL_else (by simp (decide := true) only [go_sem, Nat.reduceAdd, Nat.reduceMul, c5, c7, c8]) ?_
    refine AL_skip ?_
    refine AL_seq ?_
    refine rg0 [2, 3, 4] [24] (fun K hK => by simp (decide := true) only [go_sem, Nat.reduceAdd, Nat.reduceMul, c5, c7, c8]; exact hK) ?_
    replace h := Option.some.inj h
    obtain ⟨rfl, h1⟩ := Prod.mk.inj h
    obtain ⟨rfl, h2⟩ := Prod.mk.inj h1
    obtain ⟨rfl, h3⟩ := Prod.mk.inj h2
    obtain ⟨rfl, rfl⟩ := Prod.mk.inj h3
    refine AL_ret (fun _ => rfl) ?_
    exact retF_mk rfl (by exact ⟨(by simp), trivial, trivial, trivial⟩) rfl (by exact ⟨⟨rfl, rfl, rfl, trivial⟩, rfl, rfl, trivial⟩) (by exact trivial) (by exact trivial)
  ·
   refine rg1 [2, 6, 7, 8, 35] [24, 56] [(2, 22), (7, 27), (12, 32)] (fun K hK => by simp (decide := true) (maxSteps := 4000000) only [go_sem, Nat.reduceAdd, Nat.reduceMul, c5, c7]; refine ⟨_, _, _, spec_grGood.V g4, ?_⟩; simp (decide := true) (maxSteps := 4000000) only [go_sem, Nat.reduceAdd, Nat.reduceMul, c5, c7]; refine ⟨_, _, _, spec_bhList.V g6, ?_⟩; simp (decide := true) (maxSteps := 4000000) only [go_sem, Nat.reduceAdd, Nat.reduceMul, c5, c7]; exact hK) ?_
   refine AL_else (by simp (decide := true) only [go_sem, Nat.reduceAdd, Nat.reduceMul, c5, c7]) ?_
   refine AL_skip ?_
   refine AL_seq ?_
   refine rg0 [2, 3, 4] [24] (fun K hK => by simp (decide := true) only [go_sem, Nat.reduceAdd, Nat.reduceMul, c5, c7]; exact hK) ?_
   replace h := Option.some.inj h
   obtain ⟨rfl, h1⟩ := Prod.mk.inj h
   obtain ⟨rfl, h2⟩ := Prod.mk.inj h1
   obtain ⟨rfl, h3⟩ := Prod.mk.inj h2
   obtain ⟨rfl, rfl⟩ := Prod.mk.inj h3
   refine AL_ret (fun _ => rfl) ?_
   exact retF_mk rfl (by exact ⟨(by simp), trivial, trivial, trivial⟩) rfl (by exact ⟨⟨rfl, rfl, rfl, trivial⟩, rfl, rfl, trivial⟩) (by exact trivial) (by exact trivial)
 ·
  refine rg1 [2, 6, 7, 8, 35] [24, 56] [(2, 22), (7, 27), (12, 32)] (fun K hK => by simp (decide := true) (maxSteps := 4000000) only [go_sem, Nat.reduceAdd, Nat.reduceMul, c5]; refine ⟨_, _, _, spec_grGood.V g4, ?_⟩; simp (decide := true) (maxSteps := 4000000) only [go_sem, Nat.reduceAdd, Nat.reduceMul, c5]; exact hK) ?_
  refine AL_else (by simp (decide := true) only [go_sem, Nat.reduceAdd, Nat.reduceMul, c5]) ?_
  refine AL_skip ?_
  refine AL_seq ?_
  refine rg0 [2, 3, 4] [24] (fun K hK => by simp (decide := true) only [go_sem, Nat.reduceAdd, Nat.reduceMul, c5]; exact hK) ?_
  replace h := Option.some.inj h
  obtain ⟨rfl, h1⟩ := Prod.mk.inj h
  obtain ⟨rfl, h2⟩ := Prod.mk.inj h1
  obtain ⟨rfl, h3⟩ := Prod.mk.inj h2
  obtain ⟨rfl, rfl⟩ := Prod.mk.inj h3
  refine AL_ret (fun _ => rfl) ?_
  exact retF_mk rfl (by exact ⟨(by simp), trivial, trivial, trivial⟩) rfl (by exact ⟨⟨rfl, rfl, rfl, trivial⟩, rfl, rfl, trivial⟩) (by exact trivial) (by exact trivial)
/-! spec_DrawEstimateBlock : 56 -/
set_option maxRecDepth 100000 in
set_option maxHeartbeats 4000000 in
theorem spec_DrawEstimateBlock.V {k : Nat} {l0 : List Int} {r1 : Int} {r2 : Int} {r3 : Int} {r4 : List (S68)} {r5 : Int} {r6 : Int} (h : spec_DrawEstimateBlock.f k l0 = some (r1, r2, r3, r4, r5, r6)) : FnV E 56 [.sl false 1 (mp mkB l0)] none (.tup [.agg [.int .i64 r1, .int .i64 r2, .int .i64 r3], .sl true 5 (mp mkS68 r4), .int .i64 r5, .int .i64 r6]) [] none := by
 refine FnV_list E (rs := [.cell 2 24, .tmp 3, .tmp 4, .tmp 5]) Try.func56 (by rfl) rfl Try.ntmps56 rfl [] (by simp) rfl (by simp) rfl (fun us => ?_)
 simp only [argsL, memL, wrapL, wrap1, Nat.reduceAdd]
 unfold spec_DrawEstimateBlock.f at h
 refine AL_seq ?_
 refine rg0 [0, 2] [24] (fun K hK => by simp (decide := true) only [go_sem, Nat.reduceAdd, Nat.reduceMul]; exact hK) ?_
 refine AL_seq ?_
 refine rg0 [0, 2, 6] [24, 104] (fun K hK => by simp (decide := true) only [go_sem, Nat.reduceAdd, Nat.reduceMul]; exact hK) ?_
 refine AL_seq ?_
 obtain ⟨⟨t381, t382, t383, t384, t387⟩, g1, h⟩ := bind_or h
 dsimp only at h
 refine rg0 [2, 6, 7, 8, 9] [24, 64, 104] (fun K hK => by simp (decide := true) only [go_sem, Nat.reduceAdd, Nat.reduceMul]; refine ⟨_, _, _, spec_DrawHolesIn.V g1, ?_⟩; simp (decide := true) only [go_sem, Nat.reduceAdd, Nat.reduceMul]; exact hK) ?_
 refine AL_seq ?_
 obtain ⟨⟨t392, t393, t394⟩, g2, h⟩ := bind_or h
 dsimp only at h
 refine rg2 [2, 3, 4, 5] [24] [] ⟨[19], [24], [104]⟩ [] (fun K hK => by simp (decide := true) only [go_sem, Nat.reduceAdd, Nat.reduceMul]; refine ⟨_, _, _, spec_l1Cur_among.V g2, ?_⟩; simp (decide := true) only [go_sem, Nat.reduceAdd, Nat.reduceMul]; exact hK) ?_
 replace h := Option.some.inj h
 obtain ⟨rfl, h1⟩ := Prod.mk.inj h
 obtain ⟨rfl, h2⟩ := Prod.mk.inj h1
 obtain ⟨rfl, h3⟩ := Prod.mk.inj h2
 obtain ⟨rfl, h4⟩ := Prod.mk.inj h3
 obtain ⟨rfl, rfl⟩ := Prod.mk.inj h4
 refine AL_ret (fun _ => rfl) ?_
 exact retF_mk rfl (by exact ⟨(by simp), trivial, trivial, trivial, trivial⟩) rfl (by exact ⟨⟨rfl, rfl, rfl, trivial⟩, rfl, rfl, rfl, trivial⟩) (by exact trivial) (by exact trivial)
/-! impl_hasBlock : 124 -/
set_option maxRecDepth 100000 in
set_option maxHeartbeats 4000000 in
theorem impl_hasBlock.V {a0_0 : Int} {a0_1 : Int} {a0_2 : Int} {a1 : Int} {r : Bool} (h : impl_hasBlock.f a0_0 a0_1 a0_2 a1 = some r) : FnV E 124 [.agg [.int .i64 a0_0, .int .i64 a0_1, .int .i64 a0_2], .int .i64 a1] none (.bool r) [] none := by
 refine FnV_list E (rs := [.tmp 4]) Try.func124 (by rfl) rfl Try.ntmps124 rfl [] (by simp) rfl (by simp) rfl (fun us => ?_)
 simp only [argsL, memL, wrapL, wrap1, Nat.reduceAdd]
 unfold impl_hasBlock.f at h
 refine AL_seq ?_
 refine rg0 [1, 2] [24] (fun K hK => by simp (decide := true) only [go_sem, Nat.reduceAdd, Nat.reduceMul]; exact hK) ?_
 refine AL_seq ?_
 obtain ⟨t396, g1, h⟩ := bind_or h
 rcases ite_orb h with ⟨c2, h⟩ | ⟨c2, h⟩
 ·
  rcases ite_orp h with ⟨c3, h⟩ | ⟨c3, h⟩
  ·
   obtain ⟨t397, g4, h⟩ := bind_or h
   refine rg1 [4] [] [(2, 7), (6, 11)] (fun K hK => by simp (decide := true) (maxSteps := 4000000) only [go_sem, Nat.reduceAdd, Nat.reduceMul, c2, c3]; refine ⟨_, _, _, impl_IsGrid.V g1, ?_⟩; simp (decide := true) (maxSteps := 4000000) only [go_sem, Nat.reduceAdd, Nat.reduceMul, c2, c3]; refine ⟨_, _, _, impl_blocksOf.V g4, ?_⟩; simp (decide := true) (maxSteps := 4000000) only [go_sem, Nat.reduceAdd, Nat.reduceMul, c2, c3]; exact hK) ?_
   obtain rfl := Option.some.inj h
   refine AL_ret (fun _ => rfl) ?_
   exact retF_mk rfl (by exact ⟨trivial, trivial⟩) rfl (by exact rfl) (by exact trivial) (by exact trivial)
  ·
   refine rg1 [4] [] [(2, 7), (6, 11)] (fun K hK => by simp (decide := true) (maxSteps := 4000000) only [go_sem, Nat.reduceAdd, Nat.reduceMul, c2, c3]; refine ⟨_, _, _, impl_IsGrid.V g1, ?_⟩; simp (decide := true) (maxSteps := 4000000) only [go_sem, Nat.reduceAdd, Nat.reduceMul, c2, c3]; exact hK) ?_
   obtain rfl := Option.some.inj h
   refine AL_ret (fun _ => rfl) ?_
   exact retF_mk rfl (by exact ⟨trivial, trivial⟩) rfl (by exact rfl) (by exact trivial) (by exact trivial)
 ·
  refine rg1 [4] [] [(2, 7), (6, 11)] (fun K hK => by simp (decide := true) (maxSteps := 4000000) only [go_sem, Nat.reduceAdd, Nat.reduceMul, c2]; refine ⟨_, _, _, impl_IsGrid.V g1, ?_⟩; simp (decide := true) (maxSteps := 4000000) only [go_sem, Nat.reduceAdd, Nat.reduceMul, c2]; exact hK) ?_
  obtain rfl := Option.some.inj h
  refine AL_ret (fun _ => rfl) ?_
  exact retF_mk rfl (by exact ⟨trivial, trivial⟩) rfl (by exact rfl) (by exact trivial) (by exact trivial)
/-! impl_areHoles : 125 -/
set_option maxRecDepth 100000 in
set_option maxHeartbeats 4000000 in
theorem impl_areHoles.V {k : Nat} {a0_0 : Int} {a0_1 : Int} {a0_2 : Int} {l1 : List (S68)} {r : Bool} (h : impl_areHoles.f k a0_0 a0_1 a0_2 l1 = some r) : FnV E 125 [.agg [.int .i64 a0_0, .int .i64 a0_1, .int .i64 a0_2], .sl false 5 (mp mkS68 l1)] none (.bool r) [] none := by
 refine FnV_list E (rs := [.tmp 4]) Try.func125 (by rfl) rfl Try.ntmps125 rfl [] (by simp) rfl (by simp) rfl (fun us => ?_)
 simp only [argsL, memL, wrapL, wrap1, Nat.reduceAdd]
 unfold impl_areHoles.f at h
 refine AL_seq ?_
 refine rg0 [1, 2] [24] (fun K hK => by simp (decide := true) only [go_sem, Nat.reduceAdd, Nat.reduceMul]; exact hK) ?_
 refine AL_seq ?_
 refine AL_seq ?_
 refine rg0 [1, 2, 9] [24] (fun K hK => by simp (decide := true) only [go_sem, Nat.reduceAdd, Nat.reduceMul]; exact hK) ?_
 rcases ite_orp h with ⟨c1, h⟩ | ⟨c1, h⟩
 ·
  refine AL_then (by simp (decide := true) only [go_sem, Nat.reduceAdd, Nat.reduceMul, c1]) ?_
  refine AL_seq ?_
  refine rg0 [4] [] (fun K hK => by simp (decide := true) only [go_sem, Nat.reduceAdd, Nat.reduceMul, c1]; exact hK) ?_
  obtain rfl := Option.some.inj h
  refine AL_ret (fun _ => rfl) ?_
  exact retF_mk rfl (by exact ⟨trivial, trivial⟩) rfl (by exact rfl) (by exact trivial) (by exact trivial)
 ·
  refine AL_else (by simp (decide := true) only [go_sem, Nat.reduceAdd, Nat.reduceMul, c1]) ?_
  refine AL_skip ?_
  refine AL_seq ?_
  refine AL_seq ?_
  refine rg0 [2, 10, 11, 12] [24] (fun K hK => by simp (decide := true) only [go_sem, Nat.reduceAdd, Nat.reduceMul, c1]; exact hK) ?_
  refine AL_block ?_
  refine AL_loop (n := k) (fun n S => (∃ x10 x11 x12 x399000 x399001 x399002, n ≤ k ∧ impl_areHoles.l0 n x10 x11 x12 x399000 x399001 x399002 = some r ∧ At [(2, .ptr 24 0 0), (10, .sl false 5 (mp mkS68 x10)), (11, .int .i64 x11), (12, .int .i64 x12)] [(24, some (.box [.int .i64 x399000, .int .i64 x399001, .int .i64 x399002]))] S)) ?_ ?_
  · exact ⟨_, _, _, _, _, _, by omega, h, At_keep [2, 10, 11, 12] [24]⟩
  ·
   intro n S hS
   obtain ⟨x10, x11, x12, x399000, x399001, x399002, hkq2, h, hS⟩ := hS
   rcases n with _ | n3
   · (rw [impl_areHoles.l0] at h; cases h)
   rw [impl_areHoles.l0] at h
   refine AW_at hS ?_
   refine AL_seq ?_
   refine rg0 [2, 10, 11, 12, 13] [24] (fun K hK => by simp (decide := true) only [go_sem, Nat.reduceAdd, Nat.reduceMul]; exact hK) ?_
   refine AL_seq ?_
   rcases ite_orp h with ⟨c4, h⟩ | ⟨c4, h⟩
   ·
    refine AL_then (by simp (decide := true) only [go_sem, Nat.reduceAdd, Nat.reduceMul, c4]) ?_
    refine AL_skip ?_
    refine AL_seq ?_
    refine AL_block ?_
    refine AL_seq ?_
    obtain ⟨c5, h⟩ := ite_lp h
    obtain ⟨c6, h⟩ := ite_lp h
    refine rg0 [2, 6, 10, 11, 12] [24, 56] (fun K hK => by simp (decide := true) only [go_sem, Nat.reduceAdd, Nat.reduceMul, c4, c5, c6]; exact hK) ?_
    refine AL_seq ?_
    rcases ite_orp h with ⟨c7, h⟩ | ⟨c7, h⟩
    ·
     refine rg1 [2, 10, 11, 12, 72] [24] [(3, 19), (11, 27), (16, 32), (24, 40), (29, 45), (37, 53), (42, 58), (47, 63), (52, 68)] (fun K hK => by simp (decide := true) (maxSteps := 4000000) only [go_sem, Nat.reduceAdd, Nat.reduceMul, c4, c5, c6, c7]; exact hK) ?_
     refine AL_then (by simp (decide := true) only [go_sem, Nat.reduceAdd, Nat.reduceMul, c4, c5, c6, c7]) ?_
     refine AL_seq ?_
     refine rg0 [4] [] (fun K hK => by simp (decide := true) only [go_sem, Nat.reduceAdd, Nat.reduceMul, c4, c5, c6, c7]; exact hK) ?_
     obtain rfl := Option.some.inj h
     refine AL_ret (fun _ => rfl) ?_
     exact retF_mk rfl (by exact ⟨trivial, trivial⟩) rfl (by exact rfl) (by exact trivial) (by exact trivial)
    ·
     rcases ite_orp h with ⟨c8, h⟩ | ⟨c8, h⟩
     ·
      refine rg1 [2, 10, 11, 12, 72] [24] [(3, 19), (11, 27), (16, 32), (24, 40), (29, 45), (37, 53), (42, 58), (47, 63), (52, 68)] (fun K hK => by simp (decide := true) (maxSteps := 4000000) only [go_sem, Nat.reduceAdd, Nat.reduceMul, c4, c5, c6, c7, c8]; exact hK) ?_
      refine AL_then (by simp (decide := true) only [go_sem, Nat.reduceAdd, Nat.reduceMul, c4, c5, c6, c7, c8]) ?_
      refine AL_seq ?_
      refine rg0 [4] [] (fun K hK => by simp (decide := true) only [go_sem, Nat.reduceAdd, Nat.reduceMul, c4, c5, c6, c7, c8]; exact hK) ?_
      obtain rfl := Option.some.inj h
      refine AL_ret (fun _ => rfl) ?_
      exact retF_mk rfl (by exact ⟨trivial, trivial⟩) rfl (by exact rfl) (by exact trivial) (by exact trivial)
     ·
      rcases ite_orp h with ⟨c9, h⟩ | ⟨c9, h⟩
      ·
       refine rg1 [2, 10, 11, 12, 72] [24] [(3, 19), (11, 27), (16, 32), (24, 40), (29, 45), (37, 53), (42, 58), (47, 63), (52, 68)] (fun K hK => by simp (decide := true) (maxSteps := 4000000) only [go_sem, Nat.reduceAdd, Nat.reduceMul, c4, c5, c6, c7, c8, c9]; exact hK) ?_
       refine AL_then (by simp (decide := true) only [go_sem, Nat.reduceAdd, Nat.reduceMul, c4, c5, c6, c7, c8, c9]) ?_
       refine AL_seq ?_
       refine rg0 [4] [] (fun K hK => by simp (decide := true) only [go_sem, Nat.reduceAdd, Nat.reduceMul, c4, c5, c6, c7, c8, c9]; exact hK) ?_
       obtain rfl := Option.some.inj h
       refine AL_ret (fun _ => rfl) ?_
       exact retF_mk rfl (by exact ⟨trivial, trivial⟩) rfl (by exact rfl) (by exact trivial) (by exact trivial)
      ·
       rcases ite_orp h with ⟨c10, h⟩ | ⟨c10, h⟩
       ·
        refine rg1 [2, 10, 11, 12, 72] [24] [(3, 19), (11, 27), (16, 32), (24, 40), (29, 45), (37, 53), (42, 58), (47, 63), (52, 68)] (fun K hK => by simp (decide := true) (maxSteps := 4000000) only [go_sem, Nat.reduceAdd, Nat.reduceMul, c4, c5, c6, c7, c8, c9, c10]; exact hK) ?_
        refine AL_then (by simp (decide := true) only [go_sem, Nat.reduceAdd, Nat.reduceMul, c4, c5, c6, c7, c8, c9, c10]) ?_
        refine AL_seq ?_
        refine rg0 [4] [] (fun K hK => by simp (decide := true) only [go_sem, Nat.reduceAdd, Nat.reduceMul, c4, c5, c6, c7, c8, c9, c10]; exact hK) ?_
        obtain rfl := Option.some.inj h
        refine AL_ret (fun _ => rfl) ?_
        exact retF_mk rfl (by exact ⟨trivial, trivial⟩) rfl (by exact rfl) (by exact trivial) (by exact trivial)
       ·
        rcases ite_orp h with ⟨c11, h⟩ | ⟨c11, h⟩
        ·
         refine rg1 [2, 10, 11, 12, 72] [24] [(3, 19), (11, 27), (16, 32), (24, 40), (29, 45), (37, 53), (42, 58), (47, 63), (52, 68)] (fun K hK => by simp (decide := true) (maxSteps := 4000000) only [go_sem, Nat.reduceAdd, Nat.reduceMul, c4, c5, c6, c7, c8, c9, c10, c11]; exact hK) ?_
         refine AL_then (by simp (decide := true) only [go_sem, Nat.reduceAdd, Nat.reduceMul, c4, c5, c6, c7, c8, c9, c10, c11]) ?_
         refine AL_seq ?_
         refine rg0 [4] [] (fun K hK => by simp (decide := true) only [go_sem, Nat.reduceAdd, Nat.reduceMul, c4, c5, c6, c7, c8, c9, c10, c11]; exact hK) ?_
         obtain rfl := Option.some.inj h
         refine AL_ret (fun _ => rfl) ?_
         exact retF_mk rfl (by exact ⟨trivial, trivial⟩) rfl (by exact rfl) (by exact trivial) (by exact trivial)
        ·
         rcases ite_orp h with ⟨c12, h⟩ | ⟨c12, h⟩
         ·
          refine rg1 [2, 10, 11, 12, 72] [24] [(3, 19), (11, 27), (16, 32), (24, 40), (29, 45), (37, 53), (42, 58), (47, 63), (52, 68)] (fun K hK => by simp (decide := true) (maxSteps := 4000000) only [go_sem, Nat.reduceAdd, Nat.reduceMul, c4, c5, c6, c7, c8, c9, c10, c11, c12]; exact hK) ?_
          refine AL_then (by simp (decide := true) only [go_sem, Nat.reduceAdd, Nat.reduceMul, c4, c5, c6, c7, c8, c9, c10, c11, c12]) ?_
          refine AL_seq ?_
          refine rg0 [4] [] (fun K hK => by simp (decide := true) only [go_sem, Nat.reduceAdd, Nat.reduceMul, c4, c5, c6, c7, c8, c9, c10, c11, c12]; exact hK) ?_
          obtain rfl := Option.some.inj h
          refine AL_ret (fun _ => rfl) ?_
          exact retF_mk rfl (by exact ⟨trivial, trivial⟩) rfl (by exact rfl) (by exact trivial) (by exact trivial)
         ·
          rcases ite_orp h with ⟨c13, h⟩ | ⟨c13, h⟩
          ·
           refine rg1 [2, 10, 11, 12, 72] [24] [(3, 19), (11, 27), (16, 32), (24, 40), (29, 45), (37, 53), (42, 58), (47, 63), (52, 68)] (fun K hK => by simp (decide := true) (maxSteps := 4000000) only [go_sem, Nat.reduceAdd, Nat.reduceMul, c4, c5, c6, c7, c8, c9, c10, c11, c12, c13]; exact hK) ?_
           refine AL_then (by simp (decide := true) only [go_sem, Nat.reduceAdd, Nat.reduceMul, c4, c5, c6, c7, c8, c9, c10, c11, c12, c13]) ?_
           refine AL_seq ?_
           refine rg0 [4] [] (fun K hK => by simp (decide := true) only [go_sem, Nat.reduceAdd, Nat.reduceMul, c4, c5, c6, c7, c8, c9, c10, c11, c12, c13]; exact hK) ?_
           obtain rfl := Option.some.inj h
           refine AL_ret (fun _ => rfl) ?_
           exact retF_mk rfl (by exact ⟨trivial, trivial⟩) rfl (by exact rfl) (by exact trivial) (by exact trivial)
          ·
           rcases ite_orp h with ⟨c14, h⟩ | ⟨c14, h⟩
           ·
            refine rg1 [2, 10, 11, 12, 72] [24] [(3, 19), (11, 27), (16, 32), (24, 40), (29, 45), (37, 53), (42, 58), (47, 63), (52, 68)] (fun K hK => by simp (decide := true) (maxSteps := 4000000) only [go_sem, Nat.reduceAdd, Nat.reduceMul, c4, c5, c6, c7, c8, c9, c10, c11, c12, c13, c14]; exact hK) ?_
            refine AL_then (by simp (decide := true) only [go_sem, Nat.reduceAdd, Nat.reduceMul, c4, c5, c6, c7, c8, c9, c10, c11, c12, c13, c14]) ?_
            refine AL_seq ?_
            refine rg0 [4] [] (fun K hK => by simp (decide := true) only [go_sem, Nat.reduceAdd, Nat.reduceMul, c4, c5, c6, c7, c8, c9, c10, c11, c12, c13, c14]; exact hK) ?_
            obtain rfl := Option.some.inj h
            refine AL_ret (fun _ => rfl) ?_
            exact retF_mk rfl (by exact ⟨trivial, trivial⟩) rfl (by exact rfl) (by exact trivial) (by exact trivial)
           ·
            rcases ite_orp h with ⟨c15, h⟩ | ⟨c15, h⟩
            ·
             refine rg1 [2, 10, 11, 12, 72] [24] [(3, 19), (11, 27), (16, 32), (24, 40), (29, 45), (37, 53), (42, 58), (47, 63), (52, 68)] (fun K hK => by simp (decide := true) (maxSteps := 4000000) only [go_sem, Nat.reduceAdd, Nat.reduceMul, c4, c5, c6, c7, c8, c9, c10, c11, c12, c13, c14, c15]; exact hK) ?_
             refine AL_then (by simp (decide := true) only [go_sem, Nat.reduceAdd, Nat.reduceMul, c4, c5, c6, c7, c8, c9, c10, c11, c12, c13, c14, c15]) ?_
             refine AL_seq ?_
             refine rg0 [4] [] (fun K hK => by simp (decide := true) only [go_sem, Nat.reduceAdd, Nat.reduceMul, c4, c5, c6, c7, c8, c9, c10, c11, c12, c13, c14, c15]; exact hK) ?_
             obtain rfl := Option.some.inj h
             refine AL_ret (fun _ => rfl) ?_
             exact retF_mk rfl (by exact ⟨trivial, trivial⟩) rfl (by exact rfl) (by exact trivial) (by exact trivial)
            ·
             refine rg1 [2, 10, 11, 12, 72] [24] [(3, 19), (11, 27), (16, 32), (24, 40), (29, 45), (37, 53), (42, 58), (47, 63), (52, 68)] (fun K hK => by simp (decide := true) (maxSteps := 4000000) only [go_sem, Nat.reduceAdd, Nat.reduceMul, c4, c5, c6, c7, c8, c9, c10, c11, c12, c13, c14, c15]; exact hK) ?_
             rcases ite_orp h with ⟨c16, h⟩ | ⟨c16, h⟩
             ·
              refine AL_then (by simp (decide := true) only [go_sem, Nat.reduceAdd, Nat.reduceMul, c4, c5, c6, c7, c8, c9, c10, c11, c12, c13, c14, c15, c16]) ?_
              refine AL_seq ?_
              refine rg0 [4] [] (fun K hK => by simp (decide := true) only [go_sem, Nat.reduceAdd, Nat.reduceMul, c4, c5, c6, c7, c8, c9, c10, c11, c12, c13, c14, c15, c16]; exact hK) ?_
              obtain rfl := Option.some.inj h
              refine AL_ret (fun _ => rfl) ?_
              exact retF_mk rfl (by exact ⟨trivial, trivial⟩) rfl (by exact rfl) (by exact trivial) (by exact trivial)
             ·
              refine AL_else (by simp (decide := true) only [go_sem, Nat.reduceAdd, Nat.reduceMul, c4, c5, c6, c7, c8, c9, c10, c11, c12, c13, c14, c15, c16]) ?_
              refine AL_skip ?_
              refine blockQ_n ?_
              refine rg0 [2, 10, 11, 12] [24] (fun K hK => by simp (decide := true) only [go_sem, Nat.reduceAdd, Nat.reduceMul, c4, c5, c6, c7, c8, c9, c10, c11, c12, c13, c14, c15, c16]; exact hK) ?_
              refine AL_again (m := n3) (by omega) ?_
              exact ⟨_, _, _, _, _, _, by omega, h, At_keep [2, 10, 11, 12] [24]⟩
   ·
    refine AL_else (by simp (decide := true) only [go_sem, Nat.reduceAdd, Nat.reduceMul, c4]) ?_
    refine AL_exit ?_
    repeat first | refine thenQ_x ?_ | refine blockQ_miss (by decide) ?_
    refine blockQ_hit ?_
    refine AL_seq ?_
    refine rg0 [4] [] (fun K hK => by simp (decide := true) only [go_sem, Nat.reduceAdd, Nat.reduceMul, c4]; exact hK) ?_
    obtain rfl := Option.some.inj h
    refine AL_ret (fun _ => rfl) ?_
    exact retF_mk rfl (by exact ⟨trivial, trivial⟩) rfl (by exact rfl) (by exact trivial) (by exact trivial)
/-! impl_abs : 108 -/
set_option maxRecDepth 100000 in
set_option maxHeartbeats 4000000 in
theorem impl_abs.V {a0 : Int} {r : Int} (h : impl_abs.f a0 = some r) : FnV E 108 [.int .i64 a0] none (.int .i64 r) [] none := by
 refine FnV_list E (rs := [.tmp 2]) Try.func108 (by rfl) rfl Try.ntmps108 rfl [] (by simp) rfl (by simp) rfl (fun us => ?_)
 simp only [argsL, memL, wrapL, wrap1, Nat.reduceAdd]
 unfold impl_abs.f at h
 refine AL_seq ?_
 refine rg0 [0] [] (fun K hK => by simp (decide := true) only [go_sem, Nat.reduceAdd, Nat.reduceMul]; exact hK) ?_
 refine AL_seq ?_
 refine rg0 [2] [] (fun K hK => by simp (decide := true) only [go_sem, Nat.reduceAdd, Nat.reduceMul]; exact hK) ?_
 obtain rfl := Option.some.inj h
 refine AL_ret (fun _ => rfl) ?_
 exact retF_mk rfl (by exact ⟨trivial, trivial⟩) rfl (by exact rfl) (by exact trivial) (by exact trivial)
/-! impl_lowest : 100 -/
set_option maxRecDepth 100000 in
set_option maxHeartbeats 4000000 in
theorem impl_lowest.V {k : Nat} {a0 : Int} {a1 : Int} {r1 : Int} {r2 : Int} (h : impl_lowest.f k a0 a1 = some (r1, r2)) : FnV E 100 [.int .i64 a0, .int .i64 a1] none (.tup [.int .i64 r1, .int .i64 r2]) [] none := by
 refine FnV_list E (rs := [.tmp 4, .tmp 5]) Try.func100 (by rfl) rfl Try.ntmps100 rfl [] (by simp) rfl (by simp) rfl (fun us => ?_)
 simp only [argsL, memL, wrapL, wrap1, Nat.reduceAdd]
 unfold impl_lowest.f at h
 refine AL_seq ?_
 refine rg0 [0, 1] [] (fun K hK => by simp (decide := true) only [go_sem, Nat.reduceAdd, Nat.reduceMul]; exact hK) ?_
 refine AL_seq ?_
 obtain ⟨t401, g1, h⟩ := bind_or h
 refine rg0 [0, 1, 6, 7] [] (fun K hK => by simp (decide := true) only [go_sem, Nat.reduceAdd, Nat.reduceMul]; refine ⟨_, _, _, impl_abs.V g1, ?_⟩; simp (decide := true) only [go_sem, Nat.reduceAdd, Nat.reduceMul]; exact hK) ?_
 refine AL_seq ?_
 refine AL_block ?_
 refine AL_loop (n := k) (fun n S => (∃ x0 x1 x6 x7, n ≤ k ∧ impl_lowest.l0 n x0 x1 x6 x7 = some (r1, r2) ∧ At [(0, .int .i64 x0), (1, .int .i64 x1), (6, .int .i64 x6), (7, .int .i64 x7)] [] S)) ?_ ?_
 · exact ⟨_, _, _, _, by omega, h, At_keep [0, 1, 6, 7] []⟩
 ·
  intro n S hS
  obtain ⟨x0, x1, x6, x7, hkq2, h, hS⟩ := hS
  rcases n with _ | n3
  · (rw [impl_lowest.l0] at h; cases h)
  rw [impl_lowest.l0] at h
  refine AW_at hS ?_
  refine AL_seq ?_
  refine AL_seq ?_
  refine rg0 [0, 1, 6, 7, 12] [] (fun K hK => by simp (decide := true) only [go_sem, Nat.reduceAdd, Nat.reduceMul]; exact hK) ?_
  rcases ite_orp h with ⟨c4, h⟩ | ⟨c4, h⟩
  ·
   refine AL_else (by simp (decide := true) only [go_sem, Nat.reduceAdd, Nat.reduceMul, c4]) ?_
   refine AL_exit ?_
   repeat first | refine thenQ_x ?_ | refine blockQ_miss (by decide) ?_
   refine blockQ_hit ?_
   refine AL_seq ?_
   obtain ⟨c5, h⟩ := ite_rp h
   refine rg0 [4, 5] [] (fun K hK => by simp (decide := true) only [go_sem, Nat.reduceAdd, Nat.reduceMul, c4, c5]; exact hK) ?_
   replace h := Option.some.inj h
   obtain ⟨rfl, rfl⟩ := Prod.mk.inj h
   refine AL_ret (fun _ => rfl) ?_
   exact retF_mk rfl (by exact ⟨trivial, trivial, trivial⟩) rfl (by exact ⟨rfl, rfl, trivial⟩) (by exact trivial) (by exact trivial)
  ·
   refine AL_then (by simp (decide := true) only [go_sem, Nat.reduceAdd, Nat.reduceMul, c4]) ?_
   refine AL_skip ?_
   refine AL_block ?_
   refine rg0 [0, 1, 6, 7] [] (fun K hK => by simp (decide := true) only [go_sem, Nat.reduceAdd, Nat.reduceMul, c4]; exact hK) ?_
   refine blockQ_n ?_
   refine AL_again (m := n3) (by omega) ?_
   exact ⟨_, _, _, _, by omega, h, At_keep [0, 1, 6, 7] []⟩
/-! impl_blockAt : 188 -/
set_option maxRecDepth 100000 in
set_option maxHeartbeats 4000000 in
theorem impl_blockAt.V {a0_0 : Int} {a0_1 : Int} {a0_2 : Int} {a1 : Int} {a2 : Int} {a3 : Int} {r : Int} (h : impl_blockAt.f a0_0 a0_1 a0_2 a1 a2 a3 = some r) : FnV E 188 [.agg [.int .i64 a0_0, .int .i64 a0_1, .int .i64 a0_2], .int .i64 a1, .int .i64 a2, .int .i64 a3] none (.int .i64 r) [] none := by
 refine FnV_list E (rs := [.tmp 8]) Try.func188 (by rfl) rfl Try.ntmps188 rfl [] (by simp) rfl (by simp) rfl (fun us => ?_)
 simp only [argsL, memL, wrapL, wrap1, Nat.reduceAdd]
 unfold impl_blockAt.f at h
 refine AL_seq ?_
 refine rg0 [1, 2, 3, 4] [40] (fun K hK => by simp (decide := true) only [go_sem, Nat.reduceAdd, Nat.reduceMul]; exact hK) ?_
 refine AL_seq ?_
 refine rg0 [8] [] (fun K hK => by simp (decide := true) (maxSteps := 4000000) only [go_sem, Nat.reduceAdd, Nat.reduceMul]; exact hK) ?_
 obtain rfl := Option.some.inj h
 refine AL_ret (fun _ => rfl) ?_
 exact retF_mk rfl (by exact ⟨trivial, trivial⟩) rfl (by exact rfl) (by exact trivial) (by exact trivial)
/-! impl_blockOfHole : 129 -/
set_option maxRecDepth 100000 in
set_option maxHeartbeats 4000000 in
theorem impl_blockOfHole.V {a0_0 : Int} {a0_1 : Int} {a0_2 : Int} {a1_0 : Int} {a1_1 : Int} {a1_2 : Int} {a1_3 : Int} {a1_4 : Int} {r : Int} (h : impl_blockOfHole.f a0_0 a0_1 a0_2 a1_0 a1_1 a1_2 a1_3 a1_4 = some r) : FnV E 129 [.agg [.int .i64 a0_0, .int .i64 a0_1, .int .i64 a0_2], .agg [.int .i64 a1_0, .int .i64 a1_1, .int .i64 a1_2, .int .i64 a1_3, .int .i64 a1_4]] none (.int .i64 r) [] none := by
 refine FnV_list E (rs := [.tmp 4]) Try.func129 (by rfl) rfl Try.ntmps129 rfl [] (by simp) rfl (by simp) rfl (fun us => ?_)
 simp only [argsL, memL, wrapL, wrap1, Nat.reduceAdd]
 unfold impl_blockOfHole.f at h
 refine AL_seq ?_
 refine rg0 [2, 3] [24, 32] (fun K hK => by simp (decide := true) only [go_sem, Nat.reduceAdd, Nat.reduceMul]; exact hK) ?_
 refine AL_seq ?_
 obtain ⟨t405, g1, h⟩ := bind_or h
 refine rg0 [4] [] (fun K hK => by simp (decide := true) (maxSteps := 4000000) only [go_sem, Nat.reduceAdd, Nat.reduceMul]; refine ⟨_, _, _, impl_blockAt.V g1, ?_⟩; simp (decide := true) (maxSteps := 4000000) only [go_sem, Nat.reduceAdd, Nat.reduceMul]; exact hK) ?_
 obtain rfl := Option.some.inj h
 refine AL_ret (fun _ => rfl) ?_
 exact retF_mk rfl (by exact ⟨trivial, trivial⟩) rfl (by exact rfl) (by exact trivial) (by exact trivial)
/-! impl_placeOf : 143 -/
set_option maxRecDepth 100000 in
set_option maxHeartbeats 4000000 in
theorem impl_placeOf.V {a0_0 : Int} {a0_1 : Int} {a0_2 : Int} {a1 : Int} {r1 : Int} {r2 : Int} {r3 : Int} (h : impl_placeOf.f a0_0 a0_1 a0_2 a1 = some (r1, r2, r3)) : FnV E 143 [.agg [.int .i64 a0_0, .int .i64 a0_1, .int .i64 a0_2], .int .i64 a1] none (.tup [.int .i64 r1, .int .i64 r2, .int .i64 r3]) [] none := by
 refine FnV_list E (rs := [.tmp 4, .tmp 5, .tmp 6]) Try.func143 (by rfl) rfl Try.ntmps143 rfl [] (by simp) rfl (by simp) rfl (fun us => ?_)
 simp only [argsL, memL, wrapL, wrap1, Nat.reduceAdd]
 unfold impl_placeOf.f at h
 refine AL_seq ?_
 refine rg0 [1, 2] [24] (fun K hK => by simp (decide := true) only [go_sem, Nat.reduceAdd, Nat.reduceMul]; exact hK) ?_
 refine AL_seq ?_
 obtain ⟨c1, h⟩ := ite_rp h
 obtain ⟨c2, h⟩ := ite_rp h
 refine rg0 [4, 5, 6] [] (fun K hK => by simp (decide := true) (maxSteps := 4000000) only [go_sem, Nat.reduceAdd, Nat.reduceMul, c1, c2]; exact hK) ?_
 replace h := Option.some.inj h
 obtain ⟨rfl, h1⟩ := Prod.mk.inj h
 obtain ⟨rfl, rfl⟩ := Prod.mk.inj h1
 refine AL_ret (fun _ => rfl) ?_
 exact retF_mk rfl (by exact ⟨trivial, trivial, trivial, trivial⟩) rfl (by exact ⟨rfl, rfl, rfl, trivial⟩) (by exact trivial) (by exact trivial)
/-! impl_stepsBetween : 191 -/
set_option maxRecDepth 100000 in
set_option maxHeartbeats 4000000 in
theorem impl_stepsBetween.V {a0_0 : Int} {a0_1 : Int} {a0_2 : Int} {a1 : Int} {a2 : Int} {r : Int} (h : impl_stepsBetween.f a0_0 a0_1 a0_2 a1 a2 = some r) : FnV E 191 [.agg [.int .i64 a0_0, .int .i64 a0_1, .int .i64 a0_2], .int .i64 a1, .int .i64 a2] none (.int .i64 r) [] none := by
 refine FnV_list E (rs := [.tmp 6]) Try.func191 (by rfl) rfl Try.ntmps191 rfl [] (by simp) rfl (by simp) rfl (fun us => ?_)
 simp only [argsL, memL, wrapL, wrap1, Nat.reduceAdd]
 unfold impl_stepsBetween.f at h
 refine AL_seq ?_
 refine rg0 [1, 2, 3] [32] (fun K hK => by simp (decide := true) only [go_sem, Nat.reduceAdd, Nat.reduceMul]; exact hK) ?_
 refine AL_seq ?_
 obtain ⟨⟨t408, t409, t410⟩, g1, h⟩ := bind_or h
 dsimp only at h
 refine rg0 [2, 3, 7, 8, 9] [32] (fun K hK => by simp (decide := true) only [go_sem, Nat.reduceAdd, Nat.reduceMul]; refine ⟨_, _, _, impl_placeOf.V g1, ?_⟩; simp (decide := true) only [go_sem, Nat.reduceAdd, Nat.reduceMul]; exact hK) ?_
 refine AL_seq ?_
 obtain ⟨⟨t411, t412, t413⟩, g2, h⟩ := bind_or h
 dsimp only at h
 refine rg0 [7, 8, 9, 10, 11, 12] [] (fun K hK => by simp (decide := true) only [go_sem, Nat.reduceAdd, Nat.reduceMul]; refine ⟨_, _, _, impl_placeOf.V g2, ?_⟩; simp (decide := true) only [go_sem, Nat.reduceAdd, Nat.reduceMul]; exact hK) ?_
 refine AL_seq ?_
 obtain ⟨t414, g3, h⟩ := bind_or h
 obtain ⟨t415, g4, h⟩ := bind_or h
 obtain ⟨t416, g5, h⟩ := bind_or h
 refine rg0 [6] [] (fun K hK => by simp (decide := true) (maxSteps := 4000000) only [go_sem, Nat.reduceAdd, Nat.reduceMul]; refine ⟨_, _, _, impl_abs.V g3, ?_⟩; simp (decide := true) (maxSteps := 4000000) only [go_sem, Nat.reduceAdd, Nat.reduceMul]; refine ⟨_, _, _, impl_abs.V g4, ?_⟩; simp (decide := true) (maxSteps := 4000000) only [go_sem, Nat.reduceAdd, Nat.reduceMul]; refine ⟨_, _, _, impl_abs.V g5, ?_⟩; simp (decide := true) (maxSteps := 4000000) only [go_sem, Nat.reduceAdd, Nat.reduceMul]; exact hK) ?_
 obtain rfl := Option.some.inj h
 refine AL_ret (fun _ => rfl) ?_
 exact retF_mk rfl (by exact ⟨trivial, trivial⟩) rfl (by exact rfl) (by exact trivial) (by exact trivial)
/-! impl_estimateBlock : 140 -/
set_option maxRecDepth 100000 in
set_option maxHeartbeats 4000000 in
theorem impl_estimateBlock.V {k : Nat} {a0_0 : Int} {a0_1 : Int} {a0_2 : Int} {l1 : List (S68)} {a2 : Int} {a3 : Int} {r1 : Int} {r2 : Int} {r3 : Bool} (h : impl_estimateBlock.f k a0_0 a0_1 a0_2 l1 a2 a3 = some (r1, r2, r3)) : FnV E 140 [.agg [.int .i64 a0_0, .int .i64 a0_1, .int .i64 a0_2], .sl false 5 (mp mkS68 l1), .int .i64 a2, .int .i64 a3] none (.tup [.int .i64 r1, .int .i64 r2, .bool r3]) [] none := by
 refine FnV_list E (rs := [.tmp 8, .tmp 9, .tmp 10]) Try.func140 (by rfl) rfl Try.ntmps140 rfl [] (by simp) rfl (by simp) rfl (fun us => ?_)
 simp only [argsL, memL, wrapL, wrap1, Nat.reduceAdd]
 unfold impl_estimateBlock.f at h
 refine AL_seq ?_
 refine rg0 [1, 2, 3, 4] [40] (fun K hK => by simp (decide := true) only [go_sem, Nat.reduceAdd, Nat.reduceMul]; exact hK) ?_
 refine AL_seq ?_
 refine rg0 [1, 2, 3, 4, 11, 12] [40] (fun K hK => by simp (decide := true) only [go_sem, Nat.reduceAdd, Nat.reduceMul]; exact hK) ?_
 refine AL_seq ?_
 refine AL_seq ?_
 refine rg0 [2, 3, 4, 11, 12, 16, 17, 18] [40] (fun K hK => by simp (decide := true) only [go_sem, Nat.reduceAdd, Nat.reduceMul]; exact hK) ?_
 refine AL_block ?_
 refine AL_loop (n := k) (fun n S => (∃ x2 x3 x11 x12 x16 x17 x18 x418000 x418001 x418002, n ≤ k ∧ impl_estimateBlock.l0 n x2 x3 x11 x12 x16 x17 x18 x418000 x418001 x418002 = some (r1, r2, r3) ∧ At [(2, .int .i64 x2), (3, .int .i64 x3), (4, .ptr 40 0 0), (11, .int .i64 x11), (12, .int .i64 x12), (16, .sl false 5 (mp mkS68 x16)), (17, .int .i64 x17), (18, .int .i64 x18)] [(40, some (.box [.int .i64 x418000, .int .i64 x418001, .int .i64 x418002]))] S)) ?_ ?_
 · exact ⟨_, _, _, _, _, _, _, _, _, _, by omega, h, At_keep [2, 3, 4, 11, 12, 16, 17, 18] [40]⟩
 ·
  intro n S hS
  obtain ⟨x2, x3, x11, x12, x16, x17, x18, x418000, x418001, x418002, hkq1, h, hS⟩ := hS
  rcases n with _ | n2
  · (rw [impl_estimateBlock.l0] at h; cases h)
  rw [impl_estimateBlock.l0] at h
  refine AW_at hS ?_
  refine AL_seq ?_
  refine rg0 [2, 3, 4, 11, 12, 16, 17, 18, 19] [40] (fun K hK => by simp (decide := true) only [go_sem, Nat.reduceAdd, Nat.reduceMul]; exact hK) ?_
  refine AL_seq ?_
  rcases ite_orp h with ⟨c3, h⟩ | ⟨c3, h⟩
  ·
   refine AL_then (by simp (decide := true) only [go_sem, Nat.reduceAdd, Nat.reduceMul, c3]) ?_
   refine AL_skip ?_
   refine AL_seq ?_
   refine AL_block ?_
   refine AL_seq ?_
   obtain ⟨c4, h⟩ := ite_lp h
   obtain ⟨c5, h⟩ := ite_lp h
   refine rg0 [2, 3, 4, 11, 12, 14, 16, 17, 18] [40, 120] (fun K hK => by simp (decide := true) only [go_sem, Nat.reduceAdd, Nat.reduceMul, c3, c4, c5]; exact hK) ?_
   refine AL_seq ?_
   obtain ⟨t422, g6, h⟩ := bind_or h
   obtain ⟨t423, g7, h⟩ := bind_or h
   refine rg0 [2, 3, 4, 11, 12, 14, 15, 16, 17, 18] [40, 120] (fun K hK => by simp (decide := true) only [go_sem, Nat.reduceAdd, Nat.reduceMul, c3, c4, c5]; refine ⟨_, _, _, impl_blockOfHole.V g6, ?_⟩; simp (decide := true) only [go_sem, Nat.reduceAdd, Nat.reduceMul, c3, c4, c5]; refine ⟨_, _, _, impl_stepsBetween.V g7, ?_⟩; simp (decide := true) only [go_sem, Nat.reduceAdd, Nat.reduceMul, c3, c4, c5]; exact hK) ?_
   refine AL_seq ?_
   refine rg0 [2, 3, 4, 11, 12, 14, 15, 16, 17, 18, 30] [40, 120] (fun K hK => by simp (decide := true) only [go_sem, Nat.reduceAdd, Nat.reduceMul, c3, c4, c5]; exact hK) ?_
   rcases ite_orp h with ⟨c8, h⟩ | ⟨c8, h⟩
   ·
    refine AL_then (by simp (decide := true) only [go_sem, Nat.reduceAdd, Nat.reduceMul, c3, c4, c5, c8]) ?_
    refine AL_seq ?_
    obtain ⟨c9, h⟩ := ite_rp h
    refine rg0 [2, 3, 4, 11, 12, 15, 16, 17, 18] [40] (fun K hK => by simp (decide := true) only [go_sem, Nat.reduceAdd, Nat.reduceMul, c3, c4, c5, c8, c9]; exact hK) ?_
    refine rg0 [2, 3, 4, 11, 12, 16, 17, 18] [40] (fun K hK => by simp (decide := true) only [go_sem, Nat.reduceAdd, Nat.reduceMul, c3, c4, c5, c8, c9]; exact hK) ?_
    refine blockQ_n ?_
    refine rg0 [2, 3, 4, 11, 12, 16, 17, 18] [40] (fun K hK => by simp (decide := true) only [go_sem, Nat.reduceAdd, Nat.reduceMul, c3, c4, c5, c8, c9]; exact hK) ?_
    refine AL_again (m := n2) (by omega) ?_
    exact ⟨_, _, _, _, _, _, _, _, _, _, by omega, h, At_keep [2, 3, 4, 11, 12, 16, 17, 18] [40]⟩
   ·
    refine AL_else (by simp (decide := true) only [go_sem, Nat.reduceAdd, Nat.reduceMul, c3, c4, c5, c8]) ?_
    refine AL_skip ?_
    refine blockQ_n ?_
    refine rg0 [2, 3, 4, 11, 12, 16, 17, 18] [40] (fun K hK => by simp (decide := true) only [go_sem, Nat.reduceAdd, Nat.reduceMul, c3, c4, c5, c8]; exact hK) ?_
    refine AL_again (m := n2) (by omega) ?_
    exact ⟨_, _, _, _, _, _, _, _, _, _, by omega, h, At_keep [2, 3, 4, 11, 12, 16, 17, 18] [40]⟩
  ·
   refine AL_else (by simp (decide := true) only [go_sem, Nat.reduceAdd, Nat.reduceMul, c3]) ?_
   refine AL_exit ?_
   repeat first | refine thenQ_x ?_ | refine blockQ_miss (by decide) ?_
   refine blockQ_hit ?_
   refine AL_seq ?_
   refine AL_seq ?_
   refine rg0 [11, 12, 46] [] (fun K hK => by simp (decide := true) only [go_sem, Nat.reduceAdd, Nat.reduceMul, c3]; exact hK) ?_
   rcases ite_orp h with ⟨c10, h⟩ | ⟨c10, h⟩
   ·
    refine AL_then (by simp (decide := true) only [go_sem, Nat.reduceAdd, Nat.reduceMul, c3, c10]) ?_
    refine AL_seq ?_
    refine rg0 [8, 9, 10] [] (fun K hK => by simp (decide := true) only [go_sem, Nat.reduceAdd, Nat.reduceMul, c3, c10]; exact hK) ?_
    replace h := Option.some.inj h
    obtain ⟨rfl, h1⟩ := Prod.mk.inj h
    obtain ⟨rfl, rfl⟩ := Prod.mk.inj h1
    refine AL_ret (fun _ => rfl) ?_
    exact retF_mk rfl (by exact ⟨trivial, trivial, trivial, trivial⟩) rfl (by exact ⟨rfl, rfl, rfl, trivial⟩) (by exact trivial) (by exact trivial)
   ·
    refine AL_else (by simp (decide := true) only [go_sem, Nat.reduceAdd, Nat.reduceMul, c3, c10]) ?_
    refine AL_skip ?_
    refine AL_seq ?_
    obtain ⟨⟨t418, t419⟩, g11, h⟩ := bind_or h
    dsimp only at h
    refine rg0 [11, 12] [] (fun K hK => by simp (decide := true) only [go_sem, Nat.reduceAdd, Nat.reduceMul, c3, c10]; refine ⟨_, _, _, impl_lowest.V g11, ?_⟩; simp (decide := true) only [go_sem, Nat.reduceAdd, Nat.reduceMul, c3, c10]; exact hK) ?_
    refine AL_seq ?_
    refine rg0 [8, 9, 10] [] (fun K hK => by simp (decide := true) only [go_sem, Nat.reduceAdd, Nat.reduceMul, c3, c10]; exact hK) ?_
    replace h := Option.some.inj h
    obtain ⟨rfl, h1⟩ := Prod.mk.inj h
    obtain ⟨rfl, rfl⟩ := Prod.mk.inj h1
    refine AL_ret (fun _ => rfl) ?_
    exact retF_mk rfl (by exact ⟨trivial, trivial, trivial, trivial⟩) rfl (by exact ⟨rfl, rfl, rfl, trivial⟩) (by exact trivial) (by exact trivial)
/-! impl_EstimateBlock : 57 -/
set_option maxRecDepth 100000 in
set_option maxHeartbeats 4000000 in
theorem impl_EstimateBlock.V {k : Nat} {a0_0 : Int} {a0_1 : Int} {a0_2 : Int} {l1 : List (S68)} {a2 : Int} {a3 : Int} {r1 : Int} {r2 : Int} {r3 : Bool} (h : impl_EstimateBlock.f k a0_0 a0_1 a0_2 l1 a2 a3 = some (r1, r2, r3)) : FnV E 57 [.agg [.int .i64 a0_0, .int .i64 a0_1, .int .i64 a0_2], .sl false 5 (mp mkS68 l1), .int .i64 a2, .int .i64 a3] none (.tup [.int .i64 r1, .int .i64 r2, .bool r3]) [] none := by
 refine FnV_list E (rs := [.tmp 8, .tmp 9, .tmp 10]) Try.func57 (by rfl) rfl Try.ntmps57 rfl [] (by simp) rfl (by simp) rfl (fun us => ?_)
 simp only [argsL, memL, wrapL, wrap1, Nat.reduceAdd]
 unfold impl_EstimateBlock.f at h
 refine AL_seq ?_
 refine rg0 [1, 2, 3, 4] [40] (fun K hK => by simp (decide := true) only [go_sem, Nat.reduceAdd, Nat.reduceMul]; exact hK) ?_
 refine AL_seq ?_
 refine AL_seq ?_
 obtain ⟨t425, g1, h⟩ := bind_or h
 rcases ite_orb h with ⟨c2, h⟩ | ⟨c2, h⟩
 ·
  obtain ⟨t426, g3, h⟩ := bind_or h
  rcases ite_orb h with ⟨c4, h⟩ | ⟨c4, h⟩
  ·
   rcases ite_orp h with ⟨c5, h⟩ | ⟨c5, h⟩
   ·
    refine rg1 [1, 2, 3, 4, 28] [40] [(4, 15), (10, 21), (14, 25)] (fun K hK => by simp (decide := true) (maxSteps := 4000000) only [go_sem, Nat.reduceAdd, Nat.reduceMul, c2, c4, c5]; refine ⟨_, _, _, impl_hasBlock.V g1, ?_⟩; simp (decide := true) (maxSteps := 4000000) only [go_sem, Nat.reduceAdd, Nat.reduceMul, c2, c4, c5]; refine ⟨_, _, _, impl_areHoles.V g3, ?_⟩; simp (decide := true) (maxSteps := 4000000) only [go_sem, Nat.reduceAdd, Nat.reduceMul, c2, c4, c5]; exact hK) ?_
    refine AL_then (by simp (decide := true) only [go_sem, Nat.reduceAdd, Nat.reduceMul, c2, c4, c5]) ?_
    refine AL_seq ?_
    refine rg0 [8, 9, 10] [] (fun K hK => by simp (decide := true) only [go_sem, Nat.reduceAdd, Nat.reduceMul, c2, c4, c5]; exact hK) ?_
    replace h := Option.some.inj h
    obtain ⟨rfl, h1⟩ := Prod.mk.inj h
    obtain ⟨rfl, rfl⟩ := Prod.mk.inj h1
    refine AL_ret (fun _ => rfl) ?_
    exact retF_mk rfl (by exact ⟨trivial, trivial, trivial, trivial⟩) rfl (by exact ⟨rfl, rfl, rfl, trivial⟩) (by exact trivial) (by exact trivial)
   ·
    refine rg1 [1, 2, 3, 4, 28] [40] [(4, 15), (10, 21), (14, 25)] (fun K hK => by simp (decide := true) (maxSteps := 4000000) only [go_sem, Nat.reduceAdd, Nat.reduceMul, c2, c4, c5]; refine ⟨_, _, _, impl_hasBlock.V g1, ?_⟩; simp (decide := true) (maxSteps := 4000000) only [go_sem, Nat.reduceAdd, Nat.reduceMul, c2, c4, c5]; refine ⟨_, _, _, impl_areHoles.V g3, ?_⟩; simp (decide := true) (maxSteps := 4000000) only [go_sem, Nat.reduceAdd, Nat.reduceMul, c2, c4, c5]; exact hK) ?_
    rcases ite_orp h with ⟨c6, h⟩ | ⟨c6, h⟩
    ·
     refine AL_then (by simp (decide := true) only [go_sem, Nat.reduceAdd, Nat.reduceMul, c2, c4, c5, c6]) ?_
     refine AL_seq ?_
     refine rg0 [8, 9, 10] [] (fun K hK => by simp (decide := true) only [go_sem, Nat.reduceAdd, Nat.reduceMul, c2, c4, c5, c6]; exact hK) ?_
     replace h := Option.some.inj h
     obtain ⟨rfl, h1⟩ := Prod.mk.inj h
     obtain ⟨rfl, rfl⟩ := Prod.mk.inj h1
     refine AL_ret (fun _ => rfl) ?_
     exact retF_mk rfl (by exact ⟨trivial, trivial, trivial, trivial⟩) rfl (by exact ⟨rfl, rfl, rfl, trivial⟩) (by exact trivial) (by exact trivial)
    ·
     refine AL_else (by simp (decide := true) only [go_sem, Nat.reduceAdd, Nat.reduceMul, c2, c4, c5, c6]) ?_
     refine AL_skip ?_
     refine AL_seq ?_
     obtain ⟨⟨t427, t428, t429⟩, g7, h⟩ := bind_or h
     dsimp only at h
     refine rg0 [8, 9, 10] [] (fun K hK => by simp (decide := true) (maxSteps := 4000000) only [go_sem, Nat.reduceAdd, Nat.reduceMul, c2, c4, c5, c6]; refine ⟨_, _, _, impl_estimateBlock.V g7, ?_⟩; simp (decide := true) (maxSteps := 4000000) only [go_sem, Nat.reduceAdd, Nat.reduceMul, c2, c4, c5, c6]; exact hK) ?_
     replace h := Option.some.inj h
     obtain ⟨rfl, h1⟩ := Prod.mk.inj h
     obtain ⟨rfl, rfl⟩ := Prod.mk.inj h1
     refine AL_ret (fun _ => rfl) ?_
     exact retF_mk rfl (by exact ⟨trivial, trivial, trivial, trivial⟩) rfl (by exact ⟨rfl, rfl, rfl, trivial⟩) (by exact trivial) (by exact trivial)
  ·
   refine rg1 [1, 2, 3, 4, 28] [40] [(4, 15), (10, 21), (14, 25)] (fun K hK => by simp (decide := true) (maxSteps := 4000000) only [go_sem, Nat.reduceAdd, Nat.reduceMul, c2, c4]; refine ⟨_, _, _, impl_hasBlock.V g1, ?_⟩; simp (decide := true) (maxSteps := 4000000) only [go_sem, Nat.reduceAdd, Nat.reduceMul, c2, c4]; refine ⟨_, _, _, impl_areHoles.V g3, ?_⟩; simp (decide := true) (maxSteps := 4000000) only [go_sem, Nat.reduceAdd, Nat.reduceMul, c2, c4]; exact hK) ?_
   refine AL_then (by simp (decide := true) only [go_sem, Nat.reduceAdd, Nat.reduceMul, c2, c4]) ?_
   refine AL_seq ?_
   refine rg0 [8, 9, 10] [] (fun K hK => by simp (decide := true) only [go_sem, Nat.reduceAdd, Nat.reduceMul, c2, c4]; exact hK) ?_
   replace h := Option.some.inj h
   obtain ⟨rfl, h1⟩ := Prod.mk.inj h
   obtain ⟨rfl, rfl⟩ := Prod.mk.inj h1
   refine AL_ret (fun _ => rfl) ?_
   exact retF_mk rfl (by exact ⟨trivial, trivial, trivial, trivial⟩) rfl (by exact ⟨rfl, rfl, rfl, trivial⟩) (by exact trivial) (by exact trivial)
 ·
  refine rg1 [1, 2, 3, 4, 28] [40] [(4, 15), (10, 21), (14, 25)] (fun K hK => by simp (decide := true) (maxSteps := 4000000) only [go_sem, Nat.reduceAdd, Nat.reduceMul, c2]; refine ⟨_, _, _, impl_hasBlock.V g1, ?_⟩; simp (decide := true) (maxSteps := 4000000) only [go_sem, Nat.reduceAdd, Nat.reduceMul, c2]; exact hK) ?_
  refine AL_then (by simp (decide := true) only [go_sem, Nat.reduceAdd, Nat.reduceMul, c2]) ?_
  refine AL_seq ?_
  refine rg0 [8, 9, 10] [] (fun K hK => by simp (decide := true) only [go_sem, Nat.reduceAdd, Nat.reduceMul, c2]; exact hK) ?_
  replace h := Option.some.inj h
  obtain ⟨rfl, h1⟩ := Prod.mk.inj h
  obtain ⟨rfl, rfl⟩ := Prod.mk.inj h1
  refine AL_ret (fun _ => rfl) ?_
  exact retF_mk rfl (by exact ⟨trivial, trivial, trivial, trivial⟩) rfl (by exact ⟨rfl, rfl, rfl, trivial⟩) (by exact trivial) (by exact trivial)
/-! spec_grHas : 187 -/
set_option maxRecDepth 100000 in
set_option maxHeartbeats 4000000 in
theorem spec_grHas.V {a0_0 : Int} {a0_1 : Int} {a0_2 : Int} {a1 : Int} {r : Bool} (h : spec_grHas.f a0_0 a0_1 a0_2 a1 = some r) : FnV E 187 [.agg [.int .i64 a0_0, .int .i64 a0_1, .int .i64 a0_2], .int .i64 a1] none (.bool r) [] none := by
 refine FnV_list E (rs := [.tmp 4]) Try.func187 (by rfl) rfl Try.ntmps187 rfl [] (by simp) rfl (by simp) rfl (fun us => ?_)
 simp only [argsL, memL, wrapL, wrap1, Nat.reduceAdd]
 unfold spec_grHas.f at h
 refine AL_seq ?_
 refine rg0 [1, 2] [24] (fun K hK => by simp (decide := true) only [go_sem, Nat.reduceAdd, Nat.reduceMul]; exact hK) ?_
 refine AL_seq ?_
 obtain ⟨t431, g1, h⟩ := bind_or h
 rcases ite_orb h with ⟨c2, h⟩ | ⟨c2, h⟩
 ·
  obtain ⟨t432, g3, h⟩ := bind_or h
  obtain ⟨t433, g4, h⟩ := bind_or h
  refine rg1 [4] [] [(2, 7)] (fun K hK => by simp (decide := true) only [go_sem, Nat.reduceAdd, Nat.reduceMul, c2]; refine ⟨_, _, _, spec_grGood.V g1, ?_⟩; simp (decide := true) only [go_sem, Nat.reduceAdd, Nat.reduceMul, c2]; refine ⟨_, _, _, spec_grCount.V g3, ?_⟩; simp (decide := true) only [go_sem, Nat.reduceAdd, Nat.reduceMul, c2]; refine ⟨_, _, _, spec_l1In.V g4, ?_⟩; simp (decide := true) only [go_sem, Nat.reduceAdd, Nat.reduceMul, c2]; exact hK) ?_
  obtain rfl := Option.some.inj h
  refine AL_ret (fun _ => rfl) ?_
  exact retF_mk rfl (by exact ⟨trivial, trivial⟩) rfl (by exact rfl) (by exact trivial) (by exact trivial)
 ·
  refine rg1 [4] [] [(2, 7)] (fun K hK => by simp (decide := true) only [go_sem, Nat.reduceAdd, Nat.reduceMul, c2]; refine ⟨_, _, _, spec_grGood.V g1, ?_⟩; simp (decide := true) only [go_sem, Nat.reduceAdd, Nat.reduceMul, c2]; exact hK) ?_
  obtain rfl := Option.some.inj h
  refine AL_ret (fun _ => rfl) ?_
  exact retF_mk rfl (by exact ⟨trivial, trivial⟩) rfl (by exact rfl) (by exact trivial) (by exact trivial)
/-! spec_bhAsked : 127 -/
set_option maxRecDepth 100000 in
set_option maxHeartbeats 4000000 in
theorem spec_bhAsked.V {k : Nat} {a0_0 : Int} {a0_1 : Int} {a0_2 : Int} {l1 : List (S68)} {a2 : Int} {r : Bool} (h : spec_bhAsked.f k a0_0 a0_1 a0_2 l1 a2 = some r) : FnV E 127 [.agg [.int .i64 a0_0, .int .i64 a0_1, .int .i64 a0_2], .sl false 5 (mp mkS68 l1), .int .i64 a2] none (.bool r) [] none := by
 refine FnV_list E (rs := [.tmp 6]) Try.func127 (by rfl) rfl Try.ntmps127 rfl [] (by simp) rfl (by simp) rfl (fun us => ?_)
 simp only [argsL, memL, wrapL, wrap1, Nat.reduceAdd]
 unfold spec_bhAsked.f at h
 refine AL_seq ?_
 refine rg0 [1, 2, 3] [32] (fun K hK => by simp (decide := true) only [go_sem, Nat.reduceAdd, Nat.reduceMul]; exact hK) ?_
 refine AL_seq ?_
 obtain ⟨t435, g1, h⟩ := bind_or h
 rcases ite_orb h with ⟨c2, h⟩ | ⟨c2, h⟩
 ·
  obtain ⟨t436, g3, h⟩ := bind_or h
  refine rg1 [6] [] [(3, 10)] (fun K hK => by simp (decide := true) only [go_sem, Nat.reduceAdd, Nat.reduceMul, c2]; refine ⟨_, _, _, spec_grHas.V g1, ?_⟩; simp (decide := true) only [go_sem, Nat.reduceAdd, Nat.reduceMul, c2]; refine ⟨_, _, _, spec_bhList.V g3, ?_⟩; simp (decide := true) only [go_sem, Nat.reduceAdd, Nat.reduceMul, c2]; exact hK) ?_
  obtain rfl := Option.some.inj h
  refine AL_ret (fun _ => rfl) ?_
  exact retF_mk rfl (by exact ⟨trivial, trivial⟩) rfl (by exact rfl) (by exact trivial) (by exact trivial)
 ·
  refine rg1 [6] [] [(3, 10)] (fun K hK => by simp (decide := true) only [go_sem, Nat.reduceAdd, Nat.reduceMul, c2]; refine ⟨_, _, _, spec_grHas.V g1, ?_⟩; simp (decide := true) only [go_sem, Nat.reduceAdd, Nat.reduceMul, c2]; exact hK) ?_
  obtain rfl := Option.some.inj h
  refine AL_ret (fun _ => rfl) ?_
  exact retF_mk rfl (by exact ⟨trivial, trivial⟩) rfl (by exact rfl) (by exact trivial) (by exact trivial)
/-! spec_bhReach : 141 -/
set_option maxRecDepth 100000 in
set_option maxHeartbeats 4000000 in
theorem spec_bhReach.V {a0 : Int} {r : Bool} (h : spec_bhReach.f a0 = some r) : FnV E 141 [.int .i64 a0] none (.bool r) [] none := by
 refine FnV_list E (rs := [.tmp 2]) Try.func141 (by rfl) rfl Try.ntmps141 rfl [] (by simp) rfl (by simp) rfl (fun us => ?_)
 simp only [argsL, memL, wrapL, wrap1, Nat.reduceAdd]
 unfold spec_bhReach.f at h
 refine AL_seq ?_
 refine rg0 [0] [] (fun K hK => by simp (decide := true) only [go_sem, Nat.reduceAdd, Nat.reduceMul]; exact hK) ?_
 refine AL_seq ?_
 obtain ⟨t437, g1, h⟩ := bind_or h
 refine rg0 [2] [] (fun K hK => by simp (decide := true) only [go_sem, Nat.reduceAdd, Nat.reduceMul]; refine ⟨_, _, _, spec_l1In.V g1, ?_⟩; simp (decide := true) only [go_sem, Nat.reduceAdd, Nat.reduceMul]; exact hK) ?_
 obtain rfl := Option.some.inj h
 refine AL_ret (fun _ => rfl) ?_
 exact retF_mk rfl (by exact ⟨trivial, trivial⟩) rfl (by exact rfl) (by exact trivial) (by exact trivial)
/-! spec_moPart : 105 -/
set_option maxRecDepth 100000 in
set_option maxHeartbeats 4000000 in
theorem spec_moPart.V {k : Nat} {a0 : Int} {a1 : Int} {r1 : Int} {r2 : Int} (h : spec_moPart.f k a0 a1 = some (r1, r2)) : FnV E 105 [.int .i64 a0, .int .i64 a1] none (.tup [.int .i64 r1, .int .i64 r2]) [] none := by
 refine FnV_list E (rs := [.tmp 4, .tmp 5]) Try.func105 (by rfl) rfl Try.ntmps105 rfl [] (by simp) rfl (by simp) rfl (fun us => ?_)
 simp only [argsL, memL, wrapL, wrap1, Nat.reduceAdd]
 unfold spec_moPart.f at h
 refine AL_seq ?_
 refine rg0 [0, 1] [] (fun K hK => by simp (decide := true) only [go_sem, Nat.reduceAdd, Nat.reduceMul]; exact hK) ?_
 refine AL_seq ?_
 refine rg0 [0, 1, 6, 7] [] (fun K hK => by simp (decide := true) only [go_sem, Nat.reduceAdd, Nat.reduceMul]; exact hK) ?_
 refine AL_seq ?_
 refine AL_block ?_
 refine AL_loop (n := k) (fun n S => (∃ x0 x1 x6 x7, n ≤ k ∧ spec_moPart.l0 n x0 x1 x6 x7 = some (r1, r2) ∧ At [(0, .int .i64 x0), (1, .int .i64 x1), (6, .int .i64 x6), (7, .int .i64 x7)] [] S)) ?_ ?_
 · exact ⟨_, _, _, _, by omega, h, At_keep [0, 1, 6, 7] []⟩
 ·
  intro n S hS
  obtain ⟨x0, x1, x6, x7, hkq1, h, hS⟩ := hS
  rcases n with _ | n2
  · (rw [spec_moPart.l0] at h; cases h)
  rw [spec_moPart.l0] at h
  refine AW_at hS ?_
  refine AL_seq ?_
  refine AL_seq ?_
  refine rg0 [0, 1, 6, 7, 12] [] (fun K hK => by simp (decide := true) only [go_sem, Nat.reduceAdd, Nat.reduceMul]; exact hK) ?_
  rcases ite_orp h with ⟨c3, h⟩ | ⟨c3, h⟩
  ·
   refine AL_then (by simp (decide := true) only [go_sem, Nat.reduceAdd, Nat.reduceMul, c3]) ?_
   refine AL_skip ?_
   refine AL_block ?_
   refine AL_seq ?_
   obtain ⟨c4, h⟩ := ite_rp h
   refine rg0 [0, 1, 7, 8] [] (fun K hK => by simp (decide := true) only [go_sem, Nat.reduceAdd, Nat.reduceMul, c3, c4]; exact hK) ?_
   refine AL_seq ?_
   refine rg0 [0, 1, 6, 8] [] (fun K hK => by simp (decide := true) only [go_sem, Nat.reduceAdd, Nat.reduceMul, c3, c4]; exact hK) ?_
   refine rg0 [0, 1, 6, 7] [] (fun K hK => by simp (decide := true) only [go_sem, Nat.reduceAdd, Nat.reduceMul, c3, c4]; exact hK) ?_
   refine blockQ_n ?_
   refine AL_again (m := n2) (by omega) ?_
   exact ⟨_, _, _, _, by omega, h, At_keep [0, 1, 6, 7] []⟩
  ·
   refine AL_else (by simp (decide := true) only [go_sem, Nat.reduceAdd, Nat.reduceMul, c3]) ?_
   refine AL_exit ?_
   repeat first | refine thenQ_x ?_ | refine blockQ_miss (by decide) ?_
   refine blockQ_hit ?_
   refine AL_seq ?_
   obtain ⟨c5, h⟩ := ite_rp h
   refine rg0 [4, 5] [] (fun K hK => by simp (decide := true) only [go_sem, Nat.reduceAdd, Nat.reduceMul, c3, c5]; exact hK) ?_
   replace h := Option.some.inj h
   obtain ⟨rfl, rfl⟩ := Prod.mk.inj h
   refine AL_ret (fun _ => rfl) ?_
   exact retF_mk rfl (by exact ⟨trivial, trivial, trivial⟩) rfl (by exact ⟨rfl, rfl, trivial⟩) (by exact trivial) (by exact trivial)
/-! spec_l1Abs : 109 -/
set_option maxRecDepth 100000 in
set_option maxHeartbeats 4000000 in
theorem spec_l1Abs.V {a0 : Int} {r : Int} (h : spec_l1Abs.f a0 = some r) : FnV E 109 [.int .i64 a0] none (.int .i64 r) [] none := by
 refine FnV_list E (rs := [.tmp 2]) Try.func109 (by rfl) rfl Try.ntmps109 rfl [] (by simp) rfl (by simp) rfl (fun us => ?_)
 simp only [argsL, memL, wrapL, wrap1, Nat.reduceAdd]
 unfold spec_l1Abs.f at h
 refine AL_seq ?_
 refine rg0 [0] [] (fun K hK => by simp (decide := true) only [go_sem, Nat.reduceAdd, Nat.reduceMul]; exact hK) ?_
 refine AL_seq ?_
 obtain ⟨t438, g1, h⟩ := bind_or h
 refine rg0 [2] [] (fun K hK => by simp (decide := true) only [go_sem, Nat.reduceAdd, Nat.reduceMul]; refine ⟨_, _, _, spec_l1Most.V g1, ?_⟩; simp (decide := true) only [go_sem, Nat.reduceAdd, Nat.reduceMul]; exact hK) ?_
 obtain rfl := Option.some.inj h
 refine AL_ret (fun _ => rfl) ?_
 exact retF_mk rfl (by exact ⟨trivial, trivial⟩) rfl (by exact rfl) (by exact trivial) (by exact trivial)
/-! spec_grX : 193 -/
set_option maxRecDepth 100000 in
set_option maxHeartbeats 4000000 in
theorem spec_grX.V {a0_0 : Int} {a0_1 : Int} {a0_2 : Int} {a1 : Int} {r : Int} (h : spec_grX.f a0_0 a0_1 a0_2 a1 = some r) : FnV E 193 [.agg [.int .i64 a0_0, .int .i64 a0_1, .int .i64 a0_2], .int .i64 a1] none (.int .i64 r) [] none := by
 refine FnV_list E (rs := [.tmp 4]) Try.func193 (by rfl) rfl Try.ntmps193 rfl [] (by simp) rfl (by simp) rfl (fun us => ?_)
 simp only [argsL, memL, wrapL, wrap1, Nat.reduceAdd]
 unfold spec_grX.f at h
 refine AL_seq ?_
 refine rg0 [1, 2] [24] (fun K hK => by simp (decide := true) only [go_sem, Nat.reduceAdd, Nat.reduceMul]; exact hK) ?_
 refine AL_seq ?_
 obtain ⟨c1, h⟩ := ite_rp h
 refine rg0 [4] [] (fun K hK => by simp (decide := true) only [go_sem, Nat.reduceAdd, Nat.reduceMul, c1]; exact hK) ?_
 obtain rfl := Option.some.inj h
 refine AL_ret (fun _ => rfl) ?_
 exact retF_mk rfl (by exact ⟨trivial, trivial⟩) rfl (by exact rfl) (by exact trivial) (by exact trivial)
/-! spec_grY : 194 -/
set_option maxRecDepth 100000 in
set_option maxHeartbeats 4000000 in
theorem spec_grY.V {a0_0 : Int} {a0_1 : Int} {a0_2 : Int} {a1 : Int} {r : Int} (h : spec_grY.f a0_0 a0_1 a0_2 a1 = some r) : FnV E 194 [.agg [.int .i64 a0_0, .int .i64 a0_1, .int .i64 a0_2], .int .i64 a1] none (.int .i64 r) [] none := by
 refine FnV_list E (rs := [.tmp 4]) Try.func194 (by rfl) rfl Try.ntmps194 rfl [] (by simp) rfl (by simp) rfl (fun us => ?_)
 simp only [argsL, memL, wrapL, wrap1, Nat.reduceAdd]
 unfold spec_grY.f at h
 refine AL_seq ?_
 refine rg0 [1, 2] [24] (fun K hK => by simp (decide := true) only [go_sem, Nat.reduceAdd, Nat.reduceMul]; exact hK) ?_
 refine AL_seq ?_
 obtain ⟨c1, h⟩ := ite_rp h
 obtain ⟨c2, h⟩ := ite_rp h
 refine rg0 [4] [] (fun K hK => by simp (decide := true) only [go_sem, Nat.reduceAdd, Nat.reduceMul, c1, c2]; exact hK) ?_
 obtain rfl := Option.some.inj h
 refine AL_ret (fun _ => rfl) ?_
 exact retF_mk rfl (by exact ⟨trivial, trivial⟩) rfl (by exact rfl) (by exact trivial) (by exact trivial)
/-! spec_grZ : 195 -/
set_option maxRecDepth 100000 in
set_option maxHeartbeats 4000000 in
theorem spec_grZ.V {a0_0 : Int} {a0_1 : Int} {a0_2 : Int} {a1 : Int} {r : Int} (h : spec_grZ.f a0_0 a0_1 a0_2 a1 = some r) : FnV E 195 [.agg [.int .i64 a0_0, .int .i64 a0_1, .int .i64 a0_2], .int .i64 a1] none (.int .i64 r) [] none := by
 refine FnV_list E (rs := [.tmp 4]) Try.func195 (by rfl) rfl Try.ntmps195 rfl [] (by simp) rfl (by simp) rfl (fun us => ?_)
 simp only [argsL, memL, wrapL, wrap1, Nat.reduceAdd]
 unfold spec_grZ.f at h
 refine AL_seq ?_
 refine rg0 [1, 2] [24] (fun K hK => by simp (decide := true) only [go_sem, Nat.reduceAdd, Nat.reduceMul]; exact hK) ?_
 refine AL_seq ?_
 obtain ⟨c1, h⟩ := ite_rp h
 obtain ⟨c2, h⟩ := ite_rp h
 refine rg0 [4] [] (fun K hK => by simp (decide := true) only [go_sem, Nat.reduceAdd, Nat.reduceMul, c1, c2]; exact hK) ?_
 obtain rfl := Option.some.inj h
 refine AL_ret (fun _ => rfl) ?_
 exact retF_mk rfl (by exact ⟨trivial, trivial⟩) rfl (by exact rfl) (by exact trivial) (by exact trivial)
/-! spec_grSteps : 192 -/
set_option maxRecDepth 100000 in
set_option maxHeartbeats 4000000 in
theorem spec_grSteps.V {a0_0 : Int} {a0_1 : Int} {a0_2 : Int} {a1 : Int} {a2 : Int} {r : Int} (h : spec_grSteps.f a0_0 a0_1 a0_2 a1 a2 = some r) : FnV E 192 [.agg [.int .i64 a0_0, .int .i64 a0_1, .int .i64 a0_2], .int .i64 a1, .int .i64 a2] none (.int .i64 r) [] none := by
 refine FnV_list E (rs := [.tmp 6]) Try.func192 (by rfl) rfl Try.ntmps192 rfl [] (by simp) rfl (by simp) rfl (fun us => ?_)
 simp only [argsL, memL, wrapL, wrap1, Nat.reduceAdd]
 unfold spec_grSteps.f at h
 refine AL_seq ?_
 refine rg0 [1, 2, 3] [32] (fun K hK => by simp (decide := true) only [go_sem, Nat.reduceAdd, Nat.reduceMul]; exact hK) ?_
 refine AL_seq ?_
 obtain ⟨t443, g1, h⟩ := bind_or h
 obtain ⟨t444, g2, h⟩ := bind_or h
 obtain ⟨t445, g3, h⟩ := bind_or h
 obtain ⟨t446, g4, h⟩ := bind_or h
 obtain ⟨t447, g5, h⟩ := bind_or h
 obtain ⟨t448, g6, h⟩ := bind_or h
 obtain ⟨t449, g7, h⟩ := bind_or h
 obtain ⟨t450, g8, h⟩ := bind_or h
 obtain ⟨t451, g9, h⟩ := bind_or h
 refine rg0 [6] [] (fun K hK => by simp (decide := true) (maxSteps := 4000000) only [go_sem, Nat.reduceAdd, Nat.reduceMul]; refine ⟨_, _, _, spec_grX.V g1, ?_⟩; simp (decide := true) (maxSteps := 4000000) only [go_sem, Nat.reduceAdd, Nat.reduceMul]; refine ⟨_, _, _, spec_grX.V g2, ?_⟩; simp (decide := true) (maxSteps := 4000000) only [go_sem, Nat.reduceAdd, Nat.reduceMul]; refine ⟨_, _, _, spec_l1Abs.V g3, ?_⟩; simp (decide := true) (maxSteps := 4000000) only [go_sem, Nat.reduceAdd, Nat.reduceMul]; refine ⟨_, _, _, spec_grY.V g4, ?_⟩; simp (decide := true) (maxSteps := 4000000) only [go_sem, Nat.reduceAdd, Nat.reduceMul]; refine ⟨_, _, _, spec_grY.V g5, ?_⟩; simp (decide := true) (maxSteps := 4000000) only [go_sem, Nat.reduceAdd, Nat.reduceMul]; refine ⟨_, _, _, spec_l1Abs.V g6, ?_⟩; simp (decide := true) (maxSteps := 4000000) only [go_sem, Nat.reduceAdd, Nat.reduceMul]; refine ⟨_, _, _, spec_grZ.V g7, ?_⟩; simp (decide := true) (maxSteps := 4000000) only [go_sem, Nat.reduceAdd, Nat.reduceMul]; refine ⟨_, _, _, spec_grZ.V g8, ?_⟩; simp (decide := true) (maxSteps := 4000000) only [go_sem, Nat.reduceAdd, Nat.reduceMul]; refine ⟨_, _, _, spec_l1Abs.V g9, ?_⟩; simp (decide := true) (maxSteps := 4000000) only [go_sem, Nat.reduceAdd, Nat.reduceMul]; exact hK) ?_
 obtain rfl := Option.some.inj h
 refine AL_ret (fun _ => rfl) ?_
 exact retF_mk rfl (by exact ⟨trivial, trivial⟩) rfl (by exact rfl) (by exact trivial) (by exact trivial)
/-! spec_bhEstimate : 142 -/
set_option maxRecDepth 100000 in
set_option maxHeartbeats 4000000 in
theorem spec_bhEstimate.V {k : Nat} {a0_0 : Int} {a0_1 : Int} {a0_2 : Int} {l1 : List (S68)} {a2 : Int} {a3 : Int} {r1 : Int} {r2 : Int} {r3 : Bool} (h : spec_bhEstimate.f k a0_0 a0_1 a0_2 l1 a2 a3 = some (r1, r2, r3)) : FnV E 142 [.agg [.int .i64 a0_0, .int .i64 a0_1, .int .i64 a0_2], .sl false 5 (mp mkS68 l1), .int .i64 a2, .int .i64 a3] none (.tup [.int .i64 r1, .int .i64 r2, .bool r3]) [] none := by
 refine FnV_list E (rs := [.tmp 8, .tmp 9, .tmp 10]) Try.func142 (by rfl) rfl Try.ntmps142 rfl [] (by simp) rfl (by simp) rfl (fun us => ?_)
 simp only [argsL, memL, wrapL, wrap1, Nat.reduceAdd]
 unfold spec_bhEstimate.f at h
 refine AL_seq ?_
 refine rg0 [1, 2, 3, 4] [40] (fun K hK => by simp (decide := true) only [go_sem, Nat.reduceAdd, Nat.reduceMul]; exact hK) ?_
 refine AL_seq ?_
 refine rg0 [1, 2, 3, 4, 11, 12] [40] (fun K hK => by simp (decide := true) only [go_sem, Nat.reduceAdd, Nat.reduceMul]; exact hK) ?_
 refine AL_seq ?_
 refine AL_seq ?_
 refine rg0 [2, 3, 4, 11, 12, 19, 20, 21] [40] (fun K hK => by simp (decide := true) only [go_sem, Nat.reduceAdd, Nat.reduceMul]; exact hK) ?_
 refine AL_block ?_
 refine AL_loop (n := k) (fun n S => (∃ x2 x3 x11 x12 x19 x20 x21 x453000 x453001 x453002, n ≤ k ∧ spec_bhEstimate.l0 n x2 x3 x11 x12 x19 x20 x21 x453000 x453001 x453002 = some (r1, r2, r3) ∧ At [(2, .int .i64 x2), (3, .int .i64 x3), (4, .ptr 40 0 0), (11, .int .i64 x11), (12, .int .i64 x12), (19, .sl false 5 (mp mkS68 x19)), (20, .int .i64 x20), (21, .int .i64 x21)] [(40, some (.box [.int .i64 x453000, .int .i64 x453001, .int .i64 x453002]))] S)) ?_ ?_
 · exact ⟨_, _, _, _, _, _, _, _, _, _, by omega, h, At_keep [2, 3, 4, 11, 12, 19, 20, 21] [40]⟩
 ·
  intro n S hS
  obtain ⟨x2, x3, x11, x12, x19, x20, x21, x453000, x453001, x453002, hkq1, h, hS⟩ := hS
  rcases n with _ | n2
  · (rw [spec_bhEstimate.l0] at h; cases h)
  rw [spec_bhEstimate.l0] at h
  refine AW_at hS ?_
  refine AL_seq ?_
  refine rg0 [2, 3, 4, 11, 12, 19, 20, 21, 22] [40] (fun K hK => by simp (decide := true) only [go_sem, Nat.reduceAdd, Nat.reduceMul]; exact hK) ?_
  refine AL_seq ?_
  rcases ite_orp h with ⟨c3, h⟩ | ⟨c3, h⟩
  ·
   refine AL_then (by simp (decide := true) only [go_sem, Nat.reduceAdd, Nat.reduceMul, c3]) ?_
   refine AL_skip ?_
   refine AL_seq ?_
   refine AL_block ?_
   refine AL_seq ?_
   obtain ⟨c4, h⟩ := ite_lp h
   obtain ⟨c5, h⟩ := ite_lp h
   refine rg0 [2, 3, 4, 11, 12, 14, 19, 20, 21] [40, 120] (fun K hK => by simp (decide := true) only [go_sem, Nat.reduceAdd, Nat.reduceMul, c3, c4, c5]; exact hK) ?_
   refine AL_seq ?_
   obtain ⟨t457, g6, h⟩ := bind_or h
   obtain ⟨t458, g7, h⟩ := bind_or h
   refine rg0 [2, 3, 4, 11, 12, 14, 15, 19, 20, 21] [40, 120] (fun K hK => by simp (decide := true) only [go_sem, Nat.reduceAdd, Nat.reduceMul, c3, c4, c5]; refine ⟨_, _, _, spec_bhBlock.V g6, ?_⟩; simp (decide := true) only [go_sem, Nat.reduceAdd, Nat.reduceMul, c3, c4, c5]; refine ⟨_, _, _, spec_grSteps.V g7, ?_⟩; simp (decide := true) only [go_sem, Nat.reduceAdd, Nat.reduceMul, c3, c4, c5]; exact hK) ?_
   refine AL_seq ?_
   refine rg0 [2, 3, 4, 11, 12, 14, 15, 19, 20, 21, 33] [40, 120] (fun K hK => by simp (decide := true) only [go_sem, Nat.reduceAdd, Nat.reduceMul, c3, c4, c5]; exact hK) ?_
   rcases ite_orp h with ⟨c8, h⟩ | ⟨c8, h⟩
   ·
    refine AL_then (by simp (decide := true) only [go_sem, Nat.reduceAdd, Nat.reduceMul, c3, c4, c5, c8]) ?_
    refine AL_seq ?_
    obtain ⟨c9, h⟩ := ite_rp h
    refine rg0 [2, 3, 4, 11, 12, 14, 16, 19, 20, 21] [40, 120] (fun K hK => by simp (decide := true) only [go_sem, Nat.reduceAdd, Nat.reduceMul, c3, c4, c5, c8, c9]; exact hK) ?_
    refine AL_seq ?_
    refine rg0 [2, 3, 4, 11, 12, 16, 19, 20, 21] [40] (fun K hK => by simp (decide := true) only [go_sem, Nat.reduceAdd, Nat.reduceMul, c3, c4, c5, c8, c9]; exact hK) ?_
    refine rg0 [2, 3, 4, 11, 12, 19, 20, 21] [40] (fun K hK => by simp (decide := true) only [go_sem, Nat.reduceAdd, Nat.reduceMul, c3, c4, c5, c8, c9]; exact hK) ?_
    refine blockQ_n ?_
    refine rg0 [2, 3, 4, 11, 12, 19, 20, 21] [40] (fun K hK => by simp (decide := true) only [go_sem, Nat.reduceAdd, Nat.reduceMul, c3, c4, c5, c8, c9]; exact hK) ?_
    refine AL_again (m := n2) (by omega) ?_
    exact ⟨_, _, _, _, _, _, _, _, _, _, by omega, h, At_keep [2, 3, 4, 11, 12, 19, 20, 21] [40]⟩
   ·
    refine AL_else (by simp (decide := true) only [go_sem, Nat.reduceAdd, Nat.reduceMul, c3, c4, c5, c8]) ?_
    refine AL_skip ?_
    refine blockQ_n ?_
    refine rg0 [2, 3, 4, 11, 12, 19, 20, 21] [40] (fun K hK => by simp (decide := true) only [go_sem, Nat.reduceAdd, Nat.reduceMul, c3, c4, c5, c8]; exact hK) ?_
    refine AL_again (m := n2) (by omega) ?_
    exact ⟨_, _, _, _, _, _, _, _, _, _, by omega, h, At_keep [2, 3, 4, 11, 12, 19, 20, 21] [40]⟩
  ·
   refine AL_else (by simp (decide := true) only [go_sem, Nat.reduceAdd, Nat.reduceMul, c3]) ?_
   refine AL_exit ?_
   repeat first | refine thenQ_x ?_ | refine blockQ_miss (by decide) ?_
   refine blockQ_hit ?_
   refine AL_seq ?_
   refine AL_seq ?_
   refine rg0 [11, 12, 48] [] (fun K hK => by simp (decide := true) only [go_sem, Nat.reduceAdd, Nat.reduceMul, c3]; exact hK) ?_
   rcases ite_orp h with ⟨c10, h⟩ | ⟨c10, h⟩
   ·
    refine AL_then (by simp (decide := true) only [go_sem, Nat.reduceAdd, Nat.reduceMul, c3, c10]) ?_
    refine AL_seq ?_
    refine rg0 [8, 9, 10] [] (fun K hK => by simp (decide := true) only [go_sem, Nat.reduceAdd, Nat.reduceMul, c3, c10]; exact hK) ?_
    replace h := Option.some.inj h
    obtain ⟨rfl, h1⟩ := Prod.mk.inj h
    obtain ⟨rfl, rfl⟩ := Prod.mk.inj h1
    refine AL_ret (fun _ => rfl) ?_
    exact retF_mk rfl (by exact ⟨trivial, trivial, trivial, trivial⟩) rfl (by exact ⟨rfl, rfl, rfl, trivial⟩) (by exact trivial) (by exact trivial)
   ·
    refine AL_else (by simp (decide := true) only [go_sem, Nat.reduceAdd, Nat.reduceMul, c3, c10]) ?_
    refine AL_skip ?_
    refine AL_seq ?_
    obtain ⟨⟨t453, t454⟩, g11, h⟩ := bind_or h
    dsimp only at h
    refine rg0 [17, 18] [] (fun K hK => by simp (decide := true) only [go_sem, Nat.reduceAdd, Nat.reduceMul, c3, c10]; refine ⟨_, _, _, spec_moPart.V g11, ?_⟩; simp (decide := true) only [go_sem, Nat.reduceAdd, Nat.reduceMul, c3, c10]; exact hK) ?_
    refine AL_seq ?_
    refine rg0 [8, 9, 10] [] (fun K hK => by simp (decide := true) only [go_sem, Nat.reduceAdd, Nat.reduceMul, c3, c10]; exact hK) ?_
    replace h := Option.some.inj h
    obtain ⟨rfl, h1⟩ := Prod.mk.inj h
    obtain ⟨rfl, rfl⟩ := Prod.mk.inj h1
    refine AL_ret (fun _ => rfl) ?_
    exact retF_mk rfl (by exact ⟨trivial, trivial, trivial, trivial⟩) rfl (by exact ⟨rfl, rfl, rfl, trivial⟩) (by exact trivial) (by exact trivial)
/-! spec_EstimateBlock : 58 -/
set_option maxRecDepth 100000 in
set_option maxHeartbeats 4000000 in
theorem spec_EstimateBlock.V {k : Nat} {a0_0 : Int} {a0_1 : Int} {a0_2 : Int} {l1 : List (S68)} {a2 : Int} {a3 : Int} {r1 : Int} {r2 : Int} {r3 : Bool} (h : spec_EstimateBlock.f k a0_0 a0_1 a0_2 l1 a2 a3 = some (r1, r2, r3)) : FnV E 58 [.agg [.int .i64 a0_0, .int .i64 a0_1, .int .i64 a0_2], .sl false 5 (mp mkS68 l1), .int .i64 a2, .int .i64 a3] none (.tup [.int .i64 r1, .int .i64 r2, .bool r3]) [] none := by
 refine FnV_list E (rs := [.tmp 8, .tmp 9, .tmp 10]) Try.func58 (by rfl) rfl Try.ntmps58 rfl [] (by simp) rfl (by simp) rfl (fun us => ?_)
 simp only [argsL, memL, wrapL, wrap1, Nat.reduceAdd]
 unfold spec_EstimateBlock.f at h
 refine AL_seq ?_
 refine rg0 [1, 2, 3, 4] [40] (fun K hK => by simp (decide := true) only [go_sem, Nat.reduceAdd, Nat.reduceMul]; exact hK) ?_
 refine AL_seq ?_
 refine AL_seq ?_
 obtain ⟨t460, g1, h⟩ := bind_or h
 rcases ite_orb h with ⟨c2, h⟩ | ⟨c2, h⟩
 ·
  obtain ⟨t461, g3, h⟩ := bind_or h
  refine rg1 [1, 2, 3, 4, 20] [40] [(5, 16)] (fun K hK => by simp (decide := true) only [go_sem, Nat.reduceAdd, Nat.reduceMul, c2]; refine ⟨_, _, _, spec_bhAsked.V g1, ?_⟩; simp (decide := true) only [go_sem, Nat.reduceAdd, Nat.reduceMul, c2]; refine ⟨_, _, _, spec_bhReach.V g3, ?_⟩; simp (decide := true) only [go_sem, Nat.reduceAdd, Nat.reduceMul, c2]; exact hK) ?_
  rcases ite_orb h with ⟨c4, h⟩ | ⟨c4, h⟩
  ·
   refine AL_else (by simp (decide := true) only [go_sem, Nat.reduceAdd, Nat.reduceMul, c2, c4]) ?_
   refine AL_skip ?_
   refine AL_seq ?_
   obtain ⟨⟨t462, t463, t464⟩, g5, h⟩ := bind_or h
   dsimp only at h
   refine rg0 [8, 9, 10] [] (fun K hK => by simp (decide := true) (maxSteps := 4000000) only [go_sem, Nat.reduceAdd, Nat.reduceMul, c2, c4]; refine ⟨_, _, _, spec_bhEstimate.V g5, ?_⟩; simp (decide := true) (maxSteps := 4000000) only [go_sem, Nat.reduceAdd, Nat.reduceMul, c2, c4]; exact hK) ?_
   replace h := Option.some.inj h
   obtain ⟨rfl, h1⟩ := Prod.mk.inj h
   obtain ⟨rfl, rfl⟩ := Prod.mk.inj h1
   refine AL_ret (fun _ => rfl) ?_
   exact retF_mk rfl (by exact ⟨trivial, trivial, trivial, trivial⟩) rfl (by exact ⟨rfl, rfl, rfl, trivial⟩) (by exact trivial) (by exact trivial)
  ·
   refine AL_then (by simp (decide := true) only [go_sem, Nat.reduceAdd, Nat.reduceMul, c2, c4]) ?_
   refine AL_seq ?_
   refine rg0 [8, 9, 10] [] (fun K hK => by simp (decide := true) only [go_sem, Nat.reduceAdd, Nat.reduceMul, c2, c4]; exact hK) ?_
   replace h := Option.some.inj h
   obtain ⟨rfl, h1⟩ := Prod.mk.inj h
   obtain ⟨rfl, rfl⟩ := Prod.mk.inj h1
   refine AL_ret (fun _ => rfl) ?_
   exact retF_mk rfl (by exact ⟨trivial, trivial, trivial, trivial⟩) rfl (by exact ⟨rfl, rfl, rfl, trivial⟩) (by exact trivial) (by exact trivial)
 ·
  refine rg1 [1, 2, 3, 4, 20] [40] [(5, 16)] (fun K hK => by simp (decide := true) only [go_sem, Nat.reduceAdd, Nat.reduceMul, c2]; refine ⟨_, _, _, spec_bhAsked.V g1, ?_⟩; simp (decide := true) only [go_sem, Nat.reduceAdd, Nat.reduceMul, c2]; exact hK) ?_
  refine AL_then (by simp (decide := true) only [go_sem, Nat.reduceAdd, Nat.reduceMul, c2]) ?_
  refine AL_seq ?_
  refine rg0 [8, 9, 10] [] (fun K hK => by simp (decide := true) only [go_sem, Nat.reduceAdd, Nat.reduceMul, c2]; exact hK) ?_
  replace h := Option.some.inj h
  obtain ⟨rfl, h1⟩ := Prod.mk.inj h
  obtain ⟨rfl, rfl⟩ := Prod.mk.inj h1
  refine AL_ret (fun _ => rfl) ?_
  exact retF_mk rfl (by exact ⟨trivial, trivial, trivial, trivial⟩) rfl (by exact ⟨rfl, rfl, rfl, trivial⟩) (by exact trivial) (by exact trivial)
/-! spec_DrawNearestHole : 59 -/
set_option maxRecDepth 100000 in
set_option maxHeartbeats 4000000 in
theorem spec_DrawNearestHole.V {k : Nat} {l0 : List Int} {r1 : Int} {r2 : Int} {r3 : Int} {r4 : List (S68)} {r5 : Int} (h : spec_DrawNearestHole.f k l0 = some (r1, r2, r3, r4, r5)) : FnV E 59 [.sl false 1 (mp mkB l0)] none (.tup [.agg [.int .i64 r1, .int .i64 r2, .int .i64 r3], .sl true 5 (mp mkS68 r4), .int .i64 r5]) [] none := by
 refine FnV_list E (rs := [.cell 2 24, .tmp 3, .tmp 4]) Try.func59 (by rfl) rfl Try.ntmps59 rfl [] (by simp) rfl (by simp) rfl (fun us => ?_)
 simp only [argsL, memL, wrapL, wrap1, Nat.reduceAdd]
 unfold spec_DrawNearestHole.f at h
 refine AL_seq ?_
 refine rg0 [0, 2] [24] (fun K hK => by simp (decide := true) only [go_sem, Nat.reduceAdd, Nat.reduceMul]; exact hK) ?_
 refine AL_seq ?_
 obtain ⟨⟨t466, t467, t468, t469, t472⟩, g1, h⟩ := bind_or h
 dsimp only at h
 refine rg0 [2, 3, 4] [24] (fun K hK => by simp (decide := true) only [go_sem, Nat.reduceAdd, Nat.reduceMul]; refine ⟨_, _, _, spec_DrawHolesIn.V g1, ?_⟩; simp (decide := true) only [go_sem, Nat.reduceAdd, Nat.reduceMul]; exact hK) ?_
 replace h := Option.some.inj h
 obtain ⟨rfl, h1⟩ := Prod.mk.inj h
 obtain ⟨rfl, h2⟩ := Prod.mk.inj h1
 obtain ⟨rfl, h3⟩ := Prod.mk.inj h2
 obtain ⟨rfl, rfl⟩ := Prod.mk.inj h3
 refine AL_ret (fun _ => rfl) ?_
 exact retF_mk rfl (by exact ⟨(by simp), trivial, trivial, trivial⟩) rfl (by exact ⟨⟨rfl, rfl, rfl, trivial⟩, rfl, rfl, trivial⟩) (by exact trivial) (by exact trivial)
/-! impl_NearestHole : 60 -/
set_option maxRecDepth 100000 in
set_option maxHeartbeats 4000000 in
theorem impl_NearestHole.V {k : Nat} {a0_0 : Int} {a0_1 : Int} {a0_2 : Int} {l1 : List (S68)} {a2 : Int} {r1 : Int} {r2 : Bool} (h : impl_NearestHole.f k a0_0 a0_1 a0_2 l1 a2 = some (r1, r2)) : FnV E 60 [.agg [.int .i64 a0_0, .int .i64 a0_1, .int .i64 a0_2], .sl false 5 (mp mkS68 l1), .int .i64 a2] none (.tup [.int .i64 r1, .bool r2]) [] none := by
 refine FnV_list E (rs := [.tmp 6, .tmp 7]) Try.func60 (by rfl) rfl Try.ntmps60 rfl [] (by simp) rfl (by simp) rfl (fun us => ?_)
 simp only [argsL, memL, wrapL, wrap1, Nat.reduceAdd]
 unfold impl_NearestHole.f at h
 refine AL_seq ?_
 refine rg0 [1, 2, 3] [32] (fun K hK => by simp (decide := true) only [go_sem, Nat.reduceAdd, Nat.reduceMul]; exact hK) ?_
 refine AL_seq ?_
 refine AL_seq ?_
 refine AL_cut (fun S => (∃ kk : Nat, ∃ x1 x2 x33 x474000 x474001 x474002, kk ≤ k ∧ impl_NearestHole.j0 kk x1 x2 x33 x474000 x474001 x474002 = some (r1, r2) ∧ At [(1, .sl false 5 (mp mkS68 x1)), (2, .int .i64 x2), (3, .ptr 32 0 0), (33, .bool x33)] [(32, some (.box [.int .i64 x474000, .int .i64 x474001, .int .i64 x474002]))] S)) ?_ ?_
 ·
  obtain ⟨t474, g1, h⟩ := bind_or h
  rcases ite_orb h with ⟨c2, h⟩ | ⟨c2, h⟩
  ·
   obtain ⟨t475, g3, h⟩ := bind_or h
   rcases ite_orb h with ⟨c4, h⟩ | ⟨c4, h⟩
   ·
    refine rg1 [1, 2, 3, 33] [32] [(4, 23), (10, 29)] (fun K hK => by simp (decide := true) (maxSteps := 4000000) only [go_sem, Nat.reduceAdd, Nat.reduceMul, c2, c4]; refine ⟨_, _, _, impl_hasBlock.V g1, ?_⟩; simp (decide := true) (maxSteps := 4000000) only [go_sem, Nat.reduceAdd, Nat.reduceMul, c2, c4]; refine ⟨_, _, _, impl_areHoles.V g3, ?_⟩; simp (decide := true) (maxSteps := 4000000) only [go_sem, Nat.reduceAdd, Nat.reduceMul, c2, c4]; exact hK) ?_
    refine AL_meet ?_
    exact ⟨_, _, _, _, _, _, _, by omega, h, At_keep [1, 2, 3, 33] [32]⟩
   ·
    refine rg1 [1, 2, 3, 33] [32] [(4, 23), (10, 29)] (fun K hK => by simp (decide := true) (maxSteps := 4000000) only [go_sem, Nat.reduceAdd, Nat.reduceMul, c2, c4]; refine ⟨_, _, _, impl_hasBlock.V g1, ?_⟩; simp (decide := true) (maxSteps := 4000000) only [go_sem, Nat.reduceAdd, Nat.reduceMul, c2, c4]; refine ⟨_, _, _, impl_areHoles.V g3, ?_⟩; simp (decide := true) (maxSteps := 4000000) only [go_sem, Nat.reduceAdd, Nat.reduceMul, c2, c4]; exact hK) ?_
    refine AL_meet ?_
    exact ⟨_, _, _, _, _, _, _, by omega, h, At_keep [1, 2, 3, 33] [32]⟩
  ·
   refine rg1 [1, 2, 3, 33] [32] [(4, 23), (10, 29)] (fun K hK => by simp (decide := true) (maxSteps := 4000000) only [go_sem, Nat.reduceAdd, Nat.reduceMul, c2]; refine ⟨_, _, _, impl_hasBlock.V g1, ?_⟩; simp (decide := true) (maxSteps := 4000000) only [go_sem, Nat.reduceAdd, Nat.reduceMul, c2]; exact hK) ?_
   refine AL_meet ?_
   exact ⟨_, _, _, _, _, _, _, by omega, h, At_keep [1, 2, 3, 33] [32]⟩
 ·
  intro S hS
  obtain ⟨kk5, x1, x2, x33, x474000, x474001, x474002, hkq6, h, hS⟩ := hS
  rcases kk5 with _ | n7
  · (rw [impl_NearestHole.j0] at h; cases h)
  rw [impl_NearestHole.j0] at h
  refine AW_at hS ?_
  rcases ite_orb h with ⟨c8, h⟩ | ⟨c8, h⟩
  ·
   refine AL_then (by simp (decide := true) only [go_sem, Nat.reduceAdd, Nat.reduceMul, c8]) ?_
   refine AL_seq ?_
   refine rg0 [6, 7] [] (fun K hK => by simp (decide := true) only [go_sem, Nat.reduceAdd, Nat.reduceMul, c8]; exact hK) ?_
   replace h := Option.some.inj h
   obtain ⟨rfl, rfl⟩ := Prod.mk.inj h
   refine AL_ret (fun _ => rfl) ?_
   exact retF_mk rfl (by exact ⟨trivial, trivial, trivial⟩) rfl (by exact ⟨rfl, rfl, trivial⟩) (by exact trivial) (by exact trivial)
  ·
   refine AL_else (by simp (decide := true) only [go_sem, Nat.reduceAdd, Nat.reduceMul, c8]) ?_
   refine AL_skip ?_
   refine AL_seq ?_
   obtain ⟨⟨t476, t477, t478⟩, g9, h⟩ := bind_or h
   dsimp only at h
   refine rg0 [1, 8, 9, 10] [] (fun K hK => by simp (decide := true) only [go_sem, Nat.reduceAdd, Nat.reduceMul, c8]; refine ⟨_, _, _, impl_placeOf.V g9, ?_⟩; simp (decide := true) only [go_sem, Nat.reduceAdd, Nat.reduceMul, c8]; exact hK) ?_
   refine AL_seq ?_
   refine rg0 [1, 8, 9, 10, 11, 12] [] (fun K hK => by simp (decide := true) only [go_sem, Nat.reduceAdd, Nat.reduceMul, c8]; exact hK) ?_
   refine AL_seq ?_
   refine AL_seq ?_
   refine rg0 [8, 9, 10, 11, 12, 41, 42, 43] [] (fun K hK => by simp (decide := true) only [go_sem, Nat.reduceAdd, Nat.reduceMul, c8]; exact hK) ?_
   refine AL_block ?_
   refine AL_loop (n := n7) (fun n S => (∃ x8 x9 x10 x11 x12 x41 x42 x43, n ≤ n7 ∧ impl_NearestHole.l0 n x8 x9 x10 x11 x12 x41 x42 x43 = some (r1, r2) ∧ At [(8, .int .i64 x8), (9, .int .i64 x9), (10, .int .i64 x10), (11, .int .i64 x11), (12, .int .i64 x12), (41, .sl false 5 (mp mkS68 x41)), (42, .int .i64 x42), (43, .int .i64 x43)] [] S)) ?_ ?_
   · exact ⟨_, _, _, _, _, _, _, _, by omega, h, At_keep [8, 9, 10, 11, 12, 41, 42, 43] []⟩
   ·
    intro n S hS
    obtain ⟨x8, x9, x10, x11, x12, x41, x42, x43, hkq10, h, hS⟩ := hS
    rcases n with _ | n11
    · (rw [impl_NearestHole.l0] at h; cases h)
    rw [impl_NearestHole.l0] at h
    refine AW_at hS ?_
    refine AL_seq ?_
    refine rg0 [8, 9, 10, 11, 12, 41, 42, 43, 44] [] (fun K hK => by simp (decide := true) only [go_sem, Nat.reduceAdd, Nat.reduceMul]; exact hK) ?_
    refine AL_seq ?_
    rcases ite_orp h with ⟨c12, h⟩ | ⟨c12, h⟩
    ·
     refine AL_then (by simp (decide := true) only [go_sem, Nat.reduceAdd, Nat.reduceMul, c12]) ?_
     refine AL_skip ?_
     refine AL_seq ?_
     refine AL_block ?_
     refine AL_seq ?_
     obtain ⟨c13, h⟩ := ite_lp h
     obtain ⟨c14, h⟩ := ite_lp h
     refine rg0 [8, 9, 10, 11, 12, 13, 14, 41, 42, 43] [120] (fun K hK => by simp (decide := true) only [go_sem, Nat.reduceAdd, Nat.reduceMul, c12, c13, c14]; exact hK) ?_
     refine AL_seq ?_
     refine rg0 [8, 9, 10, 11, 12, 13, 15, 16, 17, 41, 42, 43] [] (fun K hK => by simp (decide := true) (maxSteps := 4000000) only [go_sem, Nat.reduceAdd, Nat.reduceMul, c12, c13, c14]; exact hK) ?_
     refine AL_seq ?_
     refine rg0 [8, 9, 10, 11, 12, 13, 18, 41, 42, 43] [] (fun K hK => by simp (decide := true) (maxSteps := 4000000) only [go_sem, Nat.reduceAdd, Nat.reduceMul, c12, c13, c14]; exact hK) ?_
     refine AL_seq ?_
     rcases ite_orp h with ⟨c15, h⟩ | ⟨c15, h⟩
     ·
      refine rg1 [8, 9, 10, 11, 12, 13, 18, 41, 42, 43, 83] [] [(2, 79)] (fun K hK => by simp (decide := true) only [go_sem, Nat.reduceAdd, Nat.reduceMul, c12, c13, c14, c15]; exact hK) ?_
      refine AL_then (by simp (decide := true) only [go_sem, Nat.reduceAdd, Nat.reduceMul, c12, c13, c14, c15]) ?_
      refine rg0 [8, 9, 10, 11, 12, 41, 42, 43] [] (fun K hK => by simp (decide := true) only [go_sem, Nat.reduceAdd, Nat.reduceMul, c12, c13, c14, c15]; exact hK) ?_
      refine blockQ_n ?_
      refine rg0 [8, 9, 10, 11, 12, 41, 42, 43] [] (fun K hK => by simp (decide := true) only [go_sem, Nat.reduceAdd, Nat.reduceMul, c12, c13, c14, c15]; exact hK) ?_
      refine AL_again (m := n11) (by omega) ?_
      exact ⟨_, _, _, _, _, _, _, _, by omega, h, At_keep [8, 9, 10, 11, 12, 41, 42, 43] []⟩
     ·
      refine rg1 [8, 9, 10, 11, 12, 13, 18, 41, 42, 43, 83] [] [(2, 79)] (fun K hK => by simp (decide := true) only [go_sem, Nat.reduceAdd, Nat.reduceMul, c12, c13, c14, c15]; exact hK) ?_
      rcases ite_orp h with ⟨c16, h⟩ | ⟨c16, h⟩
      ·
       refine AL_then (by simp (decide := true) only [go_sem, Nat.reduceAdd, Nat.reduceMul, c12, c13, c14, c15, c16]) ?_
       refine rg0 [8, 9, 10, 11, 12, 41, 42, 43] [] (fun K hK => by simp (decide := true) only [go_sem, Nat.reduceAdd, Nat.reduceMul, c12, c13, c14, c15, c16]; exact hK) ?_
       refine blockQ_n ?_
       refine rg0 [8, 9, 10, 11, 12, 41, 42, 43] [] (fun K hK => by simp (decide := true) only [go_sem, Nat.reduceAdd, Nat.reduceMul, c12, c13, c14, c15, c16]; exact hK) ?_
       refine AL_again (m := n11) (by omega) ?_
       exact ⟨_, _, _, _, _, _, _, _, by omega, h, At_keep [8, 9, 10, 11, 12, 41, 42, 43] []⟩
      ·
       refine AL_else (by simp (decide := true) only [go_sem, Nat.reduceAdd, Nat.reduceMul, c12, c13, c14, c15, c16]) ?_
       refine AL_skip ?_
       refine blockQ_n ?_
       refine rg0 [8, 9, 10, 11, 12, 41, 42, 43] [] (fun K hK => by simp (decide := true) only [go_sem, Nat.reduceAdd, Nat.reduceMul, c12, c13, c14, c15, c16]; exact hK) ?_
       refine AL_again (m := n11) (by omega) ?_
       exact ⟨_, _, _, _, _, _, _, _, by omega, h, At_keep [8, 9, 10, 11, 12, 41, 42, 43] []⟩
    ·
     refine AL_else (by simp (decide := true) only [go_sem, Nat.reduceAdd, Nat.reduceMul, c12]) ?_
     refine AL_exit ?_
     repeat first | refine thenQ_x ?_ | refine blockQ_miss (by decide) ?_
     refine blockQ_hit ?_
     refine AL_seq ?_
     refine rg0 [6, 7] [] (fun K hK => by simp (decide := true) only [go_sem, Nat.reduceAdd, Nat.reduceMul, c12]; exact hK) ?_
     replace h := Option.some.inj h
     obtain ⟨rfl, rfl⟩ := Prod.mk.inj h
     refine AL_ret (fun _ => rfl) ?_
     exact retF_mk rfl (by exact ⟨trivial, trivial, trivial⟩) rfl (by exact ⟨rfl, rfl, trivial⟩) (by exact trivial) (by exact trivial)
/-! spec_bhFar : 144 -/
set_option maxRecDepth 100000 in
set_option maxHeartbeats 4000000 in
theorem spec_bhFar.V {a0_0 : Int} {a0_1 : Int} {a0_2 : Int} {a1_0 : Int} {a1_1 : Int} {a1_2 : Int} {a1_3 : Int} {a1_4 : Int} {a2 : Int} {r : Int} (h : spec_bhFar.f a0_0 a0_1 a0_2 a1_0 a1_1 a1_2 a1_3 a1_4 a2 = some r) : FnV E 144 [.agg [.int .i64 a0_0, .int .i64 a0_1, .int .i64 a0_2], .agg [.int .i64 a1_0, .int .i64 a1_1, .int .i64 a1_2, .int .i64 a1_3, .int .i64 a1_4], .int .i64 a2] none (.int .i64 r) [] none := by
 refine FnV_list E (rs := [.tmp 6]) Try.func144 (by rfl) rfl Try.ntmps144 rfl [] (by simp) rfl (by simp) rfl (fun us => ?_)
 simp only [argsL, memL, wrapL, wrap1, Nat.reduceAdd]
 unfold spec_bhFar.f at h
 refine AL_seq ?_
 refine rg0 [2, 3, 4] [32, 40] (fun K hK => by simp (decide := true) only [go_sem, Nat.reduceAdd, Nat.reduceMul]; exact hK) ?_
 refine AL_seq ?_
 obtain ⟨t483, g1, h⟩ := bind_or h
 obtain ⟨t484, g2, h⟩ := bind_or h
 obtain ⟨t485, g3, h⟩ := bind_or h
 refine rg0 [7, 8, 9] [] (fun K hK => by simp (decide := true) (maxSteps := 4000000) only [go_sem, Nat.reduceAdd, Nat.reduceMul]; refine ⟨_, _, _, spec_grX.V g1, ?_⟩; simp (decide := true) (maxSteps := 4000000) only [go_sem, Nat.reduceAdd, Nat.reduceMul]; refine ⟨_, _, _, spec_grY.V g2, ?_⟩; simp (decide := true) (maxSteps := 4000000) only [go_sem, Nat.reduceAdd, Nat.reduceMul]; refine ⟨_, _, _, spec_grZ.V g3, ?_⟩; simp (decide := true) (maxSteps := 4000000) only [go_sem, Nat.reduceAdd, Nat.reduceMul]; exact hK) ?_
 refine AL_seq ?_
 refine rg0 [6] [] (fun K hK => by simp (decide := true) (maxSteps := 4000000) only [go_sem, Nat.reduceAdd, Nat.reduceMul]; exact hK) ?_
 obtain rfl := Option.some.inj h
 refine AL_ret (fun _ => rfl) ?_
 exact retF_mk rfl (by exact ⟨trivial, trivial⟩) rfl (by exact rfl) (by exact trivial) (by exact trivial)
/-! spec_NearestHole : 61 -/
set_option maxRecDepth 100000 in
set_option maxHeartbeats 4000000 in
theorem spec_NearestHole.V {k : Nat} {a0_0 : Int} {a0_1 : Int} {a0_2 : Int} {l1 : List (S68)} {a2 : Int} {r1 : Int} {r2 : Bool} (h : spec_NearestHole.f k a0_0 a0_1 a0_2 l1 a2 = some (r1, r2)) : FnV E 61 [.agg [.int .i64 a0_0, .int .i64 a0_1, .int .i64 a0_2], .sl false 5 (mp mkS68 l1), .int .i64 a2] none (.tup [.int .i64 r1, .bool r2]) [] none := by
 refine FnV_list E (rs := [.tmp 6, .tmp 7]) Try.func61 (by rfl) rfl Try.ntmps61 rfl [] (by simp) rfl (by simp) rfl (fun us => ?_)
 simp only [argsL, memL, wrapL, wrap1, Nat.reduceAdd]
 unfold spec_NearestHole.f at h
 refine AL_seq ?_
 refine rg0 [1, 2, 3] [32] (fun K hK => by simp (decide := true) only [go_sem, Nat.reduceAdd, Nat.reduceMul]; exact hK) ?_
 refine AL_seq ?_
 refine AL_seq ?_
 refine AL_cut (fun S => (∃ kk : Nat, ∃ x1 x2 x20 x487000 x487001 x487002, kk ≤ k ∧ spec_NearestHole.j0 kk x1 x2 x20 x487000 x487001 x487002 = some (r1, r2) ∧ At [(1, .sl false 5 (mp mkS68 x1)), (2, .int .i64 x2), (3, .ptr 32 0 0), (20, .bool x20)] [(32, some (.box [.int .i64 x487000, .int .i64 x487001, .int .i64 x487002]))] S)) ?_ ?_
 ·
  obtain ⟨t487, g1, h⟩ := bind_or h
  rcases ite_orb h with ⟨c2, h⟩ | ⟨c2, h⟩
  ·
   refine rg1 [1, 2, 3, 20] [32] [(5, 16)] (fun K hK => by simp (decide := true) only [go_sem, Nat.reduceAdd, Nat.reduceMul, c2]; refine ⟨_, _, _, spec_bhAsked.V g1, ?_⟩; simp (decide := true) only [go_sem, Nat.reduceAdd, Nat.reduceMul, c2]; exact hK) ?_
   refine AL_meet ?_
   exact ⟨_, _, _, _, _, _, _, by omega, h, At_keep [1, 2, 3, 20] [32]⟩
  ·
   refine rg1 [1, 2, 3, 20] [32] [(5, 16)] (fun K hK => by simp (decide := true) only [go_sem, Nat.reduceAdd, Nat.reduceMul, c2]; refine ⟨_, _, _, spec_bhAsked.V g1, ?_⟩; simp (decide := true) only [go_sem, Nat.reduceAdd, Nat.reduceMul, c2]; exact hK) ?_
   refine AL_meet ?_
   exact ⟨_, _, _, _, _, _, _, by omega, h, At_keep [1, 2, 3, 20] [32]⟩
 ·
  intro S hS
  obtain ⟨kk3, x1, x2, x20, x487000, x487001, x487002, hkq4, h, hS⟩ := hS
  rcases kk3 with _ | n5
  · (rw [spec_NearestHole.j0] at h; cases h)
  rw [spec_NearestHole.j0] at h
  refine AW_at hS ?_
  rcases ite_orb h with ⟨c6, h⟩ | ⟨c6, h⟩
  ·
   refine AL_then (by simp (decide := true) only [go_sem, Nat.reduceAdd, Nat.reduceMul, c6]) ?_
   refine AL_seq ?_
   refine rg0 [6, 7] [] (fun K hK => by simp (decide := true) only [go_sem, Nat.reduceAdd, Nat.reduceMul, c6]; exact hK) ?_
   replace h := Option.some.inj h
   obtain ⟨rfl, rfl⟩ := Prod.mk.inj h
   refine AL_ret (fun _ => rfl) ?_
   exact retF_mk rfl (by exact ⟨trivial, trivial, trivial⟩) rfl (by exact ⟨rfl, rfl, trivial⟩) (by exact trivial) (by exact trivial)
  ·
   refine AL_else (by simp (decide := true) only [go_sem, Nat.reduceAdd, Nat.reduceMul, c6]) ?_
   refine AL_skip ?_
   refine AL_seq ?_
   refine rg0 [1, 2, 3, 8] [32] (fun K hK => by simp (decide := true) only [go_sem, Nat.reduceAdd, Nat.reduceMul, c6]; exact hK) ?_
   refine AL_seq ?_
   refine AL_seq ?_
   refine rg0 [1, 2, 3, 8, 21, 22, 23] [32] (fun K hK => by simp (decide := true) only [go_sem, Nat.reduceAdd, Nat.reduceMul, c6]; exact hK) ?_
   refine AL_block ?_
   refine AL_loop (n := n5) (fun n S => (∃ x1 x2 x8 x21 x22 x23 x487000 x487001 x487002, n ≤ n5 ∧ spec_NearestHole.l0 n x1 x2 x8 x21 x22 x23 x487000 x487001 x487002 = some (r1, r2) ∧ At [(1, .sl false 5 (mp mkS68 x1)), (2, .int .i64 x2), (3, .ptr 32 0 0), (8, .int .i64 x8), (21, .sl false 5 (mp mkS68 x21)), (22, .int .i64 x22), (23, .int .i64 x23)] [(32, some (.box [.int .i64 x487000, .int .i64 x487001, .int .i64 x487002]))] S)) ?_ ?_
   · exact ⟨_, _, _, _, _, _, _, _, _, by omega, h, At_keep [1, 2, 3, 8, 21, 22, 23] [32]⟩
   ·
    intro n S hS
    obtain ⟨x1, x2, x8, x21, x22, x23, x487000, x487001, x487002, hkq7, h, hS⟩ := hS
    rcases n with _ | n8
    · (rw [spec_NearestHole.l0] at h; cases h)
    rw [spec_NearestHole.l0] at h
    refine AW_at hS ?_
    refine AL_seq ?_
    refine rg0 [1, 2, 3, 8, 21, 22, 23, 24] [32] (fun K hK => by simp (decide := true) only [go_sem, Nat.reduceAdd, Nat.reduceMul]; exact hK) ?_
    refine AL_seq ?_
    rcases ite_orp h with ⟨c9, h⟩ | ⟨c9, h⟩
    ·
     refine AL_then (by simp (decide := true) only [go_sem, Nat.reduceAdd, Nat.reduceMul, c9]) ?_
     refine AL_skip ?_
     refine AL_seq ?_
     refine AL_block ?_
     refine AL_seq ?_
     obtain ⟨c10, h⟩ := ite_lp h
     obtain ⟨c11, h⟩ := ite_lp h
     refine rg0 [1, 2, 3, 8, 9, 10, 21, 22, 23] [32, 88] (fun K hK => by simp (decide := true) only [go_sem, Nat.reduceAdd, Nat.reduceMul, c9, c10, c11]; exact hK) ?_
     refine AL_seq ?_
     obtain ⟨t490, g12, h⟩ := bind_or h
     obtain ⟨c13, h⟩ := ite_lp h
     obtain ⟨c14, h⟩ := ite_lp h
     obtain ⟨t492, g15, h⟩ := bind_or h
     refine rg0 [1, 2, 3, 8, 9, 21, 22, 23, 39] [32] (fun K hK => by simp (decide := true) (maxSteps := 4000000) only [go_sem, Nat.reduceAdd, Nat.reduceMul, c9, c10, c11, c13, c14]; refine ⟨_, _, _, spec_bhFar.V g12, ?_⟩; simp (decide := true) (maxSteps := 4000000) only [go_sem, Nat.reduceAdd, Nat.reduceMul, c9, c10, c11, c13, c14]; refine ⟨_, _, _, spec_bhFar.V g15, ?_⟩; simp (decide := true) (maxSteps := 4000000) only [go_sem, Nat.reduceAdd, Nat.reduceMul, c9, c10, c11, c13, c14]; exact hK) ?_
     rcases ite_orp h with ⟨c16, h⟩ | ⟨c16, h⟩
     ·
      refine AL_then (by simp (decide := true) only [go_sem, Nat.reduceAdd, Nat.reduceMul, c9, c10, c11, c13, c14, c16]) ?_
      refine rg0 [1, 2, 3, 8, 21, 22, 23] [32] (fun K hK => by simp (decide := true) only [go_sem, Nat.reduceAdd, Nat.reduceMul, c9, c10, c11, c13, c14, c16]; exact hK) ?_
      refine blockQ_n ?_
      refine rg0 [1, 2, 3, 8, 21, 22, 23] [32] (fun K hK => by simp (decide := true) only [go_sem, Nat.reduceAdd, Nat.reduceMul, c9, c10, c11, c13, c14, c16]; exact hK) ?_
      refine AL_again (m := n8) (by omega) ?_
      exact ⟨_, _, _, _, _, _, _, _, _, by omega, h, At_keep [1, 2, 3, 8, 21, 22, 23] [32]⟩
     ·
      refine AL_else (by simp (decide := true) only [go_sem, Nat.reduceAdd, Nat.reduceMul, c9, c10, c11, c13, c14, c16]) ?_
      refine AL_skip ?_
      refine blockQ_n ?_
      refine rg0 [1, 2, 3, 8, 21, 22, 23] [32] (fun K hK => by simp (decide := true) only [go_sem, Nat.reduceAdd, Nat.reduceMul, c9, c10, c11, c13, c14, c16]; exact hK) ?_
      refine AL_again (m := n8) (by omega) ?_
      exact ⟨_, _, _, _, _, _, _, _, _, by omega, h, At_keep [1, 2, 3, 8, 21, 22, 23] [32]⟩
    ·
     refine AL_else (by simp (decide := true) only [go_sem, Nat.reduceAdd, Nat.reduceMul, c9]) ?_
     refine AL_exit ?_
     repeat first | refine thenQ_x ?_ | refine blockQ_miss (by decide) ?_
     refine blockQ_hit ?_
     refine AL_seq ?_
     refine rg0 [6, 7] [] (fun K hK => by simp (decide := true) only [go_sem, Nat.reduceAdd, Nat.reduceMul, c9]; exact hK) ?_
     replace h := Option.some.inj h
     obtain ⟨rfl, rfl⟩ := Prod.mk.inj h
     refine AL_ret (fun _ => rfl) ?_
     exact retF_mk rfl (by exact ⟨trivial, trivial, trivial⟩) rfl (by exact ⟨rfl, rfl, trivial⟩) (by exact trivial) (by exact trivial)
/-! spec_l1Own : 185 -/
set_option maxRecDepth 100000 in
set_option maxHeartbeats 4000000 in
theorem spec_l1Own.V {l0 : List Int} {r : List Int} (h : spec_l1Own.f l0 = some r) : FnV E 185 [.sl false 1 (mp mkI l0)] none (.sl true 1 (mp mkI r)) [] none := by
 refine FnV_list E (rs := [.tmp 2]) Try.func185 (by rfl) rfl Try.ntmps185 rfl [] (by simp) rfl (by simp) rfl (fun us => ?_)
 simp only [argsL, memL, wrapL, wrap1, Nat.reduceAdd]
 unfold spec_l1Own.f at h
 refine AL_seq ?_
 refine rg0 [0] [] (fun K hK => by simp (decide := true) only [go_sem, Nat.reduceAdd, Nat.reduceMul]; exact hK) ?_
 refine AL_seq ?_
 obtain ⟨y493, hy493, h⟩ := bind_or h
 obtain rfl := Option.some.inj hy493
 obtain ⟨c1, h⟩ := ite_l h
 try simp only [List.length_nil] at c1
 have c1l := lim8b c1
 try simp only [List.length_cons, List.length_nil, List.length_append, Nat.reduceAdd, nlit] at c1
 replace c1 := eq_true c1
 refine rg2 [2] [48] [3] ⟨[], [], []⟩ [] (fun K hK => by simp (decide := true) only [go_sem, Nat.reduceAdd, Nat.reduceMul, c1l, c1]; exact hK) ?_
 obtain rfl := Option.some.inj h
 refine AL_ret (fun _ => rfl) ?_
 exact retF_mk rfl (by exact ⟨trivial, trivial⟩) rfl (by exact rfl) (by exact trivial) (by exact trivial)
set_option maxRecDepth 100000 in
set_option maxHeartbeats 4000000 in
theorem spec_l1Own.W {l0 : List Int} {r : List Int} (h : spec_l1Own.f l0 = some r) : FnV E 185 [.sl false 1 (mp mkI l0)] none (.ref 0) [(3, 1, mp mkI r)] none := by
 refine FnV_list E (rs := [.tmp 2]) Try.func185 (by rfl) rfl Try.ntmps185 rfl [48] (by simp) rfl (by simp) rfl (fun us => ?_)
 simp only [argsL, memL, wrapL, wrap1, Nat.reduceAdd]
 unfold spec_l1Own.f at h
 refine AL_seq ?_
 refine rg0 [0] [] (fun K hK => by simp (decide := true) only [go_sem, Nat.reduceAdd, Nat.reduceMul]; exact hK) ?_
 refine AL_seq ?_
 obtain ⟨y493, hy493, h⟩ := bind_or h
 obtain rfl := Option.some.inj hy493
 obtain ⟨c1, h⟩ := ite_l h
 try simp only [List.length_nil] at c1
 have c1l := lim8b c1
 try simp only [List.length_cons, List.length_nil, List.length_append, Nat.reduceAdd, nlit] at c1
 replace c1 := eq_true c1
 refine rg2 [2] [48] [3] ⟨[], [], []⟩ [] (fun K hK => by simp (decide := true) only [go_sem, Nat.reduceAdd, Nat.reduceMul, c1l, c1]; exact hK) ?_
 obtain rfl := Option.some.inj h
 refine AL_ret (fun _ => rfl) ?_
 exact retF_mk rfl (by exact ⟨trivial, trivial⟩) rfl (by exact rfl) (by exact ⟨rfl, trivial⟩) (by exact trivial)
/-! spec_moOwn : 119 -/
set_option maxRecDepth 100000 in
set_option maxHeartbeats 4000000 in
theorem spec_moOwn.V {a0_0 : Int} {a0_1 : Int} {a0_2 : Int} {l0_3 : List Int} {l0_4 : List Int} {l0_5 : List Int} {r1 : Int} {r2 : Int} {r3 : Int} {r4 : List Int} {r5 : List Int} {r6 : List Int} (h : spec_moOwn.f a0_0 a0_1 a0_2 l0_3 l0_4 l0_5 = some (r1, r2, r3, r4, r5, r6)) : FnV E 119 [.agg [.int .i64 a0_0, .int .i64 a0_1, .int .i64 a0_2, .sl false 1 (mp mkI l0_3), .sl false 1 (mp mkI l0_4), .sl false 1 (mp mkI l0_5)]] none (.agg [.int .i64 r1, .int .i64 r2, .int .i64 r3, .sl true 1 (mp mkI r4), .sl true 1 (mp mkI r5), .sl true 1 (mp mkI r6)]) [] none := by
 refine FnV_list E (rs := [.cell 2 27]) Try.func119 (by rfl) rfl Try.ntmps119 rfl [] (by simp) rfl (by simp) rfl (fun us => ?_)
 simp only [argsL, memL, wrapL, wrap1, Nat.reduceAdd]
 unfold spec_moOwn.f at h
 refine AL_seq ?_
 refine rg0 [1, 2] [16, 24] (fun K hK => by simp (decide := true) only [go_sem, Nat.reduceAdd, Nat.reduceMul]; exact hK) ?_
 refine AL_seq ?_
 obtain ⟨t501, g1, h⟩ := bind_or h
 obtain ⟨t504, g2, h⟩ := bind_or h
 obtain ⟨t507, g3, h⟩ := bind_or h
 refine rg0 [2] [24] (fun K hK => by simp (decide := true) (maxSteps := 4000000) only [go_sem, Nat.reduceAdd, Nat.reduceMul]; refine ⟨_, _, _, spec_l1Own.V g1, ?_⟩; simp (decide := true) (maxSteps := 4000000) only [go_sem, Nat.reduceAdd, Nat.reduceMul]; refine ⟨_, _, _, spec_l1Own.V g2, ?_⟩; simp (decide := true) (maxSteps := 4000000) only [go_sem, Nat.reduceAdd, Nat.reduceMul]; refine ⟨_, _, _, spec_l1Own.V g3, ?_⟩; simp (decide := true) (maxSteps := 4000000) only [go_sem, Nat.reduceAdd, Nat.reduceMul]; exact hK) ?_
 replace h := Option.some.inj h
 obtain ⟨rfl, h1⟩ := Prod.mk.inj h
 obtain ⟨rfl, h2⟩ := Prod.mk.inj h1
 obtain ⟨rfl, h3⟩ := Prod.mk.inj h2
 obtain ⟨rfl, h4⟩ := Prod.mk.inj h3
 obtain ⟨rfl, rfl⟩ := Prod.mk.inj h4
 refine AL_ret (fun _ => rfl) ?_
 exact retF_mk rfl (by exact ⟨(by simp), trivial⟩) rfl (by exact ⟨rfl, rfl, rfl, rfl, rfl, rfl, trivial⟩) (by exact trivial) (by exact trivial)
set_option maxRecDepth 100000 in
set_option maxHeartbeats 4000000 in
theorem spec_moOwn.W {a0_0 : Int} {a0_1 : Int} {a0_2 : Int} {l0_3 : List Int} {l0_4 : List Int} {l0_5 : List Int} {r1 : Int} {r2 : Int} {r3 : Int} {r4 : List Int} {r5 : List Int} {r6 : List Int} (h : spec_moOwn.f a0_0 a0_1 a0_2 l0_3 l0_4 l0_5 = some (r1, r2, r3, r4, r5, r6)) : FnV E 119 [.agg [.int .i64 a0_0, .int .i64 a0_1, .int .i64 a0_2, .sl false 1 (mp mkI l0_3), .sl false 1 (mp mkI l0_4), .sl false 1 (mp mkI l0_5)]] none (.agg [.int .i64 r1, .int .i64 r2, .int .i64 r3, .ref 0, .ref 1, .ref 2]) [(3, 1, mp mkI r4), (3, 1, mp mkI r5), (3, 1, mp mkI r6)] none := by
 refine FnV_list E (rs := [.cell 2 27]) Try.func119 (by rfl) rfl Try.ntmps119 rfl [64, 88, 112] (by simp) rfl (by simp) rfl (fun us => ?_)
 simp only [argsL, memL, wrapL, wrap1, Nat.reduceAdd]
 unfold spec_moOwn.f at h
 refine AL_seq ?_
 refine rg0 [1, 2] [16, 24] (fun K hK => by simp (decide := true) only [go_sem, Nat.reduceAdd, Nat.reduceMul]; exact hK) ?_
 refine AL_seq ?_
 obtain ⟨t501, g1, h⟩ := bind_or h
 obtain ⟨t504, g2, h⟩ := bind_or h
 obtain ⟨t507, g3, h⟩ := bind_or h
 refine rg0 [2] [24, 64, 88, 112] (fun K hK => by simp (decide := true) (maxSteps := 4000000) only [go_sem, Nat.reduceAdd, Nat.reduceMul]; refine ⟨_, _, _, spec_l1Own.W g1, ?_⟩; simp (decide := true) (maxSteps := 4000000) only [go_sem, Nat.reduceAdd, Nat.reduceMul]; refine ⟨_, _, _, spec_l1Own.W g2, ?_⟩; simp (decide := true) (maxSteps := 4000000) only [go_sem, Nat.reduceAdd, Nat.reduceMul]; refine ⟨_, _, _, spec_l1Own.W g3, ?_⟩; simp (decide := true) (maxSteps := 4000000) only [go_sem, Nat.reduceAdd, Nat.reduceMul]; exact hK) ?_
 replace h := Option.some.inj h
 obtain ⟨rfl, h1⟩ := Prod.mk.inj h
 obtain ⟨rfl, h2⟩ := Prod.mk.inj h1
 obtain ⟨rfl, h3⟩ := Prod.mk.inj h2
 obtain ⟨rfl, h4⟩ := Prod.mk.inj h3
 obtain ⟨rfl, rfl⟩ := Prod.mk.inj h4
 refine AL_ret (fun _ => rfl) ?_
 exact retF_mk rfl (by exact ⟨(by simp), trivial⟩) rfl (by exact ⟨rfl, rfl, rfl, rfl, rfl, rfl, trivial⟩) (by exact ⟨rfl, rfl, rfl, trivial⟩) (by exact trivial)
end Go.Proofs.Ytfakhgopbhnocaa.PFnEstimates
