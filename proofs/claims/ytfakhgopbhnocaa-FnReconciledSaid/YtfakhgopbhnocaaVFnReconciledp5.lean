/- Each function's run, shown to compute what its plain function says. -/
import Derived.Test.YtfakhgopbhnocaaVFnReconciledp4
import Derived.KernelRfl
set_option linter.unusedVariables false
set_option linter.unusedSimpArgs false
namespace Go.Proofs.Ytfakhgopbhnocaa.PFnReconciled
open Go Go.Proofs.YtfakhgopbhnocaaVM Go.Proofs.Ytfakhgopbhnocaa.VE Go.RowKit Go.Proofs.YtfakhgopbhnocaaW.PrintWords Go.Proofs.YtfakhgopbhnocaaW.PrintLast Go.Proofs.YtfakhgopbhnocaaW.PrintMore
attribute [local go_sem] runF_nil runF_cons kG_go kG_store kG_skip kG_pass kS_go kS_call kQ_go flagB_no inFl_some inFl_store hasB_nil hasB_hit hasB_miss flagB_eq clB_no wrB_no clB_yes wrB_store wrB_call opdL_load opdL_index opdL_len nm0_eq nmV_nil nmV_cons pt0_ptr pt0_int pt0_bool pt0_sl pt0_nil pt0_ref pt0_agg guardB_none guardB_some gL_some gB_true gB_false gB_skip look_hit look_miss tg_hit tg_miss bg_hit bg_miss ev_tmp ev_int ev_bool ev_nil ev_agg sQ_some stO_move stO_assign stO_pick stO_un stO_bin stO_field stO_load stO_index stO_extract stO_conv stO_box stO_alloc stO_len stO_call qUn_not qUn_neg qPick_true qPick_false qField_ptr qField_fat qLd_some qConv_some sB_some sA_some qLen_sl qLen_nil boxV_agg boxV_int boxV_bool boxV_nil boxV_sl boxV_ref qBin_add qBin_sub qBin_mul qBin_quo qBin_rem qBin_and qBin_or qBin_shr qBin_shl qBin_eql qBin_neq qBin_lss qBin_leq qBin_gtr qBin_geq qBin_beq qBin_bne qEx_tup keepT_cons keepB_nil keepB_cons keepT_nil qLoad_fat1 qLoad_fat2 qLoad_ptr ldB_box1 ld1_some ldB_box2 ldB_row ldR_1 ldR_2 unc_int unc_bool unc_nil unc_ref unc_sl unc_con_sl unc_con_nil rt_int rt_bool rt_nil rt_sl qIndex_sl ixT_some ixS_some qIndex_ref ixR_some ixR1_some argPtr_nil argPtr_ptr argPtr_int argPtr_bool argPtr_sl argPtr_ref argPtr_nl argPtr_agg memIn_none memIn_some mi1_box mi2_some viewL_int viewL_bool viewL_nil viewL_sl viewL_ref vwR_some cons2_some viewLs_nil viewLs_cons viewAs_nil viewAs_cons viewA_int viewA_bool viewA_nil viewA_sl viewA_ref viewA_agg agg1_some viewA_ptr sC_go sC2_some renT_int renT_bool renT_nil renT_sl renT_agg renT_tup renA_int renA_bool renA_nil renA_sl renA_agg renL_int renL_bool renL_nil renL_sl rowsD_nil memD_none memD_some md1_box mergeL_nil mergeL_int mergeL_bool mergeL_sl mergeL_nl stO_build sP_some sF_some fillV_nil fillV_cons fl1_go stO_nilCheck qNil_ptr stO_min qMin_int stO_max qMax_int stO_make sMe_some sM_some stO_slice sSe_some sS_own sS_fix rowsV_nil rowsV_cons rv1_some rowV_int rowV_bool rowV_nil rowV_sl rowV_agg stO_append sApp_new sApp_on qStore_eq qS2_some qS1_some qApp_eq qA0_some qA1_some qA2_nil qA2_ref stored1_ptr st1_box st1_row setL_nil setL_cons qA3_some absB_t absB_b0 absB_b1 absB_nil noBB_row noBB_box noTB_int noAB_int noLB_int killT_int killA_int killL_int noTB_bool noAB_bool noLB_bool killT_bool killA_bool killL_bool noTB_nil noAB_nil noLB_nil killT_nil killA_nil killL_nil noTB_und noAB_und noLB_und killT_und killA_und killL_und noTB_skip noAB_skip noLB_skip killT_skip killA_skip killL_skip noTB_sl noAB_sl noLB_sl killT_sl killA_sl killL_sl noTB_fat noAB_fat noLB_fat killT_fat killA_fat killL_fat noTB_ref noAB_ref noLB_ref killT_ref0 killT_ref killA_ref0 killA_ref killL_ref0 killL_ref noTB_ptr noAB_ptr noLB_ptr killT_ptr0 killT_ptr killA_ptr0 killA_ptr killL_ptr0 killL_ptr noTB_agg noAB_agg noTB_tup noLB_con_sl noLB_con_nil killT_agg killA_agg killT_tup killL_con_sl killL_con_nil killTL_nil killTL_cons killBL_nil killBL_none killBL_row killBL_box shut1_int shut1_bool shut1_nil shut1_sl scal_int scal_bool known1_int known1_bool known1_nil known1_sl known1_ref opdL_call nm0_func intsOf_nil intsOf_cons qBin_eqA qBin_neA eqA_eq eqA_ne nil_beq renT_ref renA_ref renL_ref rowsD_cons qLen_refR lenR_some tn_lt rowI_getn rowI_set nlit rowI_scal mp_nil rowI_cons rowI_len mkI_eq mkB_eq mp_length mp_app mp_ne rowI_one rowI_zero ibeq ibne true_and and_true and_self decide_true decide_false Bool.not_true Bool.not_false Bool.not_not List.length_map List.length_cons List.length_nil List.getElem?_cons_zero List.getElem?_cons_succ List.drop_zero List.drop_succ_cons List.take_succ_cons List.take_zero List.map_cons List.map_nil List.all_cons List.all_nil Bool.and_true Bool.true_and List.getD_cons_zero List.getD_cons_succ List.set_cons_zero List.set_cons_succ Option.isSome_none Option.isSome_some List.nil_append List.cons_append List.append_eq List.append_nil List.length_append cond_true cond_false ne_eq List.map_eq_nil_iff not_false_eq_true List.cons_ne_nil Bool.true_bne Bool.false_bne Bool.bne_true Bool.bne_false Bool.true_beq Bool.false_beq Int.zero_sub List.cons_beq_cons Option.map_some true_or or_true beq_self_eq_true Nat.zero_lt_succ ti_3 ti_5 ti_22 ti_24 ti_25 ti_27 ti_68 ti_127 ti_129 el_22 el_25 el_32 el_60 el_205 fo_24_0 fo_24_1 fo_24_2 fo_27_0 fo_27_1 fo_27_2 fo_27_3 fo_68_0 fo_68_1 fo_68_2 fo_68_3 fo_68_4 fo_129_0 fo_129_1 fo_129_2 bo_4 io_3 io_5 io_127 pl_24 pl_27 pl_68 pl_129 eqs_24 loud_3 loud_8 loud_9 loud_10 loud_11 loud_12 loud_13 loud_14 loud_15 loud_16 loud_17 loud_18 loud_19 loud_20 loud_21 loud_22 loud_34 loud_36 loud_94 loud_95 loud_96 loud_97 loud_98 loud_99 loud_100 loud_101 loud_102 loud_103 loud_104 loud_105 loud_106 loud_107 loud_108 loud_109 loud_110 loud_111 loud_112 loud_117 loud_119 loud_120 loud_121 loud_122 loud_131 loud_136 loud_145 loud_177 loud_178 loud_179 loud_180 loud_181 loud_182 loud_183 loud_184 loud_185 loud_189 i64w wl mx_rule mn_rule rowI_get rowB_get mkS24_eq rowS24_get rowS24_one rowS24_cons rowS24_len mkL_eq rowL_one rowL_cons rowL_len rowL_get
/-! spec_l1Cur_beside : 94 -/
set_option maxRecDepth 100000 in
set_option maxHeartbeats 4000000 in
theorem spec_l1Cur_beside.V {k : Nat} {s0_0 : List Int} {s0_1 : Int} {s0_2 : Int} {r1 : Int} {r2 : Int} {r3 : Int} {r4 : List Int} {r5 : List Int} {r6 : List Int} {r7 : Int} {r8 : Int} {r9 : Int} {r10 : List Int} {r11 : List Int} {r12 : List Int} {r13 : Int} {r14 : Int} (h : spec_l1Cur_beside.f k s0_0 s0_1 s0_2 = some (r1, r2, r3, r4, r5, r6, r7, r8, r9, r10, r11, r12, r13, r14)) : FnV E 94 [.ptr 0 0 0] (some [.sl false 1 (mp mkB s0_0), .int .i64 s0_1, .int .u64 s0_2]) (.tup [.agg [.int .i64 r1, .int .i64 r2, .int .i64 r3, .sl true 1 (mp mkI r4), .sl true 1 (mp mkI r5), .sl true 1 (mp mkI r6)], .agg [.int .i64 r7, .int .i64 r8, .int .i64 r9, .sl true 1 (mp mkI r10), .sl true 1 (mp mkI r11), .sl true 1 (mp mkI r12)]]) [] (some [.sl false 1 (mp mkB s0_0), .int .i64 r13, .int .u64 r14]) := by
  refine FnV_list E (rs := [.cell 2 27, .cell 3 27]) Try.func94 (by rfl) rfl Try.ntmps94 rfl [] (by simp) rfl (by simp) rfl (fun us => ?_)
  simp only [argsL, memL, wrapL, wrap1, Nat.reduceAdd]
  unfold spec_l1Cur_beside.f at h
  refine AL_seq ?_
  refine AL_region [0, 2, 3] [0, 24, 32] [] ⟨[], [], []⟩ [] (by kernel_rfl) (by kernel_rfl) (by kernel_rfl) (fun K hK => by simp (decide := true) only [go_sem, Nat.reduceAdd, Nat.reduceMul]; exact hK) ?_
  refine AL_seq ?_
  obtain ⟨⟨t285, t286, t287, t288, t291, t294, t297, t298⟩, g1, h⟩ := bind_or h
  dsimp only at h
  refine AL_region [0, 2, 3, 4] [0, 24, 32, 40] [] ⟨[], [], []⟩ [] (by kernel_rfl) (by kernel_rfl) (by kernel_rfl) (fun K hK => by simp (decide := true) only [go_sem, Nat.reduceAdd, Nat.reduceMul]; refine ⟨_, _, _, spec_l1Cur_anyModel.V g1, ?_⟩; simp (decide := true) only [go_sem, Nat.reduceAdd, Nat.reduceMul]; exact hK) ?_
  refine AL_seq ?_
  refine AL_seq ?_
  obtain ⟨⟨t300, t301, t302⟩, g2, h⟩ := bind_or h
  dsimp only at h
  refine AL_region [0, 2, 3, 4, 10] [0, 24, 32, 40] [] ⟨[], [], []⟩ [] (by kernel_rfl) (by kernel_rfl) (by kernel_rfl) (fun K hK => by simp (decide := true) only [go_sem, Nat.reduceAdd, Nat.reduceMul]; refine ⟨_, _, _, spec_l1Cur_one.V g2, ?_⟩; simp (decide := true) only [go_sem, Nat.reduceAdd, Nat.reduceMul]; exact hK) ?_
  rcases ite_or h with ⟨c3, h⟩ | ⟨c3, h⟩
  ·
    refine AL_then (by simp (decide := true) only [go_sem, Nat.reduceAdd, Nat.reduceMul, c3]) ?_
    refine AL_seq ?_
    obtain ⟨⟨t303, t304, t305, t306, t309, t312, t315, t316⟩, g4, h⟩ := bind_or h
    dsimp only at h
    refine AL_region [2, 3] [0, 24, 32] [] ⟨[11], [13], [0]⟩ [] (by kernel_rfl) (by kernel_rfl) (by kernel_rfl) (fun K hK => by simp (decide := true) only [go_sem, Nat.reduceAdd, Nat.reduceMul, c3]; refine ⟨_, _, _, spec_l1Cur_anyModel.V g4, ?_⟩; simp (decide := true) only [go_sem, Nat.reduceAdd, Nat.reduceMul, c3]; exact hK) ?_
    replace h := Option.some.inj h
    obtain ⟨rfl, h1⟩ := Prod.mk.inj h
    obtain ⟨rfl, h2⟩ := Prod.mk.inj h1
    obtain ⟨rfl, h3⟩ := Prod.mk.inj h2
    obtain ⟨rfl, h4⟩ := Prod.mk.inj h3
    obtain ⟨rfl, h5⟩ := Prod.mk.inj h4
    obtain ⟨rfl, h6⟩ := Prod.mk.inj h5
    obtain ⟨rfl, h7⟩ := Prod.mk.inj h6
    obtain ⟨rfl, h8⟩ := Prod.mk.inj h7
    obtain ⟨rfl, h9⟩ := Prod.mk.inj h8
    obtain ⟨rfl, h10⟩ := Prod.mk.inj h9
    obtain ⟨rfl, h11⟩ := Prod.mk.inj h10
    obtain ⟨rfl, h12⟩ := Prod.mk.inj h11
    obtain ⟨rfl, rfl⟩ := Prod.mk.inj h12
    refine AL_ret (fun _ => rfl) ?_
    exact retF_mk rfl (by exact ⟨(by simp), (by simp), trivial⟩) rfl (by exact ⟨⟨rfl, rfl, rfl, rfl, rfl, rfl, trivial⟩, ⟨rfl, rfl, rfl, rfl, rfl, rfl, trivial⟩, trivial⟩) (by exact trivial) (by exact ⟨rfl, rfl⟩)
  ·
    replace c3 := Bool.of_not_eq_true c3
    refine AL_else (by simp (decide := true) only [go_sem, Nat.reduceAdd, Nat.reduceMul, c3]) ?_
    refine AL_skip ?_
    refine AL_seq ?_
    obtain ⟨⟨t317, t318, t319, t320, t323, t326⟩, g5, h⟩ := bind_or h
    dsimp only at h
    refine AL_region [0, 2, 3, 4, 5] [0, 24, 32, 40, 48, 128, 129, 130] [] ⟨[], [], []⟩ [] (by kernel_rfl) (by kernel_rfl) (by kernel_rfl) (fun K hK => by simp (decide := true) only [go_sem, Nat.reduceAdd, Nat.reduceMul, c3]; refine ⟨_, _, _, spec_moOwn.W g5, ?_⟩; simp (decide := true) only [go_sem, Nat.reduceAdd, Nat.reduceMul, c3]; exact hK) ?_
    refine AL_seq ?_
    refine AL_seq ?_
    refine AL_region [0, 2, 3, 4, 5, 18, 19] [0, 24, 32, 40, 48, 128, 129, 130] [] ⟨[], [], []⟩ [] (by kernel_rfl) (by kernel_rfl) (by kernel_rfl) (fun K hK => by simp (decide := true) only [go_sem, Nat.reduceAdd, Nat.reduceMul, c3]; exact hK) ?_
    refine AL_block ?_
    refine AL_loop (n := k) (fun n S => (∃ x18 : Int, ∃ x19 : Int, ∃ x1001 : Int, ∃ x1002 : Int, ∃ x284000 : Int, ∃ x284001 : Int, ∃ x284002 : Int, ∃ x285000 : Int, ∃ x285001 : Int, ∃ x285002 : Int, ∃ x300000 : Int, ∃ x300001 : Int, ∃ x300002 : Int, ∃ x300003 : List Int, ∃ x300004 : List Int, ∃ x300005 : List Int, ∃ x330000 : Int, ∃ x330001 : Int, ∃ x330002 : Int, ∃ x330003 : List Int, ∃ x330004 : List Int, ∃ x330005 : List Int, n ≤ k ∧ spec_l1Cur_beside.l0 n x18 x19 s0_0 x1001 x1002 x300000 x300001 x300002 x300003 x300004 x300005 x330000 x330001 x330002 x330003 x330004 x330005 = some (r1, r2, r3, r4, r5, r6, r7, r8, r9, r10, r11, r12, r13, r14) ∧ At [(0, .ptr 0 0 0), (2, .ptr 24 0 0), (3, .ptr 32 0 0), (4, .ptr 40 0 0), (5, .ptr 48 0 0), (18, .int .i64 x18), (19, .int .i64 x19)] [(0, some (.box [.con (us 0) (.sl false 1 (mp mkB s0_0)), .int .i64 x1001, .int .u64 x1002])), (24, some (.box [.int .i64 x284000, .int .i64 x284001, .int .i64 x284002, .nil, .nil, .nil])), (32, some (.box [.int .i64 x285000, .int .i64 x285001, .int .i64 x285002, .nil, .nil, .nil])), (40, some (.box [.int .i64 x300000, .int .i64 x300001, .int .i64 x300002, .sl true 1 (mp mkI x300003), .sl true 1 (mp mkI x300004), .sl true 1 (mp mkI x300005)])), (48, some (.box [.int .i64 x330000, .int .i64 x330001, .int .i64 x330002, .ref 128, .ref 129, .ref 130])), (128, some (.row 3 1 (mp mkI x330003))), (129, some (.row 3 1 (mp mkI x330004))), (130, some (.row 3 1 (mp mkI x330005)))] S)) ?_ ?_
    · exact ⟨_, _, _, _, _, _, _, _, _, _, _, _, _, _, _, _, _, _, _, _, _, _, by omega, h, At_keep [0, 2, 3, 4, 5, 18, 19] [0, 24, 32, 40, 48, 128, 129, 130]⟩
    ·
      intro n S hS
      obtain ⟨x18, x19, x1001, x1002, x284000, x284001, x284002, x285000, x285001, x285002, x300000, x300001, x300002, x300003, x300004, x300005, x330000, x330001, x330002, x330003, x330004, x330005, hkq6, h, hS⟩ := hS
      rcases n with _ | n7
      · (rw [spec_l1Cur_beside.l0] at h; cases h)
      rw [spec_l1Cur_beside.l0] at h
      refine AW_at hS ?_
      refine AL_seq ?_
      refine AL_region [0, 2, 3, 4, 5, 18, 19, 20] [0, 24, 32, 40, 48, 128, 129, 130] [] ⟨[], [], []⟩ [] (by kernel_rfl) (by kernel_rfl) (by kernel_rfl) (fun K hK => by simp (decide := true) only [go_sem, Nat.reduceAdd, Nat.reduceMul]; exact hK) ?_
      refine AL_seq ?_
      rcases ite_or h with ⟨c8, h⟩ | ⟨c8, h⟩
      ·
        replace c8 := eq_true c8
        refine AL_then (by simp (decide := true) only [go_sem, Nat.reduceAdd, Nat.reduceMul, c8]) ?_
        refine AL_skip ?_
        refine AL_seq ?_
        refine AL_block ?_
        refine AL_seq ?_
        refine AL_region [0, 2, 3, 4, 5, 6, 18, 19] [0, 24, 32, 40, 48, 128, 129, 130] [] ⟨[], [], []⟩ [] (by kernel_rfl) (by kernel_rfl) (by kernel_rfl) (fun K hK => by simp (decide := true) only [go_sem, Nat.reduceAdd, Nat.reduceMul, c8]; exact hK) ?_
        refine AL_seq ?_
        obtain ⟨⟨t330, t331, t332⟩, g9, h⟩ := bind_or h
        dsimp only at h
        refine AL_region [0, 2, 3, 4, 5, 6, 18, 19, 23] [0, 24, 32, 40, 48, 128, 129, 130] [] ⟨[], [], []⟩ [] (by kernel_rfl) (by kernel_rfl) (by kernel_rfl) (fun K hK => by simp (decide := true) only [go_sem, Nat.reduceAdd, Nat.reduceMul, c8]; refine ⟨_, _, _, spec_l1Cur_pick.V g9, ?_⟩; simp (decide := true) only [go_sem, Nat.reduceAdd, Nat.reduceMul, c8]; exact hK) ?_
        refine AL_block ?_
        refine AL_seq ?_
        refine AL_region [0, 2, 3, 4, 5, 6, 18, 19, 23, 24] [0, 24, 32, 40, 48, 128, 129, 130] [] ⟨[], [], []⟩ [] (by kernel_rfl) (by kernel_rfl) (by kernel_rfl) (fun K hK => by simp (decide := true) only [go_sem, Nat.reduceAdd, Nat.reduceMul, c8]; exact hK) ?_
        rcases ite_or h with ⟨c10, h⟩ | ⟨c10, h⟩
        ·
          replace c10 := eq_true c10
          refine AL_then (by simp (decide := true) only [go_sem, Nat.reduceAdd, Nat.reduceMul, c8, c10]) ?_
          obtain ⟨c11, h⟩ := ite_l h
          replace c11 := eq_true c11
          obtain ⟨c12, h⟩ := ite_l h
          replace c12 := eq_true c12
          obtain ⟨⟨t334, t335, t336⟩, g13, h⟩ := bind_or h
          dsimp only at h
          obtain ⟨t337, g14, h⟩ := bind_or h
          obtain ⟨t338, g15, h⟩ := bind_or h
          refine AL_region [0, 2, 3, 4, 5, 18, 19] [0, 24, 32, 40, 48, 128, 129, 130] [] ⟨[27, 30, 32, 33], [35], [0]⟩ [] (by kernel_rfl) (by kernel_rfl) (by kernel_rfl) (fun K hK => by simp (decide := true) (maxSteps := 4000000) only [go_sem, Nat.reduceAdd, Nat.reduceMul, c8, c10, c11, c12]; refine ⟨_, _, _, spec_l1Cur_pick.V g13, ?_⟩; simp (decide := true) (maxSteps := 4000000) only [go_sem, Nat.reduceAdd, Nat.reduceMul, c8, c10, c11, c12]; refine ⟨_, _, _, spec_l1Most.V g14, ?_⟩; simp (decide := true) (maxSteps := 4000000) only [go_sem, Nat.reduceAdd, Nat.reduceMul, c8, c10, c11, c12]; refine ⟨_, _, _, spec_l1Least.V g15, ?_⟩; simp (decide := true) (maxSteps := 4000000) only [go_sem, Nat.reduceAdd, Nat.reduceMul, c8, c10, c11, c12]; exact hK) ?_
          refine blockQ_n ?_
          refine blockQ_n ?_
          refine AL_region [0, 2, 3, 4, 5, 18, 19] [0, 24, 32, 40, 48, 128, 129, 130] [] ⟨[], [], []⟩ [] (by kernel_rfl) (by kernel_rfl) (by kernel_rfl) (fun K hK => by simp (decide := true) only [go_sem, Nat.reduceAdd, Nat.reduceMul, c8, c10, c11, c12]; exact hK) ?_
          refine AL_again (m := n7) (by omega) ?_
          exact ⟨_, _, _, _, _, _, _, _, _, _, _, _, _, _, _, _, _, _, _, _, _, _, by omega, h, At_keep [0, 2, 3, 4, 5, 18, 19] [0, 24, 32, 40, 48, 128, 129, 130]⟩
        ·
          replace c10 := eq_false c10
          refine AL_else (by simp (decide := true) only [go_sem, Nat.reduceAdd, Nat.reduceMul, c8, c10]) ?_
          refine AL_seq ?_
          refine AL_region [0, 2, 3, 4, 5, 6, 18, 19, 41] [0, 24, 32, 40, 48, 128, 129, 130] [] ⟨[], [], []⟩ [] (by kernel_rfl) (by kernel_rfl) (by kernel_rfl) (fun K hK => by simp (decide := true) only [go_sem, Nat.reduceAdd, Nat.reduceMul, c8, c10]; exact hK) ?_
          rcases ite_or h with ⟨c16, h⟩ | ⟨c16, h⟩
          ·
            replace c16 := eq_true c16
            refine AL_then (by simp (decide := true) only [go_sem, Nat.reduceAdd, Nat.reduceMul, c8, c10, c16]) ?_
            refine AL_seq ?_
            refine AL_region [0, 2, 3, 4, 5, 6, 18, 19, 47] [0, 24, 32, 40, 48, 128, 129, 130] [] ⟨[], [], []⟩ [] (by kernel_rfl) (by kernel_rfl) (by kernel_rfl) (fun K hK => by simp (decide := true) only [go_sem, Nat.reduceAdd, Nat.reduceMul, c8, c10, c16]; exact hK) ?_
            rcases ite_or h with ⟨c17, h⟩ | ⟨c17, h⟩
            ·
              replace c17 := eq_true c17
              refine AL_then (by simp (decide := true) only [go_sem, Nat.reduceAdd, Nat.reduceMul, c8, c10, c16, c17]) ?_
              obtain ⟨c18, h⟩ := ite_l h
              replace c18 := eq_true c18
              obtain ⟨⟨t341, t342, t343⟩, g19, h⟩ := bind_or h
              dsimp only at h
              obtain ⟨t344, g20, h⟩ := bind_or h
              refine AL_region [0, 2, 3, 4, 5, 18, 19] [0, 24, 32, 40, 48, 128, 129, 130] [] ⟨[49, 52, 54, 55], [57], [0]⟩ [] (by kernel_rfl) (by kernel_rfl) (by kernel_rfl) (fun K hK => by simp (decide := true) (maxSteps := 4000000) only [go_sem, Nat.reduceAdd, Nat.reduceMul, c8, c10, c16, c17, c18]; refine ⟨_, _, _, spec_l1Cur_pick.V g19, ?_⟩; simp (decide := true) (maxSteps := 4000000) only [go_sem, Nat.reduceAdd, Nat.reduceMul, c8, c10, c16, c17, c18]; refine ⟨_, _, _, spec_l1Most.V g20, ?_⟩; simp (decide := true) (maxSteps := 4000000) only [go_sem, Nat.reduceAdd, Nat.reduceMul, c8, c10, c16, c17, c18]; exact hK) ?_
              refine blockQ_n ?_
              refine blockQ_n ?_
              refine AL_region [0, 2, 3, 4, 5, 18, 19] [0, 24, 32, 40, 48, 128, 129, 130] [] ⟨[], [], []⟩ [] (by kernel_rfl) (by kernel_rfl) (by kernel_rfl) (fun K hK => by simp (decide := true) only [go_sem, Nat.reduceAdd, Nat.reduceMul, c8, c10, c16, c17, c18]; exact hK) ?_
              refine AL_again (m := n7) (by omega) ?_
              exact ⟨_, _, _, _, _, _, _, _, _, _, _, _, _, _, _, _, _, _, _, _, _, _, by omega, h, At_keep [0, 2, 3, 4, 5, 18, 19] [0, 24, 32, 40, 48, 128, 129, 130]⟩
            ·
              replace c17 := eq_false c17
              refine AL_else (by simp (decide := true) only [go_sem, Nat.reduceAdd, Nat.reduceMul, c8, c10, c16, c17]) ?_
              refine AL_skip ?_
              refine blockQ_n ?_
              refine blockQ_n ?_
              refine AL_region [0, 2, 3, 4, 5, 18, 19] [0, 24, 32, 40, 48, 128, 129, 130] [] ⟨[], [], []⟩ [] (by kernel_rfl) (by kernel_rfl) (by kernel_rfl) (fun K hK => by simp (decide := true) only [go_sem, Nat.reduceAdd, Nat.reduceMul, c8, c10, c16, c17]; exact hK) ?_
              refine AL_again (m := n7) (by omega) ?_
              exact ⟨_, _, _, _, _, _, _, _, _, _, _, _, _, _, _, _, _, _, _, _, _, _, by omega, h, At_keep [0, 2, 3, 4, 5, 18, 19] [0, 24, 32, 40, 48, 128, 129, 130]⟩
          ·
            replace c16 := eq_false c16
            refine AL_else (by simp (decide := true) only [go_sem, Nat.reduceAdd, Nat.reduceMul, c8, c10, c16]) ?_
            refine AL_skip ?_
            refine blockQ_n ?_
            refine blockQ_n ?_
            refine AL_region [0, 2, 3, 4, 5, 18, 19] [0, 24, 32, 40, 48, 128, 129, 130] [] ⟨[], [], []⟩ [] (by kernel_rfl) (by kernel_rfl) (by kernel_rfl) (fun K hK => by simp (decide := true) only [go_sem, Nat.reduceAdd, Nat.reduceMul, c8, c10, c16]; exact hK) ?_
            refine AL_again (m := n7) (by omega) ?_
            exact ⟨_, _, _, _, _, _, _, _, _, _, _, _, _, _, _, _, _, _, _, _, _, _, by omega, h, At_keep [0, 2, 3, 4, 5, 18, 19] [0, 24, 32, 40, 48, 128, 129, 130]⟩
      ·
        replace c8 := eq_false c8
        refine AL_else (by simp (decide := true) only [go_sem, Nat.reduceAdd, Nat.reduceMul, c8]) ?_
        refine AL_exit ?_
        repeat first | refine thenQ_x ?_ | refine blockQ_miss (by decide) ?_
        refine blockQ_hit ?_
        refine AL_seq ?_
        refine AL_region [2, 3] [0, 24, 32, 128, 129, 130] [] ⟨[63], [100002], [24]⟩ [] (by kernel_rfl) (by kernel_rfl) (by kernel_rfl) (fun K hK => by simp (decide := true) only [go_sem, Nat.reduceAdd, Nat.reduceMul, c8]; exact hK) ?_
        replace h := Option.some.inj h
        obtain ⟨rfl, h1⟩ := Prod.mk.inj h
        obtain ⟨rfl, h2⟩ := Prod.mk.inj h1
        obtain ⟨rfl, h3⟩ := Prod.mk.inj h2
        obtain ⟨rfl, h4⟩ := Prod.mk.inj h3
        obtain ⟨rfl, h5⟩ := Prod.mk.inj h4
        obtain ⟨rfl, h6⟩ := Prod.mk.inj h5
        obtain ⟨rfl, h7⟩ := Prod.mk.inj h6
        obtain ⟨rfl, h8⟩ := Prod.mk.inj h7
        obtain ⟨rfl, h9⟩ := Prod.mk.inj h8
        obtain ⟨rfl, h10⟩ := Prod.mk.inj h9
        obtain ⟨rfl, h11⟩ := Prod.mk.inj h10
        obtain ⟨rfl, h12⟩ := Prod.mk.inj h11
        obtain ⟨rfl, rfl⟩ := Prod.mk.inj h12
        refine AL_ret (fun _ => rfl) ?_
        exact retF_mk rfl (by exact ⟨(by simp), (by simp), trivial⟩) rfl (by exact ⟨⟨rfl, rfl, rfl, rfl, rfl, rfl, trivial⟩, ⟨rfl, rfl, rfl, rfl, rfl, rfl, trivial⟩, trivial⟩) (by exact trivial) (by exact ⟨rfl, rfl⟩)
end Go.Proofs.Ytfakhgopbhnocaa.PFnReconciled
