/- Each function's run, shown to compute what its plain function says. -/
import Derived.Test.YtfakhgopbhnocaaVFnReconciledp2
import Derived.KernelRfl
set_option linter.unusedVariables false
set_option linter.unusedSimpArgs false
namespace Go.Proofs.Ytfakhgopbhnocaa.PFnReconciled
open Go Go.Proofs.YtfakhgopbhnocaaVM Go.Proofs.Ytfakhgopbhnocaa.VE Go.RowKit Go.Proofs.YtfakhgopbhnocaaW.PrintWords Go.Proofs.YtfakhgopbhnocaaW.PrintLast Go.Proofs.YtfakhgopbhnocaaW.PrintMore
attribute [local go_sem] runF_nil runF_cons kG_go kG_store kG_skip kG_pass kS_go kS_call kQ_go flagB_no inFl_some inFl_store hasB_nil hasB_hit hasB_miss flagB_eq clB_no wrB_no clB_yes wrB_store wrB_call opdL_load opdL_index opdL_len nm0_eq nmV_nil nmV_cons pt0_ptr pt0_int pt0_bool pt0_sl pt0_nil pt0_ref pt0_agg guardB_none guardB_some gL_some gB_true gB_false gB_skip look_hit look_miss tg_hit tg_miss bg_hit bg_miss ev_tmp ev_int ev_bool ev_nil ev_agg sQ_some stO_move stO_assign stO_pick stO_un stO_bin stO_field stO_load stO_index stO_extract stO_conv stO_box stO_alloc stO_len stO_call qUn_not qUn_neg qPick_true qPick_false qField_ptr qField_fat qLd_some qConv_some sB_some sA_some qLen_sl qLen_nil boxV_agg boxV_int boxV_bool boxV_nil boxV_sl boxV_ref qBin_add qBin_sub qBin_mul qBin_quo qBin_rem qBin_and qBin_or qBin_shr qBin_shl qBin_eql qBin_neq qBin_lss qBin_leq qBin_gtr qBin_geq qBin_beq qBin_bne qEx_tup keepT_cons keepB_nil keepB_cons keepT_nil qLoad_fat1 qLoad_fat2 qLoad_ptr ldB_box1 ld1_some ldB_box2 ldB_row ldR_1 ldR_2 unc_int unc_bool unc_nil unc_ref unc_sl unc_con_sl unc_con_nil rt_int rt_bool rt_nil rt_sl qIndex_sl ixT_some ixS_some qIndex_ref ixR_some ixR1_some argPtr_nil argPtr_ptr argPtr_int argPtr_bool argPtr_sl argPtr_ref argPtr_nl argPtr_agg memIn_none memIn_some mi1_box mi2_some viewL_int viewL_bool viewL_nil viewL_sl viewL_ref vwR_some cons2_some viewLs_nil viewLs_cons viewAs_nil viewAs_cons viewA_int viewA_bool viewA_nil viewA_sl viewA_ref viewA_agg agg1_some viewA_ptr sC_go sC2_some renT_int renT_bool renT_nil renT_sl renT_agg renT_tup renA_int renA_bool renA_nil renA_sl renA_agg renL_int renL_bool renL_nil renL_sl rowsD_nil memD_none memD_some md1_box mergeL_nil mergeL_int mergeL_bool mergeL_sl mergeL_nl stO_build sP_some sF_some fillV_nil fillV_cons fl1_go stO_nilCheck qNil_ptr stO_min qMin_int stO_max qMax_int stO_make sMe_some sM_some stO_slice sSe_some sS_own sS_fix rowsV_nil rowsV_cons rv1_some rowV_int rowV_bool rowV_nil rowV_sl rowV_agg stO_append sApp_new sApp_on qStore_eq qS2_some qS1_some qApp_eq qA0_some qA1_some qA2_nil qA2_ref stored1_ptr st1_box st1_row setL_nil setL_cons qA3_some absB_t absB_b0 absB_b1 absB_nil noBB_row noBB_box noTB_int noAB_int noLB_int killT_int killA_int killL_int noTB_bool noAB_bool noLB_bool killT_bool killA_bool killL_bool noTB_nil noAB_nil noLB_nil killT_nil killA_nil killL_nil noTB_und noAB_und noLB_und killT_und killA_und killL_und noTB_skip noAB_skip noLB_skip killT_skip killA_skip killL_skip noTB_sl noAB_sl noLB_sl killT_sl killA_sl killL_sl noTB_fat noAB_fat noLB_fat killT_fat killA_fat killL_fat noTB_ref noAB_ref noLB_ref killT_ref0 killT_ref killA_ref0 killA_ref killL_ref0 killL_ref noTB_ptr noAB_ptr noLB_ptr killT_ptr0 killT_ptr killA_ptr0 killA_ptr killL_ptr0 killL_ptr noTB_agg noAB_agg noTB_tup noLB_con_sl noLB_con_nil killT_agg killA_agg killT_tup killL_con_sl killL_con_nil killTL_nil killTL_cons killBL_nil killBL_none killBL_row killBL_box shut1_int shut1_bool shut1_nil shut1_sl scal_int scal_bool known1_int known1_bool known1_nil known1_sl known1_ref opdL_call nm0_func intsOf_nil intsOf_cons qBin_eqA qBin_neA eqA_eq eqA_ne nil_beq renT_ref renA_ref renL_ref rowsD_cons qLen_refR lenR_some tn_lt rowI_getn rowI_set nlit rowI_scal mp_nil rowI_cons rowI_len mkI_eq mkB_eq mp_length mp_app mp_ne rowI_one rowI_zero ibeq ibne true_and and_true and_self decide_true decide_false Bool.not_true Bool.not_false Bool.not_not List.length_map List.length_cons List.length_nil List.getElem?_cons_zero List.getElem?_cons_succ List.drop_zero List.drop_succ_cons List.take_succ_cons List.take_zero List.map_cons List.map_nil List.all_cons List.all_nil Bool.and_true Bool.true_and List.getD_cons_zero List.getD_cons_succ List.set_cons_zero List.set_cons_succ Option.isSome_none Option.isSome_some List.nil_append List.cons_append List.append_eq List.append_nil List.length_append cond_true cond_false ne_eq List.map_eq_nil_iff not_false_eq_true List.cons_ne_nil Bool.true_bne Bool.false_bne Bool.bne_true Bool.bne_false Bool.true_beq Bool.false_beq Int.zero_sub List.cons_beq_cons Option.map_some true_or or_true beq_self_eq_true Nat.zero_lt_succ ti_3 ti_5 ti_22 ti_24 ti_25 ti_27 ti_68 ti_127 ti_129 el_22 el_25 el_32 el_60 el_205 fo_24_0 fo_24_1 fo_24_2 fo_27_0 fo_27_1 fo_27_2 fo_27_3 fo_68_0 fo_68_1 fo_68_2 fo_68_3 fo_68_4 fo_129_0 fo_129_1 fo_129_2 bo_4 io_3 io_5 io_127 pl_24 pl_27 pl_68 pl_129 eqs_24 loud_3 loud_8 loud_9 loud_10 loud_11 loud_12 loud_13 loud_14 loud_15 loud_16 loud_17 loud_18 loud_19 loud_20 loud_21 loud_22 loud_34 loud_36 loud_94 loud_95 loud_96 loud_97 loud_98 loud_99 loud_100 loud_101 loud_102 loud_103 loud_104 loud_105 loud_106 loud_107 loud_108 loud_109 loud_110 loud_111 loud_112 loud_117 loud_119 loud_120 loud_121 loud_122 loud_131 loud_136 loud_145 loud_177 loud_178 loud_179 loud_180 loud_181 loud_182 loud_183 loud_184 loud_185 loud_189 i64w wl mx_rule mn_rule rowI_get rowB_get mkS24_eq rowS24_get rowS24_one rowS24_cons rowS24_len mkL_eq rowL_one rowL_cons rowL_len rowL_get
/-! spec_l1Cur_anyModel : 110 -/
set_option maxRecDepth 100000 in
set_option maxHeartbeats 4000000 in
theorem spec_l1Cur_anyModel.V {k : Nat} {s0_0 : List Int} {s0_1 : Int} {s0_2 : Int} {r1 : Int} {r2 : Int} {r3 : Int} {r4 : List Int} {r5 : List Int} {r6 : List Int} {r7 : Int} {r8 : Int} (h : spec_l1Cur_anyModel.f k s0_0 s0_1 s0_2 = some (r1, r2, r3, r4, r5, r6, r7, r8)) : FnV E 110 [.ptr 0 0 0] (some [.sl false 1 (mp mkB s0_0), .int .i64 s0_1, .int .u64 s0_2]) (.agg [.int .i64 r1, .int .i64 r2, .int .i64 r3, .sl true 1 (mp mkI r4), .sl true 1 (mp mkI r5), .sl true 1 (mp mkI r6)]) [] (some [.sl false 1 (mp mkB s0_0), .int .i64 r7, .int .u64 r8]) := by
  refine FnV_list E (rs := [.cell 2 27]) Try.func110 (by rfl) rfl Try.ntmps110 rfl [] (by simp) rfl (by simp) rfl (fun us => ?_)
  simp only [argsL, memL, wrapL, wrap1, Nat.reduceAdd]
  unfold spec_l1Cur_anyModel.f at h
  refine AL_seq ?_
  refine AL_region [0, 2] [0, 24] [] ⟨[], [], []⟩ [] (by kernel_rfl) (by kernel_rfl) (by kernel_rfl) (fun K hK => by simp (decide := true) only [go_sem, Nat.reduceAdd, Nat.reduceMul]; exact hK) ?_
  refine AL_seq ?_
  obtain ⟨⟨t209, t210, t211, t212, t215, t218, t221, t222⟩, g1, h⟩ := bind_or h
  dsimp only at h
  by_cases z2 : t212 = [] ∧ t215 = [] ∧ t218 = []
  ·
    obtain ⟨rfl, rfl, rfl⟩ := z2
    refine AL_region [0, 2, 3] [0, 24, 32] [] ⟨[], [], []⟩ [] (by kernel_rfl) (by kernel_rfl) (by kernel_rfl) (fun K hK => by simp (decide := true) only [go_sem, Nat.reduceAdd, Nat.reduceMul]; refine ⟨_, _, _, spec_l1Cur_model.N g1 ⟨rfl, rfl, rfl⟩, ?_⟩; simp (decide := true) only [go_sem, Nat.reduceAdd, Nat.reduceMul]; exact hK) ?_
    refine AL_seq ?_
    obtain ⟨t224, g3, h⟩ := bind_or h
    refine AL_region [0, 2, 3, 4] [0, 24, 32] [] ⟨[], [], []⟩ [] (by kernel_rfl) (by kernel_rfl) (by kernel_rfl) (fun K hK => by simp (decide := true) only [go_sem, Nat.reduceAdd, Nat.reduceMul]; refine ⟨_, _, _, spec_grCount.V g3, ?_⟩; simp (decide := true) only [go_sem, Nat.reduceAdd, Nat.reduceMul]; exact hK) ?_
    refine AL_seq ?_
    refine AL_seq ?_
    obtain ⟨⟨t225, t226, t227⟩, g4, h⟩ := bind_or h
    dsimp only at h
    refine AL_region [0, 2, 3, 4, 11] [0, 24, 32] [] ⟨[], [], []⟩ [] (by kernel_rfl) (by kernel_rfl) (by kernel_rfl) (fun K hK => by simp (decide := true) only [go_sem, Nat.reduceAdd, Nat.reduceMul]; refine ⟨_, _, _, spec_l1Cur_pick.V g4, ?_⟩; simp (decide := true) only [go_sem, Nat.reduceAdd, Nat.reduceMul]; exact hK) ?_
    refine AL_block ?_
    refine AL_seq ?_
    refine AL_region [0, 2, 3, 4, 11, 12] [0, 24, 32] [] ⟨[], [], []⟩ [] (by kernel_rfl) (by kernel_rfl) (by kernel_rfl) (fun K hK => by simp (decide := true) only [go_sem, Nat.reduceAdd, Nat.reduceMul]; exact hK) ?_
    rcases ite_or h with ⟨c5, h⟩ | ⟨c5, h⟩
    ·
      replace c5 := eq_true c5
      refine AL_then (by simp (decide := true) only [go_sem, Nat.reduceAdd, Nat.reduceMul, c5]) ?_
      obtain ⟨⟨t228, t229, t230, t231, t232⟩, g6, h⟩ := bind_or h
      dsimp only at h
      refine AL_region [2, 3] [0, 24, 32] [] ⟨[], [], []⟩ [] (by kernel_rfl) (by kernel_rfl) (by kernel_rfl) (fun K hK => by simp (decide := true) only [go_sem, Nat.reduceAdd, Nat.reduceMul, c5]; refine ⟨_, _, _, spec_l1Cur_anyGrid.V g6, ?_⟩; simp (decide := true) only [go_sem, Nat.reduceAdd, Nat.reduceMul, c5]; exact hK) ?_
      refine blockQ_n ?_
      refine AL_seq ?_
      refine AL_region [2] [0, 24] [] ⟨[], [], []⟩ [] (by kernel_rfl) (by kernel_rfl) (by kernel_rfl) (fun K hK => by simp (decide := true) only [go_sem, Nat.reduceAdd, Nat.reduceMul, c5]; exact hK) ?_
      replace h := Option.some.inj h
      obtain ⟨rfl, h1⟩ := Prod.mk.inj h
      obtain ⟨rfl, h2⟩ := Prod.mk.inj h1
      obtain ⟨rfl, h3⟩ := Prod.mk.inj h2
      obtain ⟨rfl, h4⟩ := Prod.mk.inj h3
      obtain ⟨rfl, h5⟩ := Prod.mk.inj h4
      obtain ⟨rfl, h6⟩ := Prod.mk.inj h5
      obtain ⟨rfl, rfl⟩ := Prod.mk.inj h6
      refine AL_ret (fun _ => rfl) ?_
      exact retF_mk rfl (by exact ⟨(by simp), trivial⟩) rfl (by exact ⟨rfl, rfl, rfl, rfl, rfl, rfl, trivial⟩) (by exact trivial) (by exact ⟨rfl, rfl⟩)
    ·
      replace c5 := eq_false c5
      refine AL_else (by simp (decide := true) only [go_sem, Nat.reduceAdd, Nat.reduceMul, c5]) ?_
      refine AL_seq ?_
      refine AL_region [0, 2, 3, 4, 11, 17] [0, 24, 32] [] ⟨[], [], []⟩ [] (by kernel_rfl) (by kernel_rfl) (by kernel_rfl) (fun K hK => by simp (decide := true) only [go_sem, Nat.reduceAdd, Nat.reduceMul, c5]; exact hK) ?_
      rcases ite_or h with ⟨c7, h⟩ | ⟨c7, h⟩
      ·
        replace c7 := eq_true c7
        refine AL_then (by simp (decide := true) only [go_sem, Nat.reduceAdd, Nat.reduceMul, c5, c7]) ?_
        obtain ⟨⟨t233, t234, t235⟩, g8, h⟩ := bind_or h
        dsimp only at h
        obtain ⟨⟨t239, t240, t241⟩, g9, h⟩ := bind_or h
        dsimp only at h
        obtain ⟨c10, h⟩ := ite_l h
        replace c10 := eq_true c10
        obtain ⟨c11, h⟩ := ite_l h
        replace c11 := eq_true c11
        exact (idx0 c10 c11).elim
      ·
        replace c7 := eq_false c7
        refine AL_else (by simp (decide := true) only [go_sem, Nat.reduceAdd, Nat.reduceMul, c5, c7]) ?_
        refine AL_seq ?_
        refine AL_region [0, 2, 3, 4, 11, 28] [0, 24, 32] [] ⟨[], [], []⟩ [] (by kernel_rfl) (by kernel_rfl) (by kernel_rfl) (fun K hK => by simp (decide := true) only [go_sem, Nat.reduceAdd, Nat.reduceMul, c5, c7]; exact hK) ?_
        rcases ite_or h with ⟨c12, h⟩ | ⟨c12, h⟩
        ·
          replace c12 := eq_true c12
          refine AL_then (by simp (decide := true) only [go_sem, Nat.reduceAdd, Nat.reduceMul, c5, c7, c12]) ?_
          obtain ⟨⟨t243, t244, t245⟩, g13, h⟩ := bind_or h
          dsimp only at h
          obtain ⟨⟨t249, t250, t251⟩, g14, h⟩ := bind_or h
          dsimp only at h
          obtain ⟨c15, h⟩ := ite_l h
          replace c15 := eq_true c15
          obtain ⟨c16, h⟩ := ite_l h
          replace c16 := eq_true c16
          exact (idx0 c15 c16).elim
        ·
          replace c12 := eq_false c12
          refine AL_else (by simp (decide := true) only [go_sem, Nat.reduceAdd, Nat.reduceMul, c5, c7, c12]) ?_
          refine AL_seq ?_
          refine AL_region [0, 2, 3, 4, 11, 39] [0, 24, 32] [] ⟨[], [], []⟩ [] (by kernel_rfl) (by kernel_rfl) (by kernel_rfl) (fun K hK => by simp (decide := true) only [go_sem, Nat.reduceAdd, Nat.reduceMul, c5, c7, c12]; exact hK) ?_
          rcases ite_or h with ⟨c17, h⟩ | ⟨c17, h⟩
          ·
            replace c17 := eq_true c17
            refine AL_then (by simp (decide := true) only [go_sem, Nat.reduceAdd, Nat.reduceMul, c5, c7, c12, c17]) ?_
            obtain ⟨⟨t253, t254, t255⟩, g18, h⟩ := bind_or h
            dsimp only at h
            obtain ⟨⟨t259, t260, t261⟩, g19, h⟩ := bind_or h
            dsimp only at h
            obtain ⟨c20, h⟩ := ite_l h
            replace c20 := eq_true c20
            obtain ⟨c21, h⟩ := ite_l h
            replace c21 := eq_true c21
            exact (idx0 c20 c21).elim
          ·
            replace c17 := eq_false c17
            refine AL_else (by simp (decide := true) only [go_sem, Nat.reduceAdd, Nat.reduceMul, c5, c7, c12, c17]) ?_
            refine AL_seq ?_
            refine AL_region [2, 3, 50] [0, 24, 32] [] ⟨[], [], []⟩ [] (by kernel_rfl) (by kernel_rfl) (by kernel_rfl) (fun K hK => by simp (decide := true) only [go_sem, Nat.reduceAdd, Nat.reduceMul, c5, c7, c12, c17]; exact hK) ?_
            rcases ite_or h with ⟨c22, h⟩ | ⟨c22, h⟩
            ·
              replace c22 := eq_true c22
              refine AL_then (by simp (decide := true) only [go_sem, Nat.reduceAdd, Nat.reduceMul, c5, c7, c12, c17, c22]) ?_
              obtain ⟨c23, h⟩ := ite_l h
              have c23l := lim8 c23
              replace c23 := eq_true c23
              refine AL_region [2, 3] [0, 24, 32, 448] [] ⟨[], [], []⟩ [] (by kernel_rfl) (by kernel_rfl) (by kernel_rfl) (fun K hK => by simp (decide := true) only [go_sem, Nat.reduceAdd, Nat.reduceMul, c5, c7, c12, c17, c22, c23l, c23]; exact hK) ?_
              refine blockQ_n ?_
              refine AL_seq ?_
              refine AL_region [2] [0, 24, 448] [] ⟨[], [], []⟩ [] (by kernel_rfl) (by kernel_rfl) (by kernel_rfl) (fun K hK => by simp (decide := true) only [go_sem, Nat.reduceAdd, Nat.reduceMul, c5, c7, c12, c17, c22, c23l, c23]; exact hK) ?_
              replace h := Option.some.inj h
              obtain ⟨rfl, h1⟩ := Prod.mk.inj h
              obtain ⟨rfl, h2⟩ := Prod.mk.inj h1
              obtain ⟨rfl, h3⟩ := Prod.mk.inj h2
              obtain ⟨rfl, h4⟩ := Prod.mk.inj h3
              obtain ⟨rfl, h5⟩ := Prod.mk.inj h4
              obtain ⟨rfl, h6⟩ := Prod.mk.inj h5
              obtain ⟨rfl, rfl⟩ := Prod.mk.inj h6
              refine AL_ret (fun _ => rfl) ?_
              exact retF_mk rfl (by exact ⟨(by simp), trivial⟩) rfl (by exact ⟨rfl, rfl, rfl, rfl, rfl, rfl, trivial⟩) (by exact trivial) (by exact ⟨rfl, rfl⟩)
            ·
              replace c22 := eq_false c22
              refine AL_else (by simp (decide := true) only [go_sem, Nat.reduceAdd, Nat.reduceMul, c5, c7, c12, c17, c22]) ?_
              refine AL_skip ?_
              refine blockQ_n ?_
              refine AL_seq ?_
              refine AL_region [2] [0, 24] [] ⟨[], [], []⟩ [] (by kernel_rfl) (by kernel_rfl) (by kernel_rfl) (fun K hK => by simp (decide := true) only [go_sem, Nat.reduceAdd, Nat.reduceMul, c5, c7, c12, c17, c22]; exact hK) ?_
              replace h := Option.some.inj h
              obtain ⟨rfl, h1⟩ := Prod.mk.inj h
              obtain ⟨rfl, h2⟩ := Prod.mk.inj h1
              obtain ⟨rfl, h3⟩ := Prod.mk.inj h2
              obtain ⟨rfl, h4⟩ := Prod.mk.inj h3
              obtain ⟨rfl, h5⟩ := Prod.mk.inj h4
              obtain ⟨rfl, h6⟩ := Prod.mk.inj h5
              obtain ⟨rfl, rfl⟩ := Prod.mk.inj h6
              refine AL_ret (fun _ => rfl) ?_
              exact retF_mk rfl (by exact ⟨(by simp), trivial⟩) rfl (by exact ⟨rfl, rfl, rfl, rfl, rfl, rfl, trivial⟩) (by exact trivial) (by exact ⟨rfl, rfl⟩)
  ·
    refine AL_region [0, 2, 3] [0, 24, 32, 56, 57, 58] [] ⟨[], [], []⟩ [] (by kernel_rfl) (by kernel_rfl) (by kernel_rfl) (fun K hK => by simp (decide := true) only [go_sem, Nat.reduceAdd, Nat.reduceMul]; refine ⟨_, _, _, spec_l1Cur_model.W g1 z2, ?_⟩; simp (decide := true) only [go_sem, Nat.reduceAdd, Nat.reduceMul]; exact hK) ?_
    refine AL_seq ?_
    obtain ⟨t224, g24, h⟩ := bind_or h
    refine AL_region [0, 2, 3, 4] [0, 24, 32, 56, 57, 58] [] ⟨[], [], []⟩ [] (by kernel_rfl) (by kernel_rfl) (by kernel_rfl) (fun K hK => by simp (decide := true) only [go_sem, Nat.reduceAdd, Nat.reduceMul]; refine ⟨_, _, _, spec_grCount.V g24, ?_⟩; simp (decide := true) only [go_sem, Nat.reduceAdd, Nat.reduceMul]; exact hK) ?_
    refine AL_seq ?_
    refine AL_seq ?_
    obtain ⟨⟨t225, t226, t227⟩, g25, h⟩ := bind_or h
    dsimp only at h
    refine AL_region [0, 2, 3, 4, 11] [0, 24, 32, 56, 57, 58] [] ⟨[], [], []⟩ [] (by kernel_rfl) (by kernel_rfl) (by kernel_rfl) (fun K hK => by simp (decide := true) only [go_sem, Nat.reduceAdd, Nat.reduceMul]; refine ⟨_, _, _, spec_l1Cur_pick.V g25, ?_⟩; simp (decide := true) only [go_sem, Nat.reduceAdd, Nat.reduceMul]; exact hK) ?_
    refine AL_block ?_
    refine AL_seq ?_
    refine AL_region [0, 2, 3, 4, 11, 12] [0, 24, 32, 56, 57, 58] [] ⟨[], [], []⟩ [] (by kernel_rfl) (by kernel_rfl) (by kernel_rfl) (fun K hK => by simp (decide := true) only [go_sem, Nat.reduceAdd, Nat.reduceMul]; exact hK) ?_
    rcases ite_or h with ⟨c26, h⟩ | ⟨c26, h⟩
    ·
      replace c26 := eq_true c26
      refine AL_then (by simp (decide := true) only [go_sem, Nat.reduceAdd, Nat.reduceMul, c26]) ?_
      obtain ⟨⟨t228, t229, t230, t231, t232⟩, g27, h⟩ := bind_or h
      dsimp only at h
      refine AL_region [2, 3] [0, 24, 32, 56, 57, 58] [] ⟨[], [], []⟩ [] (by kernel_rfl) (by kernel_rfl) (by kernel_rfl) (fun K hK => by simp (decide := true) only [go_sem, Nat.reduceAdd, Nat.reduceMul, c26]; refine ⟨_, _, _, spec_l1Cur_anyGrid.V g27, ?_⟩; simp (decide := true) only [go_sem, Nat.reduceAdd, Nat.reduceMul, c26]; exact hK) ?_
      refine blockQ_n ?_
      refine AL_seq ?_
      refine AL_region [2] [0, 24, 56, 57, 58] [] ⟨[], [], []⟩ [] (by kernel_rfl) (by kernel_rfl) (by kernel_rfl) (fun K hK => by simp (decide := true) only [go_sem, Nat.reduceAdd, Nat.reduceMul, c26]; exact hK) ?_
      replace h := Option.some.inj h
      obtain ⟨rfl, h1⟩ := Prod.mk.inj h
      obtain ⟨rfl, h2⟩ := Prod.mk.inj h1
      obtain ⟨rfl, h3⟩ := Prod.mk.inj h2
      obtain ⟨rfl, h4⟩ := Prod.mk.inj h3
      obtain ⟨rfl, h5⟩ := Prod.mk.inj h4
      obtain ⟨rfl, h6⟩ := Prod.mk.inj h5
      obtain ⟨rfl, rfl⟩ := Prod.mk.inj h6
      refine AL_ret (fun _ => rfl) ?_
      exact retF_mk rfl (by exact ⟨(by simp), trivial⟩) rfl (by exact ⟨rfl, rfl, rfl, rfl, rfl, rfl, trivial⟩) (by exact trivial) (by exact ⟨rfl, rfl⟩)
    ·
      replace c26 := eq_false c26
      refine AL_else (by simp (decide := true) only [go_sem, Nat.reduceAdd, Nat.reduceMul, c26]) ?_
      refine AL_seq ?_
      refine AL_region [0, 2, 3, 4, 11, 17] [0, 24, 32, 56, 57, 58] [] ⟨[], [], []⟩ [] (by kernel_rfl) (by kernel_rfl) (by kernel_rfl) (fun K hK => by simp (decide := true) only [go_sem, Nat.reduceAdd, Nat.reduceMul, c26]; exact hK) ?_
      rcases ite_or h with ⟨c28, h⟩ | ⟨c28, h⟩
      ·
        replace c28 := eq_true c28
        refine AL_then (by simp (decide := true) only [go_sem, Nat.reduceAdd, Nat.reduceMul, c26, c28]) ?_
        obtain ⟨⟨t233, t234, t235⟩, g29, h⟩ := bind_or h
        dsimp only at h
        obtain ⟨⟨t239, t240, t241⟩, g30, h⟩ := bind_or h
        dsimp only at h
        obtain ⟨c31, h⟩ := ite_l h
        replace c31 := eq_true c31
        obtain ⟨c32, h⟩ := ite_l h
        replace c32 := eq_true c32
        refine AL_region [2, 3] [0, 24, 32, 56, 57, 58] [] ⟨[20], [23, 26], [0]⟩ [] (by kernel_rfl) (by kernel_rfl) (by kernel_rfl) (fun K hK => by simp (decide := true) only [go_sem, Nat.reduceAdd, Nat.reduceMul, c26, c28, c31, c32]; refine ⟨_, _, _, spec_l1Cur_pick.V g29, ?_⟩; simp (decide := true) only [go_sem, Nat.reduceAdd, Nat.reduceMul, c26, c28, c31, c32]; refine ⟨_, _, _, spec_l1Cur_among.V g30, ?_⟩; simp (decide := true) only [go_sem, Nat.reduceAdd, Nat.reduceMul, c26, c28, c31, c32]; exact hK) ?_
        refine blockQ_n ?_
        refine AL_seq ?_
        refine AL_region [2] [0, 24, 56, 57, 58] [] ⟨[], [], []⟩ [] (by kernel_rfl) (by kernel_rfl) (by kernel_rfl) (fun K hK => by simp (decide := true) only [go_sem, Nat.reduceAdd, Nat.reduceMul, c26, c28, c31, c32]; exact hK) ?_
        replace h := Option.some.inj h
        obtain ⟨rfl, h1⟩ := Prod.mk.inj h
        obtain ⟨rfl, h2⟩ := Prod.mk.inj h1
        obtain ⟨rfl, h3⟩ := Prod.mk.inj h2
        obtain ⟨rfl, h4⟩ := Prod.mk.inj h3
        obtain ⟨rfl, h5⟩ := Prod.mk.inj h4
        obtain ⟨rfl, h6⟩ := Prod.mk.inj h5
        obtain ⟨rfl, rfl⟩ := Prod.mk.inj h6
        refine AL_ret (fun _ => rfl) ?_
        exact retF_mk rfl (by exact ⟨(by simp), trivial⟩) rfl (by exact ⟨rfl, rfl, rfl, rfl, rfl, rfl, trivial⟩) (by exact trivial) (by exact ⟨rfl, rfl⟩)
      ·
        replace c28 := eq_false c28
        refine AL_else (by simp (decide := true) only [go_sem, Nat.reduceAdd, Nat.reduceMul, c26, c28]) ?_
        refine AL_seq ?_
        refine AL_region [0, 2, 3, 4, 11, 28] [0, 24, 32, 56, 57, 58] [] ⟨[], [], []⟩ [] (by kernel_rfl) (by kernel_rfl) (by kernel_rfl) (fun K hK => by simp (decide := true) only [go_sem, Nat.reduceAdd, Nat.reduceMul, c26, c28]; exact hK) ?_
        rcases ite_or h with ⟨c33, h⟩ | ⟨c33, h⟩
        ·
          replace c33 := eq_true c33
          refine AL_then (by simp (decide := true) only [go_sem, Nat.reduceAdd, Nat.reduceMul, c26, c28, c33]) ?_
          obtain ⟨⟨t243, t244, t245⟩, g34, h⟩ := bind_or h
          dsimp only at h
          obtain ⟨⟨t249, t250, t251⟩, g35, h⟩ := bind_or h
          dsimp only at h
          obtain ⟨c36, h⟩ := ite_l h
          replace c36 := eq_true c36
          obtain ⟨c37, h⟩ := ite_l h
          replace c37 := eq_true c37
          refine AL_region [2, 3] [0, 24, 32, 56, 57, 58] [] ⟨[31], [34, 37], [0]⟩ [] (by kernel_rfl) (by kernel_rfl) (by kernel_rfl) (fun K hK => by simp (decide := true) only [go_sem, Nat.reduceAdd, Nat.reduceMul, c26, c28, c33, c36, c37]; refine ⟨_, _, _, spec_l1Cur_pick.V g34, ?_⟩; simp (decide := true) only [go_sem, Nat.reduceAdd, Nat.reduceMul, c26, c28, c33, c36, c37]; refine ⟨_, _, _, spec_l1Cur_among.V g35, ?_⟩; simp (decide := true) only [go_sem, Nat.reduceAdd, Nat.reduceMul, c26, c28, c33, c36, c37]; exact hK) ?_
          refine blockQ_n ?_
          refine AL_seq ?_
          refine AL_region [2] [0, 24, 56, 57, 58] [] ⟨[], [], []⟩ [] (by kernel_rfl) (by kernel_rfl) (by kernel_rfl) (fun K hK => by simp (decide := true) only [go_sem, Nat.reduceAdd, Nat.reduceMul, c26, c28, c33, c36, c37]; exact hK) ?_
          replace h := Option.some.inj h
          obtain ⟨rfl, h1⟩ := Prod.mk.inj h
          obtain ⟨rfl, h2⟩ := Prod.mk.inj h1
          obtain ⟨rfl, h3⟩ := Prod.mk.inj h2
          obtain ⟨rfl, h4⟩ := Prod.mk.inj h3
          obtain ⟨rfl, h5⟩ := Prod.mk.inj h4
          obtain ⟨rfl, h6⟩ := Prod.mk.inj h5
          obtain ⟨rfl, rfl⟩ := Prod.mk.inj h6
          refine AL_ret (fun _ => rfl) ?_
          exact retF_mk rfl (by exact ⟨(by simp), trivial⟩) rfl (by exact ⟨rfl, rfl, rfl, rfl, rfl, rfl, trivial⟩) (by exact trivial) (by exact ⟨rfl, rfl⟩)
        ·
          replace c33 := eq_false c33
          refine AL_else (by simp (decide := true) only [go_sem, Nat.reduceAdd, Nat.reduceMul, c26, c28, c33]) ?_
          refine AL_seq ?_
          refine AL_region [0, 2, 3, 4, 11, 39] [0, 24, 32, 56, 57, 58] [] ⟨[], [], []⟩ [] (by kernel_rfl) (by kernel_rfl) (by kernel_rfl) (fun K hK => by simp (decide := true) only [go_sem, Nat.reduceAdd, Nat.reduceMul, c26, c28, c33]; exact hK) ?_
          rcases ite_or h with ⟨c38, h⟩ | ⟨c38, h⟩
          ·
            replace c38 := eq_true c38
            refine AL_then (by simp (decide := true) only [go_sem, Nat.reduceAdd, Nat.reduceMul, c26, c28, c33, c38]) ?_
            obtain ⟨⟨t253, t254, t255⟩, g39, h⟩ := bind_or h
            dsimp only at h
            obtain ⟨⟨t259, t260, t261⟩, g40, h⟩ := bind_or h
            dsimp only at h
            obtain ⟨c41, h⟩ := ite_l h
            replace c41 := eq_true c41
            obtain ⟨c42, h⟩ := ite_l h
            replace c42 := eq_true c42
            refine AL_region [2, 3] [0, 24, 32, 56, 57, 58] [] ⟨[42], [45, 48], [0]⟩ [] (by kernel_rfl) (by kernel_rfl) (by kernel_rfl) (fun K hK => by simp (decide := true) only [go_sem, Nat.reduceAdd, Nat.reduceMul, c26, c28, c33, c38, c41, c42]; refine ⟨_, _, _, spec_l1Cur_pick.V g39, ?_⟩; simp (decide := true) only [go_sem, Nat.reduceAdd, Nat.reduceMul, c26, c28, c33, c38, c41, c42]; refine ⟨_, _, _, spec_l1Cur_among.V g40, ?_⟩; simp (decide := true) only [go_sem, Nat.reduceAdd, Nat.reduceMul, c26, c28, c33, c38, c41, c42]; exact hK) ?_
            refine blockQ_n ?_
            refine AL_seq ?_
            refine AL_region [2] [0, 24, 56, 57, 58] [] ⟨[], [], []⟩ [] (by kernel_rfl) (by kernel_rfl) (by kernel_rfl) (fun K hK => by simp (decide := true) only [go_sem, Nat.reduceAdd, Nat.reduceMul, c26, c28, c33, c38, c41, c42]; exact hK) ?_
            replace h := Option.some.inj h
            obtain ⟨rfl, h1⟩ := Prod.mk.inj h
            obtain ⟨rfl, h2⟩ := Prod.mk.inj h1
            obtain ⟨rfl, h3⟩ := Prod.mk.inj h2
            obtain ⟨rfl, h4⟩ := Prod.mk.inj h3
            obtain ⟨rfl, h5⟩ := Prod.mk.inj h4
            obtain ⟨rfl, h6⟩ := Prod.mk.inj h5
            obtain ⟨rfl, rfl⟩ := Prod.mk.inj h6
            refine AL_ret (fun _ => rfl) ?_
            exact retF_mk rfl (by exact ⟨(by simp), trivial⟩) rfl (by exact ⟨rfl, rfl, rfl, rfl, rfl, rfl, trivial⟩) (by exact trivial) (by exact ⟨rfl, rfl⟩)
          ·
            replace c38 := eq_false c38
            refine AL_else (by simp (decide := true) only [go_sem, Nat.reduceAdd, Nat.reduceMul, c26, c28, c33, c38]) ?_
            refine AL_seq ?_
            refine AL_region [2, 3, 50] [0, 24, 32, 56, 57, 58] [] ⟨[], [], []⟩ [] (by kernel_rfl) (by kernel_rfl) (by kernel_rfl) (fun K hK => by simp (decide := true) only [go_sem, Nat.reduceAdd, Nat.reduceMul, c26, c28, c33, c38]; exact hK) ?_
            rcases ite_or h with ⟨c43, h⟩ | ⟨c43, h⟩
            ·
              replace c43 := eq_true c43
              refine AL_then (by simp (decide := true) only [go_sem, Nat.reduceAdd, Nat.reduceMul, c26, c28, c33, c38, c43]) ?_
              obtain ⟨c44, h⟩ := ite_l h
              have c44l := lim8 c44
              replace c44 := eq_true c44
              refine AL_region [2, 3] [0, 24, 32, 56, 57, 448] [] ⟨[], [], []⟩ [] (by kernel_rfl) (by kernel_rfl) (by kernel_rfl) (fun K hK => by simp (decide := true) only [go_sem, Nat.reduceAdd, Nat.reduceMul, c26, c28, c33, c38, c43, c44l, c44]; exact hK) ?_
              refine blockQ_n ?_
              refine AL_seq ?_
              refine AL_region [2] [0, 24, 56, 57, 448] [] ⟨[], [], []⟩ [] (by kernel_rfl) (by kernel_rfl) (by kernel_rfl) (fun K hK => by simp (decide := true) only [go_sem, Nat.reduceAdd, Nat.reduceMul, c26, c28, c33, c38, c43, c44l, c44]; exact hK) ?_
              replace h := Option.some.inj h
              obtain ⟨rfl, h1⟩ := Prod.mk.inj h
              obtain ⟨rfl, h2⟩ := Prod.mk.inj h1
              obtain ⟨rfl, h3⟩ := Prod.mk.inj h2
              obtain ⟨rfl, h4⟩ := Prod.mk.inj h3
              obtain ⟨rfl, h5⟩ := Prod.mk.inj h4
              obtain ⟨rfl, h6⟩ := Prod.mk.inj h5
              obtain ⟨rfl, rfl⟩ := Prod.mk.inj h6
              refine AL_ret (fun _ => rfl) ?_
              exact retF_mk rfl (by exact ⟨(by simp), trivial⟩) rfl (by exact ⟨rfl, rfl, rfl, rfl, rfl, rfl, trivial⟩) (by exact trivial) (by exact ⟨rfl, rfl⟩)
            ·
              replace c43 := eq_false c43
              refine AL_else (by simp (decide := true) only [go_sem, Nat.reduceAdd, Nat.reduceMul, c26, c28, c33, c38, c43]) ?_
              refine AL_skip ?_
              refine blockQ_n ?_
              refine AL_seq ?_
              refine AL_region [2] [0, 24, 56, 57, 58] [] ⟨[], [], []⟩ [] (by kernel_rfl) (by kernel_rfl) (by kernel_rfl) (fun K hK => by simp (decide := true) only [go_sem, Nat.reduceAdd, Nat.reduceMul, c26, c28, c33, c38, c43]; exact hK) ?_
              replace h := Option.some.inj h
              obtain ⟨rfl, h1⟩ := Prod.mk.inj h
              obtain ⟨rfl, h2⟩ := Prod.mk.inj h1
              obtain ⟨rfl, h3⟩ := Prod.mk.inj h2
              obtain ⟨rfl, h4⟩ := Prod.mk.inj h3
              obtain ⟨rfl, h5⟩ := Prod.mk.inj h4
              obtain ⟨rfl, h6⟩ := Prod.mk.inj h5
              obtain ⟨rfl, rfl⟩ := Prod.mk.inj h6
              refine AL_ret (fun _ => rfl) ?_
              exact retF_mk rfl (by exact ⟨(by simp), trivial⟩) rfl (by exact ⟨rfl, rfl, rfl, rfl, rfl, rfl, trivial⟩) (by exact trivial) (by exact ⟨rfl, rfl⟩)
end Go.Proofs.Ytfakhgopbhnocaa.PFnReconciled
