/- Each function's run, shown to compute what its plain function says. -/
import Derived.Test.YtfakhgopbhnocaaVFnReconciledp17
import Derived.KernelRfl
set_option linter.unusedVariables false
set_option linter.unusedSimpArgs false
namespace Go.Proofs.Ytfakhgopbhnocaa.PFnReconciled
open Go Go.Proofs.YtfakhgopbhnocaaVM Go.Proofs.Ytfakhgopbhnocaa.VE Go.RowKit Go.Proofs.YtfakhgopbhnocaaW.PrintWords Go.Proofs.YtfakhgopbhnocaaW.PrintLast Go.Proofs.YtfakhgopbhnocaaW.PrintMore
attribute [local go_sem] runF_nil runF_cons kG_go kG_store kG_skip kG_pass kS_go kS_call kQ_go flagB_no inFl_some inFl_store hasB_nil hasB_hit hasB_miss flagB_eq clB_no wrB_no clB_yes wrB_store wrB_call opdL_load opdL_index opdL_len nm0_eq nmV_nil nmV_cons pt0_ptr pt0_int pt0_bool pt0_sl pt0_nil pt0_ref pt0_agg guardB_none guardB_some gL_some gB_true gB_false gB_skip look_hit look_miss tg_hit tg_miss bg_hit bg_miss ev_tmp ev_int ev_bool ev_nil ev_agg sQ_some stO_move stO_assign stO_pick stO_un stO_bin stO_field stO_load stO_index stO_extract stO_conv stO_box stO_alloc stO_len stO_call qUn_not qUn_neg qPick_true qPick_false qField_ptr qField_fat qLd_some qConv_some sB_some sA_some qLen_sl qLen_nil boxV_agg boxV_int boxV_bool boxV_nil boxV_sl boxV_ref qBin_add qBin_sub qBin_mul qBin_quo qBin_rem qBin_and qBin_or qBin_shr qBin_shl qBin_eql qBin_neq qBin_lss qBin_leq qBin_gtr qBin_geq qBin_beq qBin_bne qEx_tup keepT_cons keepB_nil keepB_cons keepT_nil qLoad_fat1 qLoad_fat2 qLoad_ptr ldB_box1 ld1_some ldB_box2 ldB_row ldR_1 ldR_2 unc_int unc_bool unc_nil unc_ref unc_sl unc_con_sl unc_con_nil rt_int rt_bool rt_nil rt_sl qIndex_sl ixT_some ixS_some qIndex_ref ixR_some ixR1_some argPtr_nil argPtr_ptr argPtr_int argPtr_bool argPtr_sl argPtr_ref argPtr_nl argPtr_agg memIn_none memIn_some mi1_box mi2_some viewL_int viewL_bool viewL_nil viewL_sl viewL_ref vwR_some cons2_some viewLs_nil viewLs_cons viewAs_nil viewAs_cons viewA_int viewA_bool viewA_nil viewA_sl viewA_ref viewA_agg agg1_some viewA_ptr sC_go sC2_some renT_int renT_bool renT_nil renT_sl renT_agg renT_tup renA_int renA_bool renA_nil renA_sl renA_agg renL_int renL_bool renL_nil renL_sl rowsD_nil memD_none memD_some md1_box mergeL_nil mergeL_int mergeL_bool mergeL_sl mergeL_nl stO_build sP_some sF_some fillV_nil fillV_cons fl1_go stO_nilCheck qNil_ptr stO_min qMin_int stO_max qMax_int stO_make sMe_some sM_some stO_slice sSe_some sS_own sS_fix rowsV_nil rowsV_cons rv1_some rowV_int rowV_bool rowV_nil rowV_sl rowV_agg stO_append sApp_new sApp_on qStore_eq qS2_some qS1_some qApp_eq qA0_some qA1_some qA2_nil qA2_ref stored1_ptr st1_box st1_row setL_nil setL_cons qA3_some absB_t absB_b0 absB_b1 absB_nil noBB_row noBB_box noTB_int noAB_int noLB_int killT_int killA_int killL_int noTB_bool noAB_bool noLB_bool killT_bool killA_bool killL_bool noTB_nil noAB_nil noLB_nil killT_nil killA_nil killL_nil noTB_und noAB_und noLB_und killT_und killA_und killL_und noTB_skip noAB_skip noLB_skip killT_skip killA_skip killL_skip noTB_sl noAB_sl noLB_sl killT_sl killA_sl killL_sl noTB_fat noAB_fat noLB_fat killT_fat killA_fat killL_fat noTB_ref noAB_ref noLB_ref killT_ref0 killT_ref killA_ref0 killA_ref killL_ref0 killL_ref noTB_ptr noAB_ptr noLB_ptr killT_ptr0 killT_ptr killA_ptr0 killA_ptr killL_ptr0 killL_ptr noTB_agg noAB_agg noTB_tup noLB_con_sl noLB_con_nil killT_agg killA_agg killT_tup killL_con_sl killL_con_nil killTL_nil killTL_cons killBL_nil killBL_none killBL_row killBL_box shut1_int shut1_bool shut1_nil shut1_sl scal_int scal_bool known1_int known1_bool known1_nil known1_sl known1_ref opdL_call nm0_func intsOf_nil intsOf_cons qBin_eqA qBin_neA eqA_eq eqA_ne nil_beq renT_ref renA_ref renL_ref rowsD_cons qLen_refR lenR_some tn_lt rowI_getn rowI_set nlit rowI_scal mp_nil rowI_cons rowI_len mkI_eq mkB_eq mp_length mp_app mp_ne rowI_one rowI_zero ibeq ibne true_and and_true and_self decide_true decide_false Bool.not_true Bool.not_false Bool.not_not List.length_map List.length_cons List.length_nil List.getElem?_cons_zero List.getElem?_cons_succ List.drop_zero List.drop_succ_cons List.take_succ_cons List.take_zero List.map_cons List.map_nil List.all_cons List.all_nil Bool.and_true Bool.true_and List.getD_cons_zero List.getD_cons_succ List.set_cons_zero List.set_cons_succ Option.isSome_none Option.isSome_some List.nil_append List.cons_append List.append_eq List.append_nil List.length_append cond_true cond_false ne_eq List.map_eq_nil_iff not_false_eq_true List.cons_ne_nil Bool.true_bne Bool.false_bne Bool.bne_true Bool.bne_false Bool.true_beq Bool.false_beq Int.zero_sub List.cons_beq_cons Option.map_some true_or or_true beq_self_eq_true Nat.zero_lt_succ ti_3 ti_5 ti_22 ti_24 ti_25 ti_27 ti_68 ti_127 ti_129 el_22 el_25 el_32 el_60 el_205 fo_24_0 fo_24_1 fo_24_2 fo_27_0 fo_27_1 fo_27_2 fo_27_3 fo_68_0 fo_68_1 fo_68_2 fo_68_3 fo_68_4 fo_129_0 fo_129_1 fo_129_2 bo_4 io_3 io_5 io_127 pl_24 pl_27 pl_68 pl_129 eqs_24 loud_3 loud_8 loud_9 loud_10 loud_11 loud_12 loud_13 loud_14 loud_15 loud_16 loud_17 loud_18 loud_19 loud_20 loud_21 loud_22 loud_34 loud_36 loud_94 loud_95 loud_96 loud_97 loud_98 loud_99 loud_100 loud_101 loud_102 loud_103 loud_104 loud_105 loud_106 loud_107 loud_108 loud_109 loud_110 loud_111 loud_112 loud_117 loud_119 loud_120 loud_121 loud_122 loud_131 loud_136 loud_145 loud_177 loud_178 loud_179 loud_180 loud_181 loud_182 loud_183 loud_184 loud_185 loud_189 i64w wl mx_rule mn_rule rowI_get rowB_get mkS24_eq rowS24_get rowS24_one rowS24_cons rowS24_len mkL_eq rowL_one rowL_cons rowL_len rowL_get
/-! spec_MilledShare : 17 -/
set_option maxRecDepth 100000 in
set_option maxHeartbeats 4000000 in
theorem spec_MilledShare.V {k : Nat} {a0_0 : Int} {a0_1 : Int} {a0_2 : Int} {l0_3 : List Int} {l0_4 : List Int} {l0_5 : List Int} {l1 : List Int} {a2 : Int} {r1 : Int} {r2 : Int} {r3 : Bool} (h : spec_MilledShare.f k a0_0 a0_1 a0_2 l0_3 l0_4 l0_5 l1 a2 = some (r1, r2, r3)) : FnV E 17 [.agg [.int .i64 a0_0, .int .i64 a0_1, .int .i64 a0_2, .sl false 1 (mp mkI l0_3), .sl false 1 (mp mkI l0_4), .sl false 1 (mp mkI l0_5)], .sl false 1 (mp mkI l1), .int .i64 a2] none (.tup [.int .i64 r1, .int .i64 r2, .bool r3]) [] none := by
  refine FnV_list E (rs := [.tmp 6, .tmp 7, .tmp 8]) Try.func17 (by rfl) rfl Try.ntmps17 rfl [] (by simp) rfl (by simp) rfl (fun us => ?_)
  simp only [argsL, memL, wrapL, wrap1, Nat.reduceAdd]
  unfold spec_MilledShare.f at h
  refine AL_seq ?_
  refine AL_region [1, 2, 3] [32] [] ⟨[], [], []⟩ [] (by kernel_rfl) (by kernel_rfl) (by kernel_rfl) (fun K hK => by simp (decide := true) only [go_sem, Nat.reduceAdd, Nat.reduceMul]; exact hK) ?_
  refine AL_seq ?_
  refine AL_seq ?_
  refine AL_cut (fun S => (∃ kk : Nat, ∃ x1 : List Int, ∃ x2 : Int, ∃ x21 : Bool, ∃ x636000 : Int, ∃ x636001 : Int, ∃ x636002 : Int, ∃ x636003 : List Int, ∃ x636004 : List Int, ∃ x636005 : List Int, kk ≤ k ∧ spec_MilledShare.j0 kk x1 x2 x21 x636000 x636001 x636002 x636003 x636004 x636005 = some (r1, r2, r3) ∧ At [(1, .sl false 1 (mp mkI x1)), (2, .int .i64 x2), (3, .ptr 32 0 0), (21, .bool x21)] [(32, some (.box [.int .i64 x636000, .int .i64 x636001, .int .i64 x636002, .sl false 1 (mp mkI x636003), .sl false 1 (mp mkI x636004), .sl false 1 (mp mkI x636005)]))] S)) ?_ ?_
  ·
    obtain ⟨t636, g1, h⟩ := bind_or h
    rcases ite_or h with ⟨c2, h⟩ | ⟨c2, h⟩
    ·
      obtain ⟨t637, g3, h⟩ := bind_or h
      refine AL_region [1, 2, 3, 21] [32] [] ⟨[], [], []⟩ [(4, 17)] (by kernel_rfl) (by kernel_rfl) (by kernel_rfl) (fun K hK => by simp (decide := true) only [go_sem, Nat.reduceAdd, Nat.reduceMul, c2]; refine ⟨_, _, _, spec_moList.V g1, ?_⟩; simp (decide := true) only [go_sem, Nat.reduceAdd, Nat.reduceMul, c2]; refine ⟨_, _, _, spec_l1In.V g3, ?_⟩; simp (decide := true) only [go_sem, Nat.reduceAdd, Nat.reduceMul, c2]; exact hK) ?_
      refine AL_meet ?_
      exact ⟨_, _, _, _, _, _, _, _, _, _, by omega, h, At_keep [1, 2, 3, 21] [32]⟩
    ·
      replace c2 := Bool.of_not_eq_true c2
      refine AL_region [1, 2, 3, 21] [32] [] ⟨[], [], []⟩ [(4, 17)] (by kernel_rfl) (by kernel_rfl) (by kernel_rfl) (fun K hK => by simp (decide := true) only [go_sem, Nat.reduceAdd, Nat.reduceMul, c2]; refine ⟨_, _, _, spec_moList.V g1, ?_⟩; simp (decide := true) only [go_sem, Nat.reduceAdd, Nat.reduceMul, c2]; exact hK) ?_
      refine AL_meet ?_
      exact ⟨_, _, _, _, _, _, _, _, _, _, by omega, h, At_keep [1, 2, 3, 21] [32]⟩
  ·
    intro S hS
    obtain ⟨kk4, x1, x2, x21, x636000, x636001, x636002, x636003, x636004, x636005, hkq5, h, hS⟩ := hS
    rcases kk4 with _ | n6
    · (rw [spec_MilledShare.j0] at h; cases h)
    rw [spec_MilledShare.j0] at h
    refine AW_at hS ?_
    rcases ite_or h with ⟨c7, h⟩ | ⟨c7, h⟩
    ·
      refine AL_then (by simp (decide := true) only [go_sem, Nat.reduceAdd, Nat.reduceMul, c7]) ?_
      refine AL_seq ?_
      refine AL_region [6, 7, 8] [] [] ⟨[], [], []⟩ [] (by kernel_rfl) (by kernel_rfl) (by kernel_rfl) (fun K hK => by simp (decide := true) only [go_sem, Nat.reduceAdd, Nat.reduceMul, c7]; exact hK) ?_
      replace h := Option.some.inj h
      obtain ⟨rfl, h1⟩ := Prod.mk.inj h
      obtain ⟨rfl, rfl⟩ := Prod.mk.inj h1
      refine AL_ret (fun _ => rfl) ?_
      exact retF_mk rfl (by exact ⟨trivial, trivial, trivial, trivial⟩) rfl (by exact ⟨rfl, rfl, rfl, trivial⟩) (by exact trivial) (by exact trivial)
    ·
      replace c7 := Bool.of_not_eq_true c7
      refine AL_else (by simp (decide := true) only [go_sem, Nat.reduceAdd, Nat.reduceMul, c7]) ?_
      refine AL_skip ?_
      refine AL_seq ?_
      obtain ⟨⟨t638, t639⟩, g8, h⟩ := bind_or h
      dsimp only at h
      refine AL_region [2, 10] [] [] ⟨[], [], []⟩ [] (by kernel_rfl) (by kernel_rfl) (by kernel_rfl) (fun K hK => by simp (decide := true) only [go_sem, Nat.reduceAdd, Nat.reduceMul, c7]; refine ⟨_, _, _, spec_moSums.V g8, ?_⟩; simp (decide := true) only [go_sem, Nat.reduceAdd, Nat.reduceMul, c7]; exact hK) ?_
      refine AL_seq ?_
      refine AL_seq ?_
      refine AL_region [2, 10, 29] [] [] ⟨[], [], []⟩ [] (by kernel_rfl) (by kernel_rfl) (by kernel_rfl) (fun K hK => by simp (decide := true) only [go_sem, Nat.reduceAdd, Nat.reduceMul, c7]; exact hK) ?_
      rcases ite_or h with ⟨c9, h⟩ | ⟨c9, h⟩
      ·
        replace c9 := eq_true c9
        refine AL_then (by simp (decide := true) only [go_sem, Nat.reduceAdd, Nat.reduceMul, c7, c9]) ?_
        refine AL_seq ?_
        refine AL_region [6, 7, 8] [] [] ⟨[], [], []⟩ [] (by kernel_rfl) (by kernel_rfl) (by kernel_rfl) (fun K hK => by simp (decide := true) only [go_sem, Nat.reduceAdd, Nat.reduceMul, c7, c9]; exact hK) ?_
        replace h := Option.some.inj h
        obtain ⟨rfl, h1⟩ := Prod.mk.inj h
        obtain ⟨rfl, rfl⟩ := Prod.mk.inj h1
        refine AL_ret (fun _ => rfl) ?_
        exact retF_mk rfl (by exact ⟨trivial, trivial, trivial, trivial⟩) rfl (by exact ⟨rfl, rfl, rfl, trivial⟩) (by exact trivial) (by exact trivial)
      ·
        replace c9 := eq_false c9
        refine AL_else (by simp (decide := true) only [go_sem, Nat.reduceAdd, Nat.reduceMul, c7, c9]) ?_
        refine AL_skip ?_
        refine AL_seq ?_
        obtain ⟨⟨t640, t641⟩, g10, h⟩ := bind_or h
        dsimp only at h
        refine AL_region [11, 12] [] [] ⟨[], [], []⟩ [] (by kernel_rfl) (by kernel_rfl) (by kernel_rfl) (fun K hK => by simp (decide := true) only [go_sem, Nat.reduceAdd, Nat.reduceMul, c7, c9]; refine ⟨_, _, _, spec_moPart.V g10, ?_⟩; simp (decide := true) only [go_sem, Nat.reduceAdd, Nat.reduceMul, c7, c9]; exact hK) ?_
        refine AL_seq ?_
        refine AL_region [6, 7, 8] [] [] ⟨[], [], []⟩ [] (by kernel_rfl) (by kernel_rfl) (by kernel_rfl) (fun K hK => by simp (decide := true) only [go_sem, Nat.reduceAdd, Nat.reduceMul, c7, c9]; exact hK) ?_
        replace h := Option.some.inj h
        obtain ⟨rfl, h1⟩ := Prod.mk.inj h
        obtain ⟨rfl, rfl⟩ := Prod.mk.inj h1
        refine AL_ret (fun _ => rfl) ?_
        exact retF_mk rfl (by exact ⟨trivial, trivial, trivial, trivial⟩) rfl (by exact ⟨rfl, rfl, rfl, trivial⟩) (by exact trivial) (by exact trivial)
/-! impl_AreBeside : 18 -/
set_option maxRecDepth 100000 in
set_option maxHeartbeats 4000000 in
theorem impl_AreBeside.V {k : Nat} {a0_0 : Int} {a0_1 : Int} {a0_2 : Int} {l0_3 : List Int} {l0_4 : List Int} {l0_5 : List Int} {a1_0 : Int} {a1_1 : Int} {a1_2 : Int} {l1_3 : List Int} {l1_4 : List Int} {l1_5 : List Int} {r1 : Bool} {r2 : Bool} (h : impl_AreBeside.f k a0_0 a0_1 a0_2 l0_3 l0_4 l0_5 a1_0 a1_1 a1_2 l1_3 l1_4 l1_5 = some (r1, r2)) : FnV E 18 [.agg [.int .i64 a0_0, .int .i64 a0_1, .int .i64 a0_2, .sl false 1 (mp mkI l0_3), .sl false 1 (mp mkI l0_4), .sl false 1 (mp mkI l0_5)], .agg [.int .i64 a1_0, .int .i64 a1_1, .int .i64 a1_2, .sl false 1 (mp mkI l1_3), .sl false 1 (mp mkI l1_4), .sl false 1 (mp mkI l1_5)]] none (.tup [.bool r1, .bool r2]) [] none := by
  refine FnV_list E (rs := [.tmp 4, .tmp 5]) Try.func18 (by rfl) rfl Try.ntmps18 rfl [] (by simp) rfl (by simp) rfl (fun us => ?_)
  simp only [argsL, memL, wrapL, wrap1, Nat.reduceAdd]
  unfold impl_AreBeside.f at h
  refine AL_seq ?_
  refine AL_region [2, 3] [24, 32] [] ⟨[], [], []⟩ [] (by kernel_rfl) (by kernel_rfl) (by kernel_rfl) (fun K hK => by simp (decide := true) only [go_sem, Nat.reduceAdd, Nat.reduceMul]; exact hK) ?_
  refine AL_seq ?_
  refine AL_seq ?_
  obtain ⟨t644, g1, h⟩ := bind_or h
  rcases ite_or h with ⟨c2, h⟩ | ⟨c2, h⟩
  ·
    obtain ⟨t645, g3, h⟩ := bind_or h
    refine AL_region [2, 3, 13] [24, 32] [] ⟨[], [], []⟩ [(3, 9)] (by kernel_rfl) (by kernel_rfl) (by kernel_rfl) (fun K hK => by simp (decide := true) only [go_sem, Nat.reduceAdd, Nat.reduceMul, c2]; refine ⟨_, _, _, impl_IsModel.V g1, ?_⟩; simp (decide := true) only [go_sem, Nat.reduceAdd, Nat.reduceMul, c2]; refine ⟨_, _, _, impl_IsModel.V g3, ?_⟩; simp (decide := true) only [go_sem, Nat.reduceAdd, Nat.reduceMul, c2]; exact hK) ?_
    rcases ite_or h with ⟨c4, h⟩ | ⟨c4, h⟩
    ·
      refine AL_else (by simp (decide := true) only [go_sem, Nat.reduceAdd, Nat.reduceMul, c2, c4]) ?_
      refine AL_skip ?_
      refine AL_seq ?_
      refine AL_region [4, 5] [] [] ⟨[], [], []⟩ [] (by kernel_rfl) (by kernel_rfl) (by kernel_rfl) (fun K hK => by simp (decide := true) only [go_sem, Nat.reduceAdd, Nat.reduceMul, c2, c4]; exact hK) ?_
      replace h := Option.some.inj h
      obtain ⟨rfl, rfl⟩ := Prod.mk.inj h
      refine AL_ret (fun _ => rfl) ?_
      exact retF_mk rfl (by exact ⟨trivial, trivial, trivial⟩) rfl (by exact ⟨rfl, rfl, trivial⟩) (by exact trivial) (by exact trivial)
    ·
      replace c4 := Bool.of_not_eq_true c4
      refine AL_then (by simp (decide := true) only [go_sem, Nat.reduceAdd, Nat.reduceMul, c2, c4]) ?_
      refine AL_seq ?_
      refine AL_region [4, 5] [] [] ⟨[], [], []⟩ [] (by kernel_rfl) (by kernel_rfl) (by kernel_rfl) (fun K hK => by simp (decide := true) only [go_sem, Nat.reduceAdd, Nat.reduceMul, c2, c4]; exact hK) ?_
      replace h := Option.some.inj h
      obtain ⟨rfl, rfl⟩ := Prod.mk.inj h
      refine AL_ret (fun _ => rfl) ?_
      exact retF_mk rfl (by exact ⟨trivial, trivial, trivial⟩) rfl (by exact ⟨rfl, rfl, trivial⟩) (by exact trivial) (by exact trivial)
  ·
    replace c2 := Bool.of_not_eq_true c2
    refine AL_region [2, 3, 13] [24, 32] [] ⟨[], [], []⟩ [(3, 9)] (by kernel_rfl) (by kernel_rfl) (by kernel_rfl) (fun K hK => by simp (decide := true) only [go_sem, Nat.reduceAdd, Nat.reduceMul, c2]; refine ⟨_, _, _, impl_IsModel.V g1, ?_⟩; simp (decide := true) only [go_sem, Nat.reduceAdd, Nat.reduceMul, c2]; exact hK) ?_
    refine AL_then (by simp (decide := true) only [go_sem, Nat.reduceAdd, Nat.reduceMul, c2]) ?_
    refine AL_seq ?_
    refine AL_region [4, 5] [] [] ⟨[], [], []⟩ [] (by kernel_rfl) (by kernel_rfl) (by kernel_rfl) (fun K hK => by simp (decide := true) only [go_sem, Nat.reduceAdd, Nat.reduceMul, c2]; exact hK) ?_
    replace h := Option.some.inj h
    obtain ⟨rfl, rfl⟩ := Prod.mk.inj h
    refine AL_ret (fun _ => rfl) ?_
    exact retF_mk rfl (by exact ⟨trivial, trivial, trivial⟩) rfl (by exact ⟨rfl, rfl, trivial⟩) (by exact trivial) (by exact trivial)
/-! spec_AreBeside : 19 -/
set_option maxRecDepth 100000 in
set_option maxHeartbeats 4000000 in
theorem spec_AreBeside.V {k : Nat} {a0_0 : Int} {a0_1 : Int} {a0_2 : Int} {l0_3 : List Int} {l0_4 : List Int} {l0_5 : List Int} {a1_0 : Int} {a1_1 : Int} {a1_2 : Int} {l1_3 : List Int} {l1_4 : List Int} {l1_5 : List Int} {r1 : Bool} {r2 : Bool} (h : spec_AreBeside.f k a0_0 a0_1 a0_2 l0_3 l0_4 l0_5 a1_0 a1_1 a1_2 l1_3 l1_4 l1_5 = some (r1, r2)) : FnV E 19 [.agg [.int .i64 a0_0, .int .i64 a0_1, .int .i64 a0_2, .sl false 1 (mp mkI l0_3), .sl false 1 (mp mkI l0_4), .sl false 1 (mp mkI l0_5)], .agg [.int .i64 a1_0, .int .i64 a1_1, .int .i64 a1_2, .sl false 1 (mp mkI l1_3), .sl false 1 (mp mkI l1_4), .sl false 1 (mp mkI l1_5)]] none (.tup [.bool r1, .bool r2]) [] none := by
  refine FnV_list E (rs := [.tmp 4, .tmp 5]) Try.func19 (by rfl) rfl Try.ntmps19 rfl [] (by simp) rfl (by simp) rfl (fun us => ?_)
  simp only [argsL, memL, wrapL, wrap1, Nat.reduceAdd]
  unfold spec_AreBeside.f at h
  refine AL_seq ?_
  refine AL_region [2, 3] [24, 32] [] ⟨[], [], []⟩ [] (by kernel_rfl) (by kernel_rfl) (by kernel_rfl) (fun K hK => by simp (decide := true) only [go_sem, Nat.reduceAdd, Nat.reduceMul]; exact hK) ?_
  refine AL_seq ?_
  refine AL_seq ?_
  obtain ⟨t648, g1, h⟩ := bind_or h
  rcases ite_or h with ⟨c2, h⟩ | ⟨c2, h⟩
  ·
    obtain ⟨t649, g3, h⟩ := bind_or h
    refine AL_region [2, 3, 13] [24, 32] [] ⟨[], [], []⟩ [(3, 9)] (by kernel_rfl) (by kernel_rfl) (by kernel_rfl) (fun K hK => by simp (decide := true) only [go_sem, Nat.reduceAdd, Nat.reduceMul, c2]; refine ⟨_, _, _, spec_moGood.V g1, ?_⟩; simp (decide := true) only [go_sem, Nat.reduceAdd, Nat.reduceMul, c2]; refine ⟨_, _, _, spec_moGood.V g3, ?_⟩; simp (decide := true) only [go_sem, Nat.reduceAdd, Nat.reduceMul, c2]; exact hK) ?_
    rcases ite_or h with ⟨c4, h⟩ | ⟨c4, h⟩
    ·
      refine AL_else (by simp (decide := true) only [go_sem, Nat.reduceAdd, Nat.reduceMul, c2, c4]) ?_
      refine AL_skip ?_
      refine AL_seq ?_
      refine AL_region [4, 5] [] [] ⟨[], [], []⟩ [] (by kernel_rfl) (by kernel_rfl) (by kernel_rfl) (fun K hK => by simp (decide := true) only [go_sem, Nat.reduceAdd, Nat.reduceMul, c2, c4]; exact hK) ?_
      replace h := Option.some.inj h
      obtain ⟨rfl, rfl⟩ := Prod.mk.inj h
      refine AL_ret (fun _ => rfl) ?_
      exact retF_mk rfl (by exact ⟨trivial, trivial, trivial⟩) rfl (by exact ⟨rfl, rfl, trivial⟩) (by exact trivial) (by exact trivial)
    ·
      replace c4 := Bool.of_not_eq_true c4
      refine AL_then (by simp (decide := true) only [go_sem, Nat.reduceAdd, Nat.reduceMul, c2, c4]) ?_
      refine AL_seq ?_
      refine AL_region [4, 5] [] [] ⟨[], [], []⟩ [] (by kernel_rfl) (by kernel_rfl) (by kernel_rfl) (fun K hK => by simp (decide := true) only [go_sem, Nat.reduceAdd, Nat.reduceMul, c2, c4]; exact hK) ?_
      replace h := Option.some.inj h
      obtain ⟨rfl, rfl⟩ := Prod.mk.inj h
      refine AL_ret (fun _ => rfl) ?_
      exact retF_mk rfl (by exact ⟨trivial, trivial, trivial⟩) rfl (by exact ⟨rfl, rfl, trivial⟩) (by exact trivial) (by exact trivial)
  ·
    replace c2 := Bool.of_not_eq_true c2
    refine AL_region [2, 3, 13] [24, 32] [] ⟨[], [], []⟩ [(3, 9)] (by kernel_rfl) (by kernel_rfl) (by kernel_rfl) (fun K hK => by simp (decide := true) only [go_sem, Nat.reduceAdd, Nat.reduceMul, c2]; refine ⟨_, _, _, spec_moGood.V g1, ?_⟩; simp (decide := true) only [go_sem, Nat.reduceAdd, Nat.reduceMul, c2]; exact hK) ?_
    refine AL_then (by simp (decide := true) only [go_sem, Nat.reduceAdd, Nat.reduceMul, c2]) ?_
    refine AL_seq ?_
    refine AL_region [4, 5] [] [] ⟨[], [], []⟩ [] (by kernel_rfl) (by kernel_rfl) (by kernel_rfl) (fun K hK => by simp (decide := true) only [go_sem, Nat.reduceAdd, Nat.reduceMul, c2]; exact hK) ?_
    replace h := Option.some.inj h
    obtain ⟨rfl, rfl⟩ := Prod.mk.inj h
    refine AL_ret (fun _ => rfl) ?_
    exact retF_mk rfl (by exact ⟨trivial, trivial, trivial⟩) rfl (by exact ⟨rfl, rfl, trivial⟩) (by exact trivial) (by exact trivial)
/-! laws_qInts : 34 -/
set_option maxRecDepth 100000 in
set_option maxHeartbeats 4000000 in
theorem laws_qInts.V {k : Nat} {l0 : List Int} {l1 : List Int} {r : Bool} (h : laws_qInts.f k l0 l1 = some r) : FnV E 34 [.sl false 1 (mp mkI l0), .sl false 1 (mp mkI l1)] none (.bool r) [] none := by
  refine FnV_list E (rs := [.tmp 4]) Try.func34 (by rfl) rfl Try.ntmps34 rfl [] (by simp) rfl (by simp) rfl (fun us => ?_)
  simp only [argsL, memL, wrapL, wrap1, Nat.reduceAdd]
  unfold laws_qInts.f at h
  refine AL_seq ?_
  refine AL_region [0, 1] [] [] ⟨[], [], []⟩ [] (by kernel_rfl) (by kernel_rfl) (by kernel_rfl) (fun K hK => by simp (decide := true) only [go_sem, Nat.reduceAdd, Nat.reduceMul]; exact hK) ?_
  refine AL_seq ?_
  refine AL_seq ?_
  refine AL_region [0, 1, 10] [] [] ⟨[], [], []⟩ [] (by kernel_rfl) (by kernel_rfl) (by kernel_rfl) (fun K hK => by simp (decide := true) only [go_sem, Nat.reduceAdd, Nat.reduceMul]; exact hK) ?_
  rcases ite_or h with ⟨c1, h⟩ | ⟨c1, h⟩
  ·
    replace c1 := eq_true c1
    refine AL_else (by simp (decide := true) only [go_sem, Nat.reduceAdd, Nat.reduceMul, c1]) ?_
    refine AL_skip ?_
    refine AL_seq ?_
    refine AL_seq ?_
    refine AL_region [0, 1, 12, 13] [] [] ⟨[], [], []⟩ [] (by kernel_rfl) (by kernel_rfl) (by kernel_rfl) (fun K hK => by simp (decide := true) only [go_sem, Nat.reduceAdd, Nat.reduceMul, c1]; exact hK) ?_
    refine AL_block ?_
    refine AL_loop (n := k) (fun n S => (∃ x0 : List Int, ∃ x1 : List Int, ∃ x12 : Int, ∃ x13 : Int, n ≤ k ∧ laws_qInts.l0 n x0 x1 x12 x13 = some r ∧ At [(0, .sl false 1 (mp mkI x0)), (1, .sl false 1 (mp mkI x1)), (12, .int .i64 x12), (13, .int .i64 x13)] [] S)) ?_ ?_
    · exact ⟨_, _, _, _, by omega, h, At_keep [0, 1, 12, 13] []⟩
    ·
      intro n S hS
      obtain ⟨x0, x1, x12, x13, hkq2, h, hS⟩ := hS
      rcases n with _ | n3
      · (rw [laws_qInts.l0] at h; cases h)
      rw [laws_qInts.l0] at h
      refine AW_at hS ?_
      refine AL_seq ?_
      refine AL_region [0, 1, 12, 13, 14] [] [] ⟨[], [], []⟩ [] (by kernel_rfl) (by kernel_rfl) (by kernel_rfl) (fun K hK => by simp (decide := true) only [go_sem, Nat.reduceAdd, Nat.reduceMul]; exact hK) ?_
      refine AL_seq ?_
      rcases ite_or h with ⟨c4, h⟩ | ⟨c4, h⟩
      ·
        replace c4 := eq_true c4
        refine AL_then (by simp (decide := true) only [go_sem, Nat.reduceAdd, Nat.reduceMul, c4]) ?_
        refine AL_skip ?_
        refine AL_seq ?_
        refine AL_block ?_
        refine AL_seq ?_
        refine AL_region [0, 1, 5, 12, 13] [] [] ⟨[], [], []⟩ [] (by kernel_rfl) (by kernel_rfl) (by kernel_rfl) (fun K hK => by simp (decide := true) only [go_sem, Nat.reduceAdd, Nat.reduceMul, c4]; exact hK) ?_
        refine AL_seq ?_
        obtain ⟨c5, h⟩ := ite_l h
        replace c5 := eq_true c5
        obtain ⟨c6, h⟩ := ite_l h
        replace c6 := eq_true c6
        obtain ⟨c7, h⟩ := ite_l h
        replace c7 := eq_true c7
        refine AL_region [0, 1, 12, 13, 24] [] [] ⟨[], [], []⟩ [] (by kernel_rfl) (by kernel_rfl) (by kernel_rfl) (fun K hK => by simp (decide := true) only [go_sem, Nat.reduceAdd, Nat.reduceMul, c4, c5, c6, c7]; exact hK) ?_
        rcases ite_or h with ⟨c8, h⟩ | ⟨c8, h⟩
        ·
          replace c8 := eq_true c8
          refine AL_else (by simp (decide := true) only [go_sem, Nat.reduceAdd, Nat.reduceMul, c4, c5, c6, c7, c8]) ?_
          refine AL_skip ?_
          refine blockQ_n ?_
          refine AL_region [0, 1, 12, 13] [] [] ⟨[], [], []⟩ [] (by kernel_rfl) (by kernel_rfl) (by kernel_rfl) (fun K hK => by simp (decide := true) only [go_sem, Nat.reduceAdd, Nat.reduceMul, c4, c5, c6, c7, c8]; exact hK) ?_
          refine AL_again (m := n3) (by omega) ?_
          exact ⟨_, _, _, _, by omega, h, At_keep [0, 1, 12, 13] []⟩
        ·
          replace c8 := eq_false c8
          refine AL_then (by simp (decide := true) only [go_sem, Nat.reduceAdd, Nat.reduceMul, c4, c5, c6, c7, c8]) ?_
          refine AL_seq ?_
          refine AL_region [4] [] [] ⟨[], [], []⟩ [] (by kernel_rfl) (by kernel_rfl) (by kernel_rfl) (fun K hK => by simp (decide := true) only [go_sem, Nat.reduceAdd, Nat.reduceMul, c4, c5, c6, c7, c8]; exact hK) ?_
          obtain rfl := Option.some.inj h
          refine AL_ret (fun _ => rfl) ?_
          exact retF_mk rfl (by exact ⟨trivial, trivial⟩) rfl (by exact rfl) (by exact trivial) (by exact trivial)
      ·
        replace c4 := eq_false c4
        refine AL_else (by simp (decide := true) only [go_sem, Nat.reduceAdd, Nat.reduceMul, c4]) ?_
        refine AL_exit ?_
        repeat first | refine thenQ_x ?_ | refine blockQ_miss (by decide) ?_
        refine blockQ_hit ?_
        refine AL_seq ?_
        refine AL_region [4] [] [] ⟨[], [], []⟩ [] (by kernel_rfl) (by kernel_rfl) (by kernel_rfl) (fun K hK => by simp (decide := true) only [go_sem, Nat.reduceAdd, Nat.reduceMul, c4]; exact hK) ?_
        obtain rfl := Option.some.inj h
        refine AL_ret (fun _ => rfl) ?_
        exact retF_mk rfl (by exact ⟨trivial, trivial⟩) rfl (by exact rfl) (by exact trivial) (by exact trivial)
  ·
    replace c1 := eq_false c1
    refine AL_then (by simp (decide := true) only [go_sem, Nat.reduceAdd, Nat.reduceMul, c1]) ?_
    refine AL_seq ?_
    refine AL_region [4] [] [] ⟨[], [], []⟩ [] (by kernel_rfl) (by kernel_rfl) (by kernel_rfl) (fun K hK => by simp (decide := true) only [go_sem, Nat.reduceAdd, Nat.reduceMul, c1]; exact hK) ?_
    obtain rfl := Option.some.inj h
    refine AL_ret (fun _ => rfl) ?_
    exact retF_mk rfl (by exact ⟨trivial, trivial⟩) rfl (by exact rfl) (by exact trivial) (by exact trivial)
end Go.Proofs.Ytfakhgopbhnocaa.PFnReconciled
