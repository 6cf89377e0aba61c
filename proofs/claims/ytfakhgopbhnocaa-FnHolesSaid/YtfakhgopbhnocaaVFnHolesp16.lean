/- Each function's run, shown to compute what its plain function says. -/
import Derived.Test.YtfakhgopbhnocaaVFnHolesp15
import Derived.KernelRfl
set_option linter.unusedVariables false
set_option linter.unusedSimpArgs false
namespace Go.Proofs.Ytfakhgopbhnocaa.PFnHoles
open Go Go.Proofs.YtfakhgopbhnocaaVM Go.Proofs.Ytfakhgopbhnocaa.VE Go.RowKit Go.Proofs.YtfakhgopbhnocaaW.PrintWords Go.Proofs.YtfakhgopbhnocaaW.PrintLast Go.Proofs.YtfakhgopbhnocaaW.PrintMore
attribute [local go_sem] runF_nil runF_cons kG_go kG_store kG_skip kG_pass kS_go kS_call kQ_go flagB_no inFl_some inFl_store hasB_nil hasB_hit hasB_miss flagB_eq clB_no wrB_no clB_yes wrB_store wrB_call opdL_load opdL_index opdL_len nm0_eq nmV_nil nmV_cons pt0_ptr pt0_int pt0_bool pt0_sl pt0_nil pt0_ref pt0_agg guardB_none guardB_some gL_some gB_true gB_false gB_skip look_hit look_miss tg_hit tg_miss bg_hit bg_miss ev_tmp ev_int ev_bool ev_nil ev_agg sQ_some stO_move stO_assign stO_pick stO_un stO_bin stO_field stO_load stO_index stO_extract stO_conv stO_box stO_alloc stO_len stO_call qUn_not qUn_neg qPick_true qPick_false qField_ptr qField_fat qLd_some qConv_some sB_some sA_some qLen_sl qLen_nil boxV_agg boxV_int boxV_bool boxV_nil boxV_sl boxV_ref qBin_add qBin_sub qBin_mul qBin_quo qBin_rem qBin_and qBin_or qBin_shr qBin_shl qBin_eql qBin_neq qBin_lss qBin_leq qBin_gtr qBin_geq qBin_beq qBin_bne qEx_tup keepT_cons keepB_nil keepB_cons keepT_nil qLoad_fat1 qLoad_fat2 qLoad_ptr ldB_box1 ld1_some ldB_box2 ldB_row ldR_1 ldR_2 unc_int unc_bool unc_nil unc_ref unc_sl unc_con_sl unc_con_nil rt_int rt_bool rt_nil rt_sl qIndex_sl ixT_some ixS_some qIndex_ref ixR_some ixR1_some argPtr_nil argPtr_ptr argPtr_int argPtr_bool argPtr_sl argPtr_ref argPtr_nl argPtr_agg memIn_none memIn_some mi1_box mi2_some viewL_int viewL_bool viewL_nil viewL_sl viewL_ref vwR_some cons2_some viewLs_nil viewLs_cons viewAs_nil viewAs_cons viewA_int viewA_bool viewA_nil viewA_sl viewA_ref viewA_agg agg1_some viewA_ptr sC_go sC2_some renT_int renT_bool renT_nil renT_sl renT_agg renT_tup renA_int renA_bool renA_nil renA_sl renA_agg renL_int renL_bool renL_nil renL_sl rowsD_nil memD_none memD_some md1_box mergeL_nil mergeL_int mergeL_bool mergeL_sl mergeL_nl stO_build sP_some sF_some fillV_nil fillV_cons fl1_go stO_nilCheck qNil_ptr stO_min qMin_int stO_max qMax_int stO_make sMe_some sM_some stO_slice sSe_some sS_own sS_fix rowsV_nil rowsV_cons rv1_some rowV_int rowV_bool rowV_nil rowV_sl rowV_agg stO_append sApp_new sApp_on qStore_eq qS2_some qS1_some qApp_eq qA0_some qA1_some qA2_nil qA2_ref stored1_ptr st1_box st1_row setL_nil setL_cons qA3_some absB_t absB_b0 absB_b1 absB_nil noBB_row noBB_box noTB_int noAB_int noLB_int killT_int killA_int killL_int noTB_bool noAB_bool noLB_bool killT_bool killA_bool killL_bool noTB_nil noAB_nil noLB_nil killT_nil killA_nil killL_nil noTB_und noAB_und noLB_und killT_und killA_und killL_und noTB_skip noAB_skip noLB_skip killT_skip killA_skip killL_skip noTB_sl noAB_sl noLB_sl killT_sl killA_sl killL_sl noTB_fat noAB_fat noLB_fat killT_fat killA_fat killL_fat noTB_ref noAB_ref noLB_ref killT_ref0 killT_ref killA_ref0 killA_ref killL_ref0 killL_ref noTB_ptr noAB_ptr noLB_ptr killT_ptr0 killT_ptr killA_ptr0 killA_ptr killL_ptr0 killL_ptr noTB_agg noAB_agg noTB_tup noLB_con_sl noLB_con_nil killT_agg killA_agg killT_tup killL_con_sl killL_con_nil killTL_nil killTL_cons killBL_nil killBL_none killBL_row killBL_box shut1_int shut1_bool shut1_nil shut1_sl scal_int scal_bool known1_int known1_bool known1_nil known1_sl known1_ref opdL_call nm0_func intsOf_nil intsOf_cons qBin_eqA qBin_neA eqA_eq eqA_ne nil_beq renT_ref renA_ref renL_ref rowsD_cons qLen_refR lenR_some tn_lt rowI_getn rowI_set nlit rowI_scal mp_nil rowI_cons rowI_len mkI_eq mkB_eq mp_length mp_app mp_ne rowI_one rowI_zero ibeq ibne true_and and_true and_self decide_true decide_false Bool.not_true Bool.not_false Bool.not_not List.length_map List.length_cons List.length_nil List.getElem?_cons_zero List.getElem?_cons_succ List.drop_zero List.drop_succ_cons List.take_succ_cons List.take_zero List.map_cons List.map_nil List.all_cons List.all_nil Bool.and_true Bool.true_and List.getD_cons_zero List.getD_cons_succ List.set_cons_zero List.set_cons_succ Option.isSome_none Option.isSome_some List.nil_append List.cons_append List.append_eq List.append_nil List.length_append cond_true cond_false ne_eq List.map_eq_nil_iff not_false_eq_true List.cons_ne_nil Bool.true_bne Bool.false_bne Bool.bne_true Bool.bne_false Bool.true_beq Bool.false_beq Int.zero_sub List.cons_beq_cons Option.map_some true_or or_true beq_self_eq_true Nat.zero_lt_succ ti_3 ti_5 ti_22 ti_24 ti_25 ti_27 ti_68 ti_127 ti_129 el_22 el_25 el_32 el_60 el_205 fo_24_0 fo_24_1 fo_24_2 fo_27_0 fo_27_1 fo_27_2 fo_27_3 fo_68_0 fo_68_1 fo_68_2 fo_68_3 fo_68_4 fo_129_0 fo_129_1 fo_129_2 bo_4 io_3 io_5 io_127 pl_24 pl_27 pl_68 pl_129 eqs_24 loud_5 loud_36 loud_38 loud_39 loud_40 loud_41 loud_42 loud_43 loud_44 loud_45 loud_46 loud_47 loud_48 loud_49 loud_50 loud_51 loud_52 loud_53 loud_54 loud_55 loud_96 loud_97 loud_100 loud_103 loud_105 loud_108 loud_110 loud_111 loud_112 loud_118 loud_119 loud_120 loud_121 loud_122 loud_123 loud_124 loud_125 loud_126 loud_127 loud_128 loud_129 loud_130 loud_131 loud_132 loud_133 loud_134 loud_135 loud_136 loud_137 loud_138 loud_139 loud_145 loud_177 loud_178 loud_180 loud_183 loud_184 loud_185 loud_186 loud_187 loud_188 loud_189 loud_190 i64w wl mx_rule mn_rule rowI_get rowB_get mkS68_eq rowS68_get rowS68_one rowS68_cons rowS68_len mkS24_eq rowS24_get rowS24_one rowS24_cons rowS24_len mkL_eq rowL_one rowL_cons rowL_len
/-! spec_ChangedBlocks : 53 -/
set_option maxRecDepth 100000 in
set_option maxHeartbeats 4000000 in
theorem spec_ChangedBlocks.V {k : Nat} {a0_0 : Int} {a0_1 : Int} {a0_2 : Int} {l0_3 : List Int} {l0_4 : List Int} {l0_5 : List Int} {a1_0 : Int} {a1_1 : Int} {a1_2 : Int} {l1_3 : List Int} {l1_4 : List Int} {l1_5 : List Int} {r1 : List Int} {r2 : Bool} (h : spec_ChangedBlocks.f k a0_0 a0_1 a0_2 l0_3 l0_4 l0_5 a1_0 a1_1 a1_2 l1_3 l1_4 l1_5 = some (r1, r2)) : FnV E 53 [.agg [.int .i64 a0_0, .int .i64 a0_1, .int .i64 a0_2, .sl false 1 (mp mkI l0_3), .sl false 1 (mp mkI l0_4), .sl false 1 (mp mkI l0_5)], .agg [.int .i64 a1_0, .int .i64 a1_1, .int .i64 a1_2, .sl false 1 (mp mkI l1_3), .sl false 1 (mp mkI l1_4), .sl false 1 (mp mkI l1_5)]] none (.tup [.sl true 1 (mp mkI r1), .bool r2]) [] none := by
  refine FnV_list E (rs := [.tmp 4, .tmp 5]) Try.func53 (by rfl) rfl Try.ntmps53 rfl [] (by simp) rfl (by simp) rfl (fun us => ?_)
  simp only [argsL, memL, wrapL, wrap1, Nat.reduceAdd]
  unfold spec_ChangedBlocks.f at h
  refine AL_seq ?_
  refine AL_region [2, 3] [24, 32] [] ⟨[], [], []⟩ [] (by kernel_rfl) (by kernel_rfl) (by kernel_rfl) (fun K hK => by simp (decide := true) only [go_sem, Nat.reduceAdd, Nat.reduceMul]; exact hK) ?_
  refine AL_seq ?_
  refine AL_seq ?_
  obtain ⟨t652, g1, h⟩ := bind_or h
  refine AL_region [2, 3, 11] [24, 32] [] ⟨[], [], []⟩ [] (by kernel_rfl) (by kernel_rfl) (by kernel_rfl) (fun K hK => by simp (decide := true) only [go_sem, Nat.reduceAdd, Nat.reduceMul]; refine ⟨_, _, _, spec_bhTwo.V g1, ?_⟩; simp (decide := true) only [go_sem, Nat.reduceAdd, Nat.reduceMul]; exact hK) ?_
  rcases ite_or h with ⟨c2, h⟩ | ⟨c2, h⟩
  ·
    refine AL_else (by simp (decide := true) only [go_sem, Nat.reduceAdd, Nat.reduceMul, c2]) ?_
    refine AL_skip ?_
    refine AL_seq ?_
    refine AL_region [2, 3, 6] [24, 32] [] ⟨[], [], []⟩ [] (by kernel_rfl) (by kernel_rfl) (by kernel_rfl) (fun K hK => by simp (decide := true) only [go_sem, Nat.reduceAdd, Nat.reduceMul, c2]; exact hK) ?_
    refine AL_seq ?_
    refine AL_seq ?_
    refine AL_region [2, 3, 6, 14, 15] [24, 32] [] ⟨[], [], []⟩ [] (by kernel_rfl) (by kernel_rfl) (by kernel_rfl) (fun K hK => by simp (decide := true) only [go_sem, Nat.reduceAdd, Nat.reduceMul, c2]; exact hK) ?_
    refine AL_block ?_
    refine AL_loop (n := k) (fun n S => (∃ x14 : Int, ∃ x15 : Int, ∃ x651000 : Int, ∃ x651001 : Int, ∃ x651002 : Int, ∃ x651003 : List Int, ∃ x651004 : List Int, ∃ x651005 : List Int, ∃ x652000 : Int, ∃ x652001 : Int, ∃ x652002 : Int, ∃ x652003 : List Int, ∃ x652004 : List Int, ∃ x652005 : List Int, n ≤ k ∧ spec_ChangedBlocks.l0 n ([] : List Int) x14 x15 x651000 x651001 x651002 x651003 x651004 x651005 x652000 x652001 x652002 x652003 x652004 x652005 = some (r1, r2) ∧ At [(2, .ptr 24 0 0), (3, .ptr 32 0 0), (6, .nil), (14, .int .i64 x14), (15, .int .i64 x15)] [(24, some (.box [.int .i64 x651000, .int .i64 x651001, .int .i64 x651002, .sl false 1 (mp mkI x651003), .sl false 1 (mp mkI x651004), .sl false 1 (mp mkI x651005)])), (32, some (.box [.int .i64 x652000, .int .i64 x652001, .int .i64 x652002, .sl false 1 (mp mkI x652003), .sl false 1 (mp mkI x652004), .sl false 1 (mp mkI x652005)]))] S) ∨ (∃ x14 : Int, ∃ x15 : Int, ∃ x651000 : Int, ∃ x651001 : Int, ∃ x651002 : Int, ∃ x651003 : List Int, ∃ x651004 : List Int, ∃ x651005 : List Int, ∃ x652000 : Int, ∃ x652001 : Int, ∃ x652002 : Int, ∃ x652003 : List Int, ∃ x652004 : List Int, ∃ x652005 : List Int, ∃ x6 : List Int, n ≤ k ∧ spec_ChangedBlocks.l0 n x6 x14 x15 x651000 x651001 x651002 x651003 x651004 x651005 x652000 x652001 x652002 x652003 x652004 x652005 = some (r1, r2) ∧ At [(2, .ptr 24 0 0), (3, .ptr 32 0 0), (6, .ref 472), (14, .int .i64 x14), (15, .int .i64 x15)] [(24, some (.box [.int .i64 x651000, .int .i64 x651001, .int .i64 x651002, .sl false 1 (mp mkI x651003), .sl false 1 (mp mkI x651004), .sl false 1 (mp mkI x651005)])), (32, some (.box [.int .i64 x652000, .int .i64 x652001, .int .i64 x652002, .sl false 1 (mp mkI x652003), .sl false 1 (mp mkI x652004), .sl false 1 (mp mkI x652005)])), (472, some (.row 3 1 (mp mkI x6)))] S)) ?_ ?_
    · exact .inl ⟨_, _, _, _, _, _, _, _, _, _, _, _, _, _, by omega, h, At_keep [2, 3, 6, 14, 15] [24, 32]⟩
    ·
      intro n S hS
      rcases hS with hS | hS
      ·
        obtain ⟨x14, x15, x651000, x651001, x651002, x651003, x651004, x651005, x652000, x652001, x652002, x652003, x652004, x652005, hkq3, h, hS⟩ := hS
        rcases n with _ | n4
        · (rw [spec_ChangedBlocks.l0] at h; cases h)
        rw [spec_ChangedBlocks.l0] at h
        refine AW_at hS ?_
        refine AL_seq ?_
        refine AL_region [2, 3, 6, 14, 15, 16] [24, 32] [] ⟨[], [], []⟩ [] (by kernel_rfl) (by kernel_rfl) (by kernel_rfl) (fun K hK => by simp (decide := true) only [go_sem, Nat.reduceAdd, Nat.reduceMul]; exact hK) ?_
        refine AL_seq ?_
        rcases ite_or h with ⟨c5, h⟩ | ⟨c5, h⟩
        ·
          replace c5 := eq_true c5
          refine AL_then (by simp (decide := true) only [go_sem, Nat.reduceAdd, Nat.reduceMul, c5]) ?_
          refine AL_skip ?_
          refine AL_seq ?_
          refine AL_block ?_
          refine AL_seq ?_
          refine AL_region [2, 3, 6, 7, 14, 15] [24, 32] [] ⟨[], [], []⟩ [] (by kernel_rfl) (by kernel_rfl) (by kernel_rfl) (fun K hK => by simp (decide := true) only [go_sem, Nat.reduceAdd, Nat.reduceMul, c5]; exact hK) ?_
          refine AL_seq ?_
          obtain ⟨c6, h⟩ := ite_l h
          replace c6 := eq_true c6
          obtain ⟨c7, h⟩ := ite_l h
          replace c7 := eq_true c7
          obtain ⟨c8, h⟩ := ite_l h
          replace c8 := eq_true c8
          rcases ite_or h with ⟨c9, h⟩ | ⟨c9, h⟩
          ·
            replace c9 := eq_true c9
            obtain ⟨c10, h⟩ := ite_l h
            replace c10 := eq_true c10
            obtain ⟨c11, h⟩ := ite_l h
            replace c11 := eq_true c11
            rcases ite_or h with ⟨c12, h⟩ | ⟨c12, h⟩
            ·
              replace c12 := eq_true c12
              obtain ⟨c13, h⟩ := ite_l h
              replace c13 := eq_true c13
              obtain ⟨c14, h⟩ := ite_l h
              replace c14 := eq_true c14
              refine AL_region [2, 3, 6, 7, 14, 15, 54] [24, 32] [] ⟨[], [], []⟩ [(11, 29), (24, 42)] (by kernel_rfl) (by kernel_rfl) (by kernel_rfl) (fun K hK => by simp (decide := true) (maxSteps := 4000000) only [go_sem, Nat.reduceAdd, Nat.reduceMul, c5, c6, c7, c8, c9, c10, c11, c12, c13, c14]; exact hK) ?_
              rcases ite_or h with ⟨c15, h⟩ | ⟨c15, h⟩
              ·
                replace c15 := eq_true c15
                refine AL_else (by simp (decide := true) only [go_sem, Nat.reduceAdd, Nat.reduceMul, c5, c6, c7, c8, c9, c10, c11, c12, c13, c14, c15]) ?_
                refine AL_skip ?_
                refine blockQ_n ?_
                refine AL_region [2, 3, 6, 14, 15] [24, 32] [] ⟨[], [], []⟩ [] (by kernel_rfl) (by kernel_rfl) (by kernel_rfl) (fun K hK => by simp (decide := true) only [go_sem, Nat.reduceAdd, Nat.reduceMul, c5, c6, c7, c8, c9, c10, c11, c12, c13, c14, c15]; exact hK) ?_
                refine AL_again (m := n4) (by omega) ?_
                exact .inl ⟨_, _, _, _, _, _, _, _, _, _, _, _, _, _, by omega, h, At_keep [2, 3, 6, 14, 15] [24, 32]⟩
              ·
                replace c15 := eq_false c15
                refine AL_then (by simp (decide := true) only [go_sem, Nat.reduceAdd, Nat.reduceMul, c5, c6, c7, c8, c9, c10, c11, c12, c13, c14, c15]) ?_
                obtain ⟨c16, h⟩ := ite_l h
                have c16l := lim8 c16
                replace c16 := eq_true c16
                refine AL_region [2, 3, 6, 14, 15] [24, 32, 472] [] ⟨[], [], []⟩ [] (by kernel_rfl) (by kernel_rfl) (by kernel_rfl) (fun K hK => by simp (decide := true) only [go_sem, Nat.reduceAdd, Nat.reduceMul, c5, c6, c7, c8, c9, c10, c11, c12, c13, c14, c15, c16l, c16]; exact hK) ?_
                refine blockQ_n ?_
                refine AL_region [2, 3, 6, 14, 15] [24, 32, 472] [] ⟨[], [], []⟩ [] (by kernel_rfl) (by kernel_rfl) (by kernel_rfl) (fun K hK => by simp (decide := true) only [go_sem, Nat.reduceAdd, Nat.reduceMul, c5, c6, c7, c8, c9, c10, c11, c12, c13, c14, c15, c16l, c16]; exact hK) ?_
                refine AL_again (m := n4) (by omega) ?_
                exact .inr (⟨_, _, _, _, _, _, _, _, _, _, _, _, _, _, _, by omega, h, At_keep [2, 3, 6, 14, 15] [24, 32, 472]⟩)
            ·
              replace c12 := eq_false c12
              refine AL_region [2, 3, 6, 7, 14, 15, 54] [24, 32] [] ⟨[], [], []⟩ [(11, 29), (24, 42)] (by kernel_rfl) (by kernel_rfl) (by kernel_rfl) (fun K hK => by simp (decide := true) (maxSteps := 4000000) only [go_sem, Nat.reduceAdd, Nat.reduceMul, c5, c6, c7, c8, c9, c10, c11, c12]; exact hK) ?_
              refine AL_then (by simp (decide := true) only [go_sem, Nat.reduceAdd, Nat.reduceMul, c5, c6, c7, c8, c9, c10, c11, c12]) ?_
              obtain ⟨c17, h⟩ := ite_l h
              have c17l := lim8 c17
              replace c17 := eq_true c17
              refine AL_region [2, 3, 6, 14, 15] [24, 32, 472] [] ⟨[], [], []⟩ [] (by kernel_rfl) (by kernel_rfl) (by kernel_rfl) (fun K hK => by simp (decide := true) only [go_sem, Nat.reduceAdd, Nat.reduceMul, c5, c6, c7, c8, c9, c10, c11, c12, c17l, c17]; exact hK) ?_
              refine blockQ_n ?_
              refine AL_region [2, 3, 6, 14, 15] [24, 32, 472] [] ⟨[], [], []⟩ [] (by kernel_rfl) (by kernel_rfl) (by kernel_rfl) (fun K hK => by simp (decide := true) only [go_sem, Nat.reduceAdd, Nat.reduceMul, c5, c6, c7, c8, c9, c10, c11, c12, c17l, c17]; exact hK) ?_
              refine AL_again (m := n4) (by omega) ?_
              exact .inr (⟨_, _, _, _, _, _, _, _, _, _, _, _, _, _, _, by omega, h, At_keep [2, 3, 6, 14, 15] [24, 32, 472]⟩)
          ·
            replace c9 := eq_false c9
            refine AL_region [2, 3, 6, 7, 14, 15, 54] [24, 32] [] ⟨[], [], []⟩ [(11, 29), (24, 42)] (by kernel_rfl) (by kernel_rfl) (by kernel_rfl) (fun K hK => by simp (decide := true) (maxSteps := 4000000) only [go_sem, Nat.reduceAdd, Nat.reduceMul, c5, c6, c7, c8, c9]; exact hK) ?_
            refine AL_then (by simp (decide := true) only [go_sem, Nat.reduceAdd, Nat.reduceMul, c5, c6, c7, c8, c9]) ?_
            obtain ⟨c18, h⟩ := ite_l h
            have c18l := lim8 c18
            replace c18 := eq_true c18
            refine AL_region [2, 3, 6, 14, 15] [24, 32, 472] [] ⟨[], [], []⟩ [] (by kernel_rfl) (by kernel_rfl) (by kernel_rfl) (fun K hK => by simp (decide := true) only [go_sem, Nat.reduceAdd, Nat.reduceMul, c5, c6, c7, c8, c9, c18l, c18]; exact hK) ?_
            refine blockQ_n ?_
            refine AL_region [2, 3, 6, 14, 15] [24, 32, 472] [] ⟨[], [], []⟩ [] (by kernel_rfl) (by kernel_rfl) (by kernel_rfl) (fun K hK => by simp (decide := true) only [go_sem, Nat.reduceAdd, Nat.reduceMul, c5, c6, c7, c8, c9, c18l, c18]; exact hK) ?_
            refine AL_again (m := n4) (by omega) ?_
            exact .inr (⟨_, _, _, _, _, _, _, _, _, _, _, _, _, _, _, by omega, h, At_keep [2, 3, 6, 14, 15] [24, 32, 472]⟩)
        ·
          replace c5 := eq_false c5
          refine AL_else (by simp (decide := true) only [go_sem, Nat.reduceAdd, Nat.reduceMul, c5]) ?_
          refine AL_exit ?_
          repeat first | refine thenQ_x ?_ | refine blockQ_miss (by decide) ?_
          refine blockQ_hit ?_
          refine AL_seq ?_
          refine AL_region [4, 5] [] [] ⟨[], [], []⟩ [] (by kernel_rfl) (by kernel_rfl) (by kernel_rfl) (fun K hK => by simp (decide := true) only [go_sem, Nat.reduceAdd, Nat.reduceMul, c5]; exact hK) ?_
          replace h := Option.some.inj h
          obtain ⟨rfl, rfl⟩ := Prod.mk.inj h
          refine AL_ret (fun _ => rfl) ?_
          exact retF_mk rfl (by exact ⟨trivial, trivial, trivial⟩) rfl (by exact ⟨rfl, rfl, trivial⟩) (by exact trivial) (by exact trivial)
      ·
        obtain ⟨x14, x15, x651000, x651001, x651002, x651003, x651004, x651005, x652000, x652001, x652002, x652003, x652004, x652005, x6, hkq19, h, hS⟩ := hS
        rcases n with _ | n20
        · (rw [spec_ChangedBlocks.l0] at h; cases h)
        rw [spec_ChangedBlocks.l0] at h
        refine AW_at hS ?_
        refine AL_seq ?_
        refine AL_region [2, 3, 6, 14, 15, 16] [24, 32, 472] [] ⟨[], [], []⟩ [] (by kernel_rfl) (by kernel_rfl) (by kernel_rfl) (fun K hK => by simp (decide := true) only [go_sem, Nat.reduceAdd, Nat.reduceMul]; exact hK) ?_
        refine AL_seq ?_
        rcases ite_or h with ⟨c21, h⟩ | ⟨c21, h⟩
        ·
          replace c21 := eq_true c21
          refine AL_then (by simp (decide := true) only [go_sem, Nat.reduceAdd, Nat.reduceMul, c21]) ?_
          refine AL_skip ?_
          refine AL_seq ?_
          refine AL_block ?_
          refine AL_seq ?_
          refine AL_region [2, 3, 6, 7, 14, 15] [24, 32, 472] [] ⟨[], [], []⟩ [] (by kernel_rfl) (by kernel_rfl) (by kernel_rfl) (fun K hK => by simp (decide := true) only [go_sem, Nat.reduceAdd, Nat.reduceMul, c21]; exact hK) ?_
          refine AL_seq ?_
          obtain ⟨c22, h⟩ := ite_l h
          replace c22 := eq_true c22
          obtain ⟨c23, h⟩ := ite_l h
          replace c23 := eq_true c23
          obtain ⟨c24, h⟩ := ite_l h
          replace c24 := eq_true c24
          rcases ite_or h with ⟨c25, h⟩ | ⟨c25, h⟩
          ·
            replace c25 := eq_true c25
            obtain ⟨c26, h⟩ := ite_l h
            replace c26 := eq_true c26
            obtain ⟨c27, h⟩ := ite_l h
            replace c27 := eq_true c27
            rcases ite_or h with ⟨c28, h⟩ | ⟨c28, h⟩
            ·
              replace c28 := eq_true c28
              obtain ⟨c29, h⟩ := ite_l h
              replace c29 := eq_true c29
              obtain ⟨c30, h⟩ := ite_l h
              replace c30 := eq_true c30
              refine AL_region [2, 3, 6, 7, 14, 15, 54] [24, 32, 472] [] ⟨[], [], []⟩ [(11, 29), (24, 42)] (by kernel_rfl) (by kernel_rfl) (by kernel_rfl) (fun K hK => by simp (decide := true) (maxSteps := 4000000) only [go_sem, Nat.reduceAdd, Nat.reduceMul, c21, c22, c23, c24, c25, c26, c27, c28, c29, c30]; exact hK) ?_
              rcases ite_or h with ⟨c31, h⟩ | ⟨c31, h⟩
              ·
                replace c31 := eq_true c31
                refine AL_else (by simp (decide := true) only [go_sem, Nat.reduceAdd, Nat.reduceMul, c21, c22, c23, c24, c25, c26, c27, c28, c29, c30, c31]) ?_
                refine AL_skip ?_
                refine blockQ_n ?_
                refine AL_region [2, 3, 6, 14, 15] [24, 32, 472] [] ⟨[], [], []⟩ [] (by kernel_rfl) (by kernel_rfl) (by kernel_rfl) (fun K hK => by simp (decide := true) only [go_sem, Nat.reduceAdd, Nat.reduceMul, c21, c22, c23, c24, c25, c26, c27, c28, c29, c30, c31]; exact hK) ?_
                refine AL_again (m := n20) (by omega) ?_
                exact .inr (⟨_, _, _, _, _, _, _, _, _, _, _, _, _, _, _, by omega, h, At_keep [2, 3, 6, 14, 15] [24, 32, 472]⟩)
              ·
                replace c31 := eq_false c31
                refine AL_then (by simp (decide := true) only [go_sem, Nat.reduceAdd, Nat.reduceMul, c21, c22, c23, c24, c25, c26, c27, c28, c29, c30, c31]) ?_
                obtain ⟨c32, h⟩ := ite_l h
                have c32l := lim8 c32
                replace c32 := eq_true c32
                refine AL_region [2, 3, 6, 14, 15] [24, 32, 472] [] ⟨[], [], []⟩ [] (by kernel_rfl) (by kernel_rfl) (by kernel_rfl) (fun K hK => by simp (decide := true) only [go_sem, Nat.reduceAdd, Nat.reduceMul, c21, c22, c23, c24, c25, c26, c27, c28, c29, c30, c31, c32l, c32]; exact hK) ?_
                refine blockQ_n ?_
                refine AL_region [2, 3, 6, 14, 15] [24, 32, 472] [] ⟨[], [], []⟩ [] (by kernel_rfl) (by kernel_rfl) (by kernel_rfl) (fun K hK => by simp (decide := true) only [go_sem, Nat.reduceAdd, Nat.reduceMul, c21, c22, c23, c24, c25, c26, c27, c28, c29, c30, c31, c32l, c32]; exact hK) ?_
                refine AL_again (m := n20) (by omega) ?_
                exact .inr (⟨_, _, _, _, _, _, _, _, _, _, _, _, _, _, _, by omega, h, At_keep [2, 3, 6, 14, 15] [24, 32, 472]⟩)
            ·
              replace c28 := eq_false c28
              refine AL_region [2, 3, 6, 7, 14, 15, 54] [24, 32, 472] [] ⟨[], [], []⟩ [(11, 29), (24, 42)] (by kernel_rfl) (by kernel_rfl) (by kernel_rfl) (fun K hK => by simp (decide := true) (maxSteps := 4000000) only [go_sem, Nat.reduceAdd, Nat.reduceMul, c21, c22, c23, c24, c25, c26, c27, c28]; exact hK) ?_
              refine AL_then (by simp (decide := true) only [go_sem, Nat.reduceAdd, Nat.reduceMul, c21, c22, c23, c24, c25, c26, c27, c28]) ?_
              obtain ⟨c33, h⟩ := ite_l h
              have c33l := lim8 c33
              replace c33 := eq_true c33
              refine AL_region [2, 3, 6, 14, 15] [24, 32, 472] [] ⟨[], [], []⟩ [] (by kernel_rfl) (by kernel_rfl) (by kernel_rfl) (fun K hK => by simp (decide := true) only [go_sem, Nat.reduceAdd, Nat.reduceMul, c21, c22, c23, c24, c25, c26, c27, c28, c33l, c33]; exact hK) ?_
              refine blockQ_n ?_
              refine AL_region [2, 3, 6, 14, 15] [24, 32, 472] [] ⟨[], [], []⟩ [] (by kernel_rfl) (by kernel_rfl) (by kernel_rfl) (fun K hK => by simp (decide := true) only [go_sem, Nat.reduceAdd, Nat.reduceMul, c21, c22, c23, c24, c25, c26, c27, c28, c33l, c33]; exact hK) ?_
              refine AL_again (m := n20) (by omega) ?_
              exact .inr (⟨_, _, _, _, _, _, _, _, _, _, _, _, _, _, _, by omega, h, At_keep [2, 3, 6, 14, 15] [24, 32, 472]⟩)
          ·
            replace c25 := eq_false c25
            refine AL_region [2, 3, 6, 7, 14, 15, 54] [24, 32, 472] [] ⟨[], [], []⟩ [(11, 29), (24, 42)] (by kernel_rfl) (by kernel_rfl) (by kernel_rfl) (fun K hK => by simp (decide := true) (maxSteps := 4000000) only [go_sem, Nat.reduceAdd, Nat.reduceMul, c21, c22, c23, c24, c25]; exact hK) ?_
            refine AL_then (by simp (decide := true) only [go_sem, Nat.reduceAdd, Nat.reduceMul, c21, c22, c23, c24, c25]) ?_
            obtain ⟨c34, h⟩ := ite_l h
            have c34l := lim8 c34
            replace c34 := eq_true c34
            refine AL_region [2, 3, 6, 14, 15] [24, 32, 472] [] ⟨[], [], []⟩ [] (by kernel_rfl) (by kernel_rfl) (by kernel_rfl) (fun K hK => by simp (decide := true) only [go_sem, Nat.reduceAdd, Nat.reduceMul, c21, c22, c23, c24, c25, c34l, c34]; exact hK) ?_
            refine blockQ_n ?_
            refine AL_region [2, 3, 6, 14, 15] [24, 32, 472] [] ⟨[], [], []⟩ [] (by kernel_rfl) (by kernel_rfl) (by kernel_rfl) (fun K hK => by simp (decide := true) only [go_sem, Nat.reduceAdd, Nat.reduceMul, c21, c22, c23, c24, c25, c34l, c34]; exact hK) ?_
            refine AL_again (m := n20) (by omega) ?_
            exact .inr (⟨_, _, _, _, _, _, _, _, _, _, _, _, _, _, _, by omega, h, At_keep [2, 3, 6, 14, 15] [24, 32, 472]⟩)
        ·
          replace c21 := eq_false c21
          refine AL_else (by simp (decide := true) only [go_sem, Nat.reduceAdd, Nat.reduceMul, c21]) ?_
          refine AL_exit ?_
          repeat first | refine thenQ_x ?_ | refine blockQ_miss (by decide) ?_
          refine blockQ_hit ?_
          refine AL_seq ?_
          refine AL_region [4, 5] [472] [] ⟨[], [], []⟩ [] (by kernel_rfl) (by kernel_rfl) (by kernel_rfl) (fun K hK => by simp (decide := true) only [go_sem, Nat.reduceAdd, Nat.reduceMul, c21]; exact hK) ?_
          replace h := Option.some.inj h
          obtain ⟨rfl, rfl⟩ := Prod.mk.inj h
          refine AL_ret (fun _ => rfl) ?_
          exact retF_mk rfl (by exact ⟨trivial, trivial, trivial⟩) rfl (by exact ⟨rfl, rfl, trivial⟩) (by exact trivial) (by exact trivial)
  ·
    replace c2 := Bool.of_not_eq_true c2
    refine AL_then (by simp (decide := true) only [go_sem, Nat.reduceAdd, Nat.reduceMul, c2]) ?_
    refine AL_seq ?_
    refine AL_region [4, 5] [] [] ⟨[], [], []⟩ [] (by kernel_rfl) (by kernel_rfl) (by kernel_rfl) (fun K hK => by simp (decide := true) only [go_sem, Nat.reduceAdd, Nat.reduceMul, c2]; exact hK) ?_
    replace h := Option.some.inj h
    obtain ⟨rfl, rfl⟩ := Prod.mk.inj h
    refine AL_ret (fun _ => rfl) ?_
    exact retF_mk rfl (by exact ⟨trivial, trivial, trivial⟩) rfl (by exact ⟨rfl, rfl, trivial⟩) (by exact trivial) (by exact trivial)
/-! spec_DrawBlockOfHole : 54 -/
set_option maxRecDepth 100000 in
set_option maxHeartbeats 4000000 in
theorem spec_DrawBlockOfHole.V {l0 : List Int} {r1 : Int} {r2 : Int} {r3 : Int} {r4 : Int} {r5 : Int} {r6 : Int} {r7 : Int} {r8 : Int} (h : spec_DrawBlockOfHole.f l0 = some (r1, r2, r3, r4, r5, r6, r7, r8)) : FnV E 54 [.sl false 1 (mp mkB l0)] none (.tup [.agg [.int .i64 r1, .int .i64 r2, .int .i64 r3], .agg [.int .i64 r4, .int .i64 r5, .int .i64 r6, .int .i64 r7, .int .i64 r8]]) [] none := by
  refine FnV_list E (rs := [.cell 2 24, .cell 3 68]) Try.func54 (by rfl) rfl Try.ntmps54 rfl [] (by simp) rfl (by simp) rfl (fun us => ?_)
  simp only [argsL, memL, wrapL, wrap1, Nat.reduceAdd]
  unfold spec_DrawBlockOfHole.f at h
  refine AL_seq ?_
  refine AL_region [0, 2, 3] [24, 32] [] ⟨[], [], []⟩ [] (by kernel_rfl) (by kernel_rfl) (by kernel_rfl) (fun K hK => by simp (decide := true) only [go_sem, Nat.reduceAdd, Nat.reduceMul]; exact hK) ?_
  refine AL_seq ?_
  refine AL_region [2, 3, 4] [24, 32, 72] [] ⟨[], [], []⟩ [] (by kernel_rfl) (by kernel_rfl) (by kernel_rfl) (fun K hK => by simp (decide := true) only [go_sem, Nat.reduceAdd, Nat.reduceMul]; exact hK) ?_
  refine AL_seq ?_
  obtain ⟨⟨t671, t672, t673, t674, t675⟩, g1, h⟩ := bind_or h
  dsimp only at h
  refine AL_region [2, 3, 4, 5] [24, 32, 48, 72] [] ⟨[], [], []⟩ [] (by kernel_rfl) (by kernel_rfl) (by kernel_rfl) (fun K hK => by simp (decide := true) only [go_sem, Nat.reduceAdd, Nat.reduceMul]; refine ⟨_, _, _, spec_l1Cur_anyGrid.V g1, ?_⟩; simp (decide := true) only [go_sem, Nat.reduceAdd, Nat.reduceMul]; exact hK) ?_
  refine AL_seq ?_
  obtain ⟨⟨t677, t678, t679, t680, t681, t682, t683⟩, g2, h⟩ := bind_or h
  dsimp only at h
  refine AL_region [2, 3] [24, 32] [] ⟨[11], [14], [72]⟩ [] (by kernel_rfl) (by kernel_rfl) (by kernel_rfl) (fun K hK => by simp (decide := true) only [go_sem, Nat.reduceAdd, Nat.reduceMul]; refine ⟨_, _, _, spec_l1Cur_hole.V g2, ?_⟩; simp (decide := true) only [go_sem, Nat.reduceAdd, Nat.reduceMul]; exact hK) ?_
  replace h := Option.some.inj h
  obtain ⟨rfl, h1⟩ := Prod.mk.inj h
  obtain ⟨rfl, h2⟩ := Prod.mk.inj h1
  obtain ⟨rfl, h3⟩ := Prod.mk.inj h2
  obtain ⟨rfl, h4⟩ := Prod.mk.inj h3
  obtain ⟨rfl, h5⟩ := Prod.mk.inj h4
  obtain ⟨rfl, h6⟩ := Prod.mk.inj h5
  obtain ⟨rfl, rfl⟩ := Prod.mk.inj h6
  refine AL_ret (fun _ => rfl) ?_
  exact retF_mk rfl (by exact ⟨(by simp), (by simp), trivial⟩) rfl (by exact ⟨⟨rfl, rfl, rfl, trivial⟩, ⟨rfl, rfl, rfl, rfl, rfl, trivial⟩, trivial⟩) (by exact trivial) (by exact trivial)
end Go.Proofs.Ytfakhgopbhnocaa.PFnHoles
