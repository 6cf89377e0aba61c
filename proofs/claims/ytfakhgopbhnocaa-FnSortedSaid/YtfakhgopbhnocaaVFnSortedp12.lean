/- Each function's run, shown to compute what its plain function says. -/
import Derived.Test.YtfakhgopbhnocaaVFnSortedp11
import Derived.KernelRfl
set_option linter.unusedVariables false
set_option linter.unusedSimpArgs false
namespace Go.Proofs.Ytfakhgopbhnocaa.PFnSorted
open Go Go.Proofs.YtfakhgopbhnocaaVM Go.Proofs.Ytfakhgopbhnocaa.VE Go.RowKit Go.Proofs.YtfakhgopbhnocaaW.PrintWords Go.Proofs.YtfakhgopbhnocaaW.PrintLast Go.Proofs.YtfakhgopbhnocaaW.PrintMore
attribute [local go_sem] runF_nil runF_cons kG_go kG_store kG_skip kG_pass kS_go kS_call kQ_go flagB_no inFl_some inFl_store hasB_nil hasB_hit hasB_miss flagB_eq clB_no wrB_no clB_yes wrB_store wrB_call opdL_load opdL_index opdL_len nm0_eq nmV_nil nmV_cons pt0_ptr pt0_int pt0_bool pt0_sl pt0_nil pt0_ref pt0_agg guardB_none guardB_some gL_some gB_true gB_false gB_skip look_hit look_miss tg_hit tg_miss bg_hit bg_miss ev_tmp ev_int ev_bool ev_nil ev_agg sQ_some stO_move stO_assign stO_pick stO_un stO_bin stO_field stO_load stO_index stO_extract stO_conv stO_box stO_alloc stO_len stO_call qUn_not qUn_neg qPick_true qPick_false qField_ptr qField_fat qLd_some qConv_some sB_some sA_some qLen_sl qLen_nil boxV_agg boxV_int boxV_bool boxV_nil boxV_sl boxV_ref qBin_add qBin_sub qBin_mul qBin_quo qBin_rem qBin_and qBin_or qBin_shr qBin_shl qBin_eql qBin_neq qBin_lss qBin_leq qBin_gtr qBin_geq qBin_beq qBin_bne qEx_tup keepT_cons keepB_nil keepB_cons keepT_nil qLoad_fat1 qLoad_fat2 qLoad_ptr ldB_box1 ld1_some ldB_box2 ldB_row ldR_1 ldR_2 unc_int unc_bool unc_nil unc_ref unc_sl unc_con_sl unc_con_nil rt_int rt_bool rt_nil rt_sl qIndex_sl ixT_some ixS_some qIndex_ref ixR_some ixR1_some argPtr_nil argPtr_ptr argPtr_int argPtr_bool argPtr_sl argPtr_ref argPtr_nl argPtr_agg memIn_none memIn_some mi1_box mi2_some viewL_int viewL_bool viewL_nil viewL_sl viewL_ref vwR_some cons2_some viewLs_nil viewLs_cons viewAs_nil viewAs_cons viewA_int viewA_bool viewA_nil viewA_sl viewA_ref viewA_agg agg1_some viewA_ptr sC_go sC2_some renT_int renT_bool renT_nil renT_sl renT_agg renT_tup renA_int renA_bool renA_nil renA_sl renA_agg renL_int renL_bool renL_nil renL_sl rowsD_nil memD_none memD_some md1_box mergeL_nil mergeL_int mergeL_bool mergeL_sl mergeL_nl stO_build sP_some sF_some fillV_nil fillV_cons fl1_go stO_nilCheck qNil_ptr stO_min qMin_int stO_max qMax_int stO_make sMe_some sM_some stO_slice sSe_some sS_own sS_fix rowsV_nil rowsV_cons rv1_some rowV_int rowV_bool rowV_nil rowV_sl rowV_agg stO_append sApp_new sApp_on qStore_eq qS2_some qS1_some qApp_eq qA0_some qA1_some qA2_nil qA2_ref stored1_ptr st1_box st1_row setL_nil setL_cons qA3_some absB_t absB_b0 absB_b1 absB_nil noBB_row noBB_box noTB_int noAB_int noLB_int killT_int killA_int killL_int noTB_bool noAB_bool noLB_bool killT_bool killA_bool killL_bool noTB_nil noAB_nil noLB_nil killT_nil killA_nil killL_nil noTB_und noAB_und noLB_und killT_und killA_und killL_und noTB_skip noAB_skip noLB_skip killT_skip killA_skip killL_skip noTB_sl noAB_sl noLB_sl killT_sl killA_sl killL_sl noTB_fat noAB_fat noLB_fat killT_fat killA_fat killL_fat noTB_ref noAB_ref noLB_ref killT_ref0 killT_ref killA_ref0 killA_ref killL_ref0 killL_ref noTB_ptr noAB_ptr noLB_ptr killT_ptr0 killT_ptr killA_ptr0 killA_ptr killL_ptr0 killL_ptr noTB_agg noAB_agg noTB_tup noLB_con_sl noLB_con_nil killT_agg killA_agg killT_tup killL_con_sl killL_con_nil killTL_nil killTL_cons killBL_nil killBL_none killBL_row killBL_box shut1_int shut1_bool shut1_nil shut1_sl scal_int scal_bool known1_int known1_bool known1_nil known1_sl known1_ref opdL_call nm0_func intsOf_nil intsOf_cons qBin_eqA qBin_neA eqA_eq eqA_ne nil_beq renT_ref renA_ref renL_ref rowsD_cons qLen_refR lenR_some tn_lt rowI_getn rowI_set nlit rowI_scal mp_nil rowI_cons rowI_len mkI_eq mkB_eq mp_length mp_app mp_ne rowI_one rowI_zero ibeq ibne true_and and_true and_self decide_true decide_false Bool.not_true Bool.not_false Bool.not_not List.length_map List.length_cons List.length_nil List.getElem?_cons_zero List.getElem?_cons_succ List.drop_zero List.drop_succ_cons List.take_succ_cons List.take_zero List.map_cons List.map_nil List.all_cons List.all_nil Bool.and_true Bool.true_and List.getD_cons_zero List.getD_cons_succ List.set_cons_zero List.set_cons_succ Option.isSome_none Option.isSome_some List.nil_append List.cons_append List.append_eq List.append_nil List.length_append cond_true cond_false ne_eq List.map_eq_nil_iff not_false_eq_true List.cons_ne_nil Bool.true_bne Bool.false_bne Bool.bne_true Bool.bne_false Bool.true_beq Bool.false_beq Int.zero_sub List.cons_beq_cons Option.map_some true_or or_true beq_self_eq_true Nat.zero_lt_succ ti_3 ti_5 ti_22 ti_24 ti_25 ti_27 ti_68 ti_127 ti_129 el_22 el_25 el_32 el_60 el_205 fo_24_0 fo_24_1 fo_24_2 fo_27_0 fo_27_1 fo_27_2 fo_27_3 fo_68_0 fo_68_1 fo_68_2 fo_68_3 fo_68_4 fo_129_0 fo_129_1 fo_129_2 bo_4 io_3 io_5 io_127 pl_24 pl_27 pl_68 pl_129 eqs_24 loud_4 loud_21 loud_23 loud_24 loud_25 loud_26 loud_27 loud_28 loud_29 loud_30 loud_31 loud_32 loud_33 loud_34 loud_35 loud_36 loud_37 loud_94 loud_96 loud_97 loud_98 loud_99 loud_101 loud_103 loud_110 loud_111 loud_112 loud_113 loud_114 loud_115 loud_116 loud_117 loud_118 loud_119 loud_120 loud_121 loud_122 loud_131 loud_136 loud_145 loud_177 loud_178 loud_180 loud_183 loud_184 loud_185 loud_189 i64w wl mx_rule mn_rule rowI_get rowB_get mkS24_eq rowS24_get rowS24_one rowS24_cons rowS24_len mkL_eq rowL_one rowL_cons rowL_len
/-! impl_ScaleModel : 29 -/
set_option maxRecDepth 100000 in
set_option maxHeartbeats 4000000 in
theorem impl_ScaleModel.V {k : Nat} {a0_0 : Int} {a0_1 : Int} {a0_2 : Int} {l0_3 : List Int} {l0_4 : List Int} {l0_5 : List Int} {a1 : Int} {a2 : Int} {r1 : Int} {r2 : Int} {r3 : Int} {r4 : List Int} {r5 : List Int} {r6 : List Int} {r7 : Bool} (h : impl_ScaleModel.f k a0_0 a0_1 a0_2 l0_3 l0_4 l0_5 a1 a2 = some (r1, r2, r3, r4, r5, r6, r7)) : FnV E 29 [.agg [.int .i64 a0_0, .int .i64 a0_1, .int .i64 a0_2, .sl false 1 (mp mkI l0_3), .sl false 1 (mp mkI l0_4), .sl false 1 (mp mkI l0_5)], .int .i64 a1, .int .i64 a2] none (.tup [.agg [.int .i64 r1, .int .i64 r2, .int .i64 r3, .sl true 1 (mp mkI r4), .sl true 1 (mp mkI r5), .sl true 1 (mp mkI r6)], .bool r7]) [] none := by
  refine FnV_list E (rs := [.cell 6 27, .tmp 7]) Try.func29 (by rfl) rfl Try.ntmps29 rfl [] (by simp) rfl (by simp) rfl (fun us => ?_)
  simp only [argsL, memL, wrapL, wrap1, Nat.reduceAdd]
  unfold impl_ScaleModel.f at h
  refine AL_seq ?_
  refine AL_region [1, 2, 3, 6] [32, 56] [] ⟨[], [], []⟩ [] (by kernel_rfl) (by kernel_rfl) (by kernel_rfl) (fun K hK => by simp (decide := true) only [go_sem, Nat.reduceAdd, Nat.reduceMul]; exact hK) ?_
  refine AL_seq ?_
  refine AL_seq ?_
  refine AL_cut (fun S => (∃ kk : Nat, ∃ x1 : Int, ∃ x2 : Int, ∃ x29 : Bool, ∃ x559000 : Int, ∃ x559001 : Int, ∃ x559002 : Int, ∃ x559003 : List Int, ∃ x559004 : List Int, ∃ x559005 : List Int, ∃ x560000 : Int, ∃ x560001 : Int, ∃ x560002 : Int, kk ≤ k ∧ impl_ScaleModel.j0 kk x1 x2 x29 x559000 x559001 x559002 x559003 x559004 x559005 = some (r1, r2, r3, r4, r5, r6, r7) ∧ At [(1, .int .i64 x1), (2, .int .i64 x2), (3, .ptr 32 0 0), (6, .ptr 56 0 0), (29, .bool x29)] [(32, some (.box [.int .i64 x559000, .int .i64 x559001, .int .i64 x559002, .sl false 1 (mp mkI x559003), .sl false 1 (mp mkI x559004), .sl false 1 (mp mkI x559005)])), (56, some (.box [.int .i64 x560000, .int .i64 x560001, .int .i64 x560002, .nil, .nil, .nil]))] S)) ?_ ?_
  ·
    obtain ⟨t560, g1, h⟩ := bind_or h
    rcases ite_or h with ⟨c2, h⟩ | ⟨c2, h⟩
    ·
      rcases ite_or h with ⟨c3, h⟩ | ⟨c3, h⟩
      ·
        replace c3 := eq_true c3
        refine AL_region [1, 2, 3, 6, 29] [32, 56] [] ⟨[], [], []⟩ [(3, 14), (7, 18), (11, 22), (15, 26)] (by kernel_rfl) (by kernel_rfl) (by kernel_rfl) (fun K hK => by simp (decide := true) (maxSteps := 4000000) only [go_sem, Nat.reduceAdd, Nat.reduceMul, c2, c3]; refine ⟨_, _, _, impl_IsModel.V g1, ?_⟩; simp (decide := true) (maxSteps := 4000000) only [go_sem, Nat.reduceAdd, Nat.reduceMul, c2, c3]; exact hK) ?_
        refine AL_meet ?_
        exact ⟨_, _, _, _, _, _, _, _, _, _, _, _, _, by omega, h, At_keep [1, 2, 3, 6, 29] [32, 56]⟩
      ·
        replace c3 := eq_false c3
        rcases ite_or h with ⟨c4, h⟩ | ⟨c4, h⟩
        ·
          replace c4 := eq_true c4
          refine AL_region [1, 2, 3, 6, 29] [32, 56] [] ⟨[], [], []⟩ [(3, 14), (7, 18), (11, 22), (15, 26)] (by kernel_rfl) (by kernel_rfl) (by kernel_rfl) (fun K hK => by simp (decide := true) (maxSteps := 4000000) only [go_sem, Nat.reduceAdd, Nat.reduceMul, c2, c3, c4]; refine ⟨_, _, _, impl_IsModel.V g1, ?_⟩; simp (decide := true) (maxSteps := 4000000) only [go_sem, Nat.reduceAdd, Nat.reduceMul, c2, c3, c4]; exact hK) ?_
          refine AL_meet ?_
          exact ⟨_, _, _, _, _, _, _, _, _, _, _, _, _, by omega, h, At_keep [1, 2, 3, 6, 29] [32, 56]⟩
        ·
          replace c4 := eq_false c4
          rcases ite_or h with ⟨c5, h⟩ | ⟨c5, h⟩
          ·
            replace c5 := eq_true c5
            refine AL_region [1, 2, 3, 6, 29] [32, 56] [] ⟨[], [], []⟩ [(3, 14), (7, 18), (11, 22), (15, 26)] (by kernel_rfl) (by kernel_rfl) (by kernel_rfl) (fun K hK => by simp (decide := true) (maxSteps := 4000000) only [go_sem, Nat.reduceAdd, Nat.reduceMul, c2, c3, c4, c5]; refine ⟨_, _, _, impl_IsModel.V g1, ?_⟩; simp (decide := true) (maxSteps := 4000000) only [go_sem, Nat.reduceAdd, Nat.reduceMul, c2, c3, c4, c5]; exact hK) ?_
            refine AL_meet ?_
            exact ⟨_, _, _, _, _, _, _, _, _, _, _, _, _, by omega, h, At_keep [1, 2, 3, 6, 29] [32, 56]⟩
          ·
            replace c5 := eq_false c5
            refine AL_region [1, 2, 3, 6, 29] [32, 56] [] ⟨[], [], []⟩ [(3, 14), (7, 18), (11, 22), (15, 26)] (by kernel_rfl) (by kernel_rfl) (by kernel_rfl) (fun K hK => by simp (decide := true) (maxSteps := 4000000) only [go_sem, Nat.reduceAdd, Nat.reduceMul, c2, c3, c4, c5]; refine ⟨_, _, _, impl_IsModel.V g1, ?_⟩; simp (decide := true) (maxSteps := 4000000) only [go_sem, Nat.reduceAdd, Nat.reduceMul, c2, c3, c4, c5]; exact hK) ?_
            refine AL_meet ?_
            exact ⟨_, _, _, _, _, _, _, _, _, _, _, _, _, by omega, h, At_keep [1, 2, 3, 6, 29] [32, 56]⟩
    ·
      replace c2 := Bool.of_not_eq_true c2
      refine AL_region [1, 2, 3, 6, 29] [32, 56] [] ⟨[], [], []⟩ [(3, 14), (7, 18), (11, 22), (15, 26)] (by kernel_rfl) (by kernel_rfl) (by kernel_rfl) (fun K hK => by simp (decide := true) (maxSteps := 4000000) only [go_sem, Nat.reduceAdd, Nat.reduceMul, c2]; refine ⟨_, _, _, impl_IsModel.V g1, ?_⟩; simp (decide := true) (maxSteps := 4000000) only [go_sem, Nat.reduceAdd, Nat.reduceMul, c2]; exact hK) ?_
      refine AL_meet ?_
      exact ⟨_, _, _, _, _, _, _, _, _, _, _, _, _, by omega, h, At_keep [1, 2, 3, 6, 29] [32, 56]⟩
  ·
    intro S hS
    obtain ⟨kk6, x1, x2, x29, x559000, x559001, x559002, x559003, x559004, x559005, x560000, x560001, x560002, hkq7, h, hS⟩ := hS
    rcases kk6 with _ | n8
    · (rw [impl_ScaleModel.j0] at h; cases h)
    rw [impl_ScaleModel.j0] at h
    refine AW_at hS ?_
    rcases ite_or h with ⟨c9, h⟩ | ⟨c9, h⟩
    ·
      refine AL_then (by simp (decide := true) only [go_sem, Nat.reduceAdd, Nat.reduceMul, c9]) ?_
      refine AL_seq ?_
      refine AL_region [6, 7] [56] [] ⟨[], [], []⟩ [] (by kernel_rfl) (by kernel_rfl) (by kernel_rfl) (fun K hK => by simp (decide := true) only [go_sem, Nat.reduceAdd, Nat.reduceMul, c9]; exact hK) ?_
      replace h := Option.some.inj h
      obtain ⟨rfl, h1⟩ := Prod.mk.inj h
      obtain ⟨rfl, h2⟩ := Prod.mk.inj h1
      obtain ⟨rfl, h3⟩ := Prod.mk.inj h2
      obtain ⟨rfl, h4⟩ := Prod.mk.inj h3
      obtain ⟨rfl, h5⟩ := Prod.mk.inj h4
      obtain ⟨rfl, rfl⟩ := Prod.mk.inj h5
      refine AL_ret (fun _ => rfl) ?_
      exact retF_mk rfl (by exact ⟨(by simp), trivial, trivial⟩) rfl (by exact ⟨⟨rfl, rfl, rfl, rfl, rfl, rfl, trivial⟩, rfl, trivial⟩) (by exact trivial) (by exact trivial)
    ·
      replace c9 := Bool.of_not_eq_true c9
      refine AL_else (by simp (decide := true) only [go_sem, Nat.reduceAdd, Nat.reduceMul, c9]) ?_
      refine AL_skip ?_
      refine AL_seq ?_
      obtain ⟨⟨t561, t562, t563, t564, t567, t570⟩, g10, h⟩ := bind_or h
      dsimp only at h
      refine AL_region [1, 2, 3, 6, 8] [32, 56, 72, 264, 265, 266] [] ⟨[], [], []⟩ [] (by kernel_rfl) (by kernel_rfl) (by kernel_rfl) (fun K hK => by simp (decide := true) only [go_sem, Nat.reduceAdd, Nat.reduceMul, c9]; refine ⟨_, _, _, impl_copyModel.W g10, ?_⟩; simp (decide := true) only [go_sem, Nat.reduceAdd, Nat.reduceMul, c9]; exact hK) ?_
      refine AL_seq ?_
      refine AL_seq ?_
      refine AL_region [1, 2, 6, 8, 34, 35, 36] [56, 72, 264, 265, 266] [] ⟨[], [], []⟩ [] (by kernel_rfl) (by kernel_rfl) (by kernel_rfl) (fun K hK => by simp (decide := true) only [go_sem, Nat.reduceAdd, Nat.reduceMul, c9]; exact hK) ?_
      refine AL_block ?_
      refine AL_loop (n := n8) (fun n S => (∃ x1 : Int, ∃ x2 : Int, ∃ x34 : List Int, ∃ x35 : Int, ∃ x36 : Int, ∃ x560000 : Int, ∃ x560001 : Int, ∃ x560002 : Int, ∃ x574000 : Int, ∃ x574001 : Int, ∃ x574002 : Int, ∃ x574003 : List Int, ∃ x574004 : List Int, ∃ x574005 : List Int, n ≤ n8 ∧ impl_ScaleModel.l0 n x1 x2 x34 x35 x36 x574000 x574001 x574002 x574003 x574004 x574005 = some (r1, r2, r3, r4, r5, r6, r7) ∧ At [(1, .int .i64 x1), (2, .int .i64 x2), (6, .ptr 56 0 0), (8, .ptr 72 0 0), (34, .sl false 1 (mp mkI x34)), (35, .int .i64 x35), (36, .int .i64 x36)] [(56, some (.box [.int .i64 x560000, .int .i64 x560001, .int .i64 x560002, .nil, .nil, .nil])), (72, some (.box [.int .i64 x574000, .int .i64 x574001, .int .i64 x574002, .ref 264, .ref 265, .ref 266])), (264, some (.row 3 1 (mp mkI x574003))), (265, some (.row 3 1 (mp mkI x574004))), (266, some (.row 3 1 (mp mkI x574005)))] S)) ?_ ?_
      · exact ⟨_, _, _, _, _, _, _, _, _, _, _, _, _, _, by omega, h, At_keep [1, 2, 6, 8, 34, 35, 36] [56, 72, 264, 265, 266]⟩
      ·
        intro n S hS
        obtain ⟨x1, x2, x34, x35, x36, x560000, x560001, x560002, x574000, x574001, x574002, x574003, x574004, x574005, hkq11, h, hS⟩ := hS
        rcases n with _ | n12
        · (rw [impl_ScaleModel.l0] at h; cases h)
        rw [impl_ScaleModel.l0] at h
        refine AW_at hS ?_
        refine AL_seq ?_
        refine AL_region [1, 2, 6, 8, 34, 35, 36, 37] [56, 72, 264, 265, 266] [] ⟨[], [], []⟩ [] (by kernel_rfl) (by kernel_rfl) (by kernel_rfl) (fun K hK => by simp (decide := true) only [go_sem, Nat.reduceAdd, Nat.reduceMul]; exact hK) ?_
        refine AL_seq ?_
        rcases ite_or h with ⟨c13, h⟩ | ⟨c13, h⟩
        ·
          replace c13 := eq_true c13
          refine AL_then (by simp (decide := true) only [go_sem, Nat.reduceAdd, Nat.reduceMul, c13]) ?_
          refine AL_skip ?_
          refine AL_seq ?_
          refine AL_block ?_
          refine AL_seq ?_
          obtain ⟨c14, h⟩ := ite_l h
          replace c14 := eq_true c14
          obtain ⟨c15, h⟩ := ite_l h
          replace c15 := eq_true c15
          refine AL_region [1, 2, 6, 8, 9, 10, 34, 35, 36] [56, 72, 264, 265, 266] [] ⟨[], [], []⟩ [] (by kernel_rfl) (by kernel_rfl) (by kernel_rfl) (fun K hK => by simp (decide := true) only [go_sem, Nat.reduceAdd, Nat.reduceMul, c13, c14, c15]; exact hK) ?_
          obtain ⟨c16, h⟩ := ite_r h
          replace c16 := eq_false c16
          obtain ⟨c17, h⟩ := ite_l h
          replace c17 := eq_true c17
          refine AL_region [1, 2, 6, 8, 34, 35, 36] [56, 72, 264, 265, 266] [] ⟨[], [], []⟩ [] (by kernel_rfl) (by kernel_rfl) (by kernel_rfl) (fun K hK => by simp (decide := true) (maxSteps := 4000000) only [go_sem, Nat.reduceAdd, Nat.reduceMul, c13, c14, c15, c16, c17]; exact hK) ?_
          refine blockQ_n ?_
          refine AL_region [1, 2, 6, 8, 34, 35, 36] [56, 72, 264, 265, 266] [] ⟨[], [], []⟩ [] (by kernel_rfl) (by kernel_rfl) (by kernel_rfl) (fun K hK => by simp (decide := true) only [go_sem, Nat.reduceAdd, Nat.reduceMul, c13, c14, c15, c16, c17]; exact hK) ?_
          refine AL_again (m := n12) (by omega) ?_
          exact ⟨_, _, _, _, _, _, _, _, _, _, _, _, _, _, by omega, h, At_keep [1, 2, 6, 8, 34, 35, 36] [56, 72, 264, 265, 266]⟩
        ·
          replace c13 := eq_false c13
          refine AL_else (by simp (decide := true) only [go_sem, Nat.reduceAdd, Nat.reduceMul, c13]) ?_
          refine AL_exit ?_
          repeat first | refine thenQ_x ?_ | refine blockQ_miss (by decide) ?_
          refine blockQ_hit ?_
          refine AL_seq ?_
          refine AL_region [6, 7] [56, 264, 265, 266] [] ⟨[], [], []⟩ [] (by kernel_rfl) (by kernel_rfl) (by kernel_rfl) (fun K hK => by simp (decide := true) only [go_sem, Nat.reduceAdd, Nat.reduceMul, c13]; exact hK) ?_
          replace h := Option.some.inj h
          obtain ⟨rfl, h1⟩ := Prod.mk.inj h
          obtain ⟨rfl, h2⟩ := Prod.mk.inj h1
          obtain ⟨rfl, h3⟩ := Prod.mk.inj h2
          obtain ⟨rfl, h4⟩ := Prod.mk.inj h3
          obtain ⟨rfl, h5⟩ := Prod.mk.inj h4
          obtain ⟨rfl, rfl⟩ := Prod.mk.inj h5
          refine AL_ret (fun _ => rfl) ?_
          exact retF_mk rfl (by exact ⟨(by simp), trivial, trivial⟩) rfl (by exact ⟨⟨rfl, rfl, rfl, rfl, rfl, rfl, trivial⟩, rfl, trivial⟩) (by exact trivial) (by exact trivial)
/-! spec_ScaleModel : 30 -/
set_option maxRecDepth 100000 in
set_option maxHeartbeats 4000000 in
theorem spec_ScaleModel.V {k : Nat} {a0_0 : Int} {a0_1 : Int} {a0_2 : Int} {l0_3 : List Int} {l0_4 : List Int} {l0_5 : List Int} {a1 : Int} {a2 : Int} {r1 : Int} {r2 : Int} {r3 : Int} {r4 : List Int} {r5 : List Int} {r6 : List Int} {r7 : Bool} (h : spec_ScaleModel.f k a0_0 a0_1 a0_2 l0_3 l0_4 l0_5 a1 a2 = some (r1, r2, r3, r4, r5, r6, r7)) : FnV E 30 [.agg [.int .i64 a0_0, .int .i64 a0_1, .int .i64 a0_2, .sl false 1 (mp mkI l0_3), .sl false 1 (mp mkI l0_4), .sl false 1 (mp mkI l0_5)], .int .i64 a1, .int .i64 a2] none (.tup [.agg [.int .i64 r1, .int .i64 r2, .int .i64 r3, .sl true 1 (mp mkI r4), .sl true 1 (mp mkI r5), .sl true 1 (mp mkI r6)], .bool r7]) [] none := by
  refine FnV_list E (rs := [.cell 6 27, .tmp 7]) Try.func30 (by rfl) rfl Try.ntmps30 rfl [] (by simp) rfl (by simp) rfl (fun us => ?_)
  simp only [argsL, memL, wrapL, wrap1, Nat.reduceAdd]
  unfold spec_ScaleModel.f at h
  refine AL_seq ?_
  refine AL_region [1, 2, 3, 6] [32, 56] [] ⟨[], [], []⟩ [] (by kernel_rfl) (by kernel_rfl) (by kernel_rfl) (fun K hK => by simp (decide := true) only [go_sem, Nat.reduceAdd, Nat.reduceMul]; exact hK) ?_
  refine AL_seq ?_
  refine AL_seq ?_
  refine AL_cut (fun S => (∃ kk : Nat, ∃ x1 : Int, ∃ x2 : Int, ∃ x23 : Bool, ∃ x577000 : Int, ∃ x577001 : Int, ∃ x577002 : Int, ∃ x577003 : List Int, ∃ x577004 : List Int, ∃ x577005 : List Int, ∃ x578000 : Int, ∃ x578001 : Int, ∃ x578002 : Int, kk ≤ k ∧ spec_ScaleModel.j0 kk x1 x2 x23 x577000 x577001 x577002 x577003 x577004 x577005 = some (r1, r2, r3, r4, r5, r6, r7) ∧ At [(1, .int .i64 x1), (2, .int .i64 x2), (3, .ptr 32 0 0), (6, .ptr 56 0 0), (23, .bool x23)] [(32, some (.box [.int .i64 x577000, .int .i64 x577001, .int .i64 x577002, .sl false 1 (mp mkI x577003), .sl false 1 (mp mkI x577004), .sl false 1 (mp mkI x577005)])), (56, some (.box [.int .i64 x578000, .int .i64 x578001, .int .i64 x578002, .nil, .nil, .nil]))] S)) ?_ ?_
  ·
    obtain ⟨t578, g1, h⟩ := bind_or h
    rcases ite_or h with ⟨c2, h⟩ | ⟨c2, h⟩
    ·
      obtain ⟨t579, g3, h⟩ := bind_or h
      rcases ite_or h with ⟨c4, h⟩ | ⟨c4, h⟩
      ·
        obtain ⟨t580, g5, h⟩ := bind_or h
        refine AL_region [1, 2, 3, 6, 23] [32, 56] [] ⟨[], [], []⟩ [(3, 14), (8, 19)] (by kernel_rfl) (by kernel_rfl) (by kernel_rfl) (fun K hK => by simp (decide := true) (maxSteps := 4000000) only [go_sem, Nat.reduceAdd, Nat.reduceMul, c2, c4]; refine ⟨_, _, _, spec_moGood.V g1, ?_⟩; simp (decide := true) (maxSteps := 4000000) only [go_sem, Nat.reduceAdd, Nat.reduceMul, c2, c4]; refine ⟨_, _, _, spec_l1In.V g3, ?_⟩; simp (decide := true) (maxSteps := 4000000) only [go_sem, Nat.reduceAdd, Nat.reduceMul, c2, c4]; refine ⟨_, _, _, spec_l1In.V g5, ?_⟩; simp (decide := true) (maxSteps := 4000000) only [go_sem, Nat.reduceAdd, Nat.reduceMul, c2, c4]; exact hK) ?_
        refine AL_meet ?_
        exact ⟨_, _, _, _, _, _, _, _, _, _, _, _, _, by omega, h, At_keep [1, 2, 3, 6, 23] [32, 56]⟩
      ·
        replace c4 := Bool.of_not_eq_true c4
        refine AL_region [1, 2, 3, 6, 23] [32, 56] [] ⟨[], [], []⟩ [(3, 14), (8, 19)] (by kernel_rfl) (by kernel_rfl) (by kernel_rfl) (fun K hK => by simp (decide := true) (maxSteps := 4000000) only [go_sem, Nat.reduceAdd, Nat.reduceMul, c2, c4]; refine ⟨_, _, _, spec_moGood.V g1, ?_⟩; simp (decide := true) (maxSteps := 4000000) only [go_sem, Nat.reduceAdd, Nat.reduceMul, c2, c4]; refine ⟨_, _, _, spec_l1In.V g3, ?_⟩; simp (decide := true) (maxSteps := 4000000) only [go_sem, Nat.reduceAdd, Nat.reduceMul, c2, c4]; exact hK) ?_
        refine AL_meet ?_
        exact ⟨_, _, _, _, _, _, _, _, _, _, _, _, _, by omega, h, At_keep [1, 2, 3, 6, 23] [32, 56]⟩
    ·
      replace c2 := Bool.of_not_eq_true c2
      refine AL_region [1, 2, 3, 6, 23] [32, 56] [] ⟨[], [], []⟩ [(3, 14), (8, 19)] (by kernel_rfl) (by kernel_rfl) (by kernel_rfl) (fun K hK => by simp (decide := true) (maxSteps := 4000000) only [go_sem, Nat.reduceAdd, Nat.reduceMul, c2]; refine ⟨_, _, _, spec_moGood.V g1, ?_⟩; simp (decide := true) (maxSteps := 4000000) only [go_sem, Nat.reduceAdd, Nat.reduceMul, c2]; exact hK) ?_
      refine AL_meet ?_
      exact ⟨_, _, _, _, _, _, _, _, _, _, _, _, _, by omega, h, At_keep [1, 2, 3, 6, 23] [32, 56]⟩
  ·
    intro S hS
    obtain ⟨kk6, x1, x2, x23, x577000, x577001, x577002, x577003, x577004, x577005, x578000, x578001, x578002, hkq7, h, hS⟩ := hS
    rcases kk6 with _ | n8
    · (rw [spec_ScaleModel.j0] at h; cases h)
    rw [spec_ScaleModel.j0] at h
    refine AW_at hS ?_
    rcases ite_or h with ⟨c9, h⟩ | ⟨c9, h⟩
    ·
      refine AL_then (by simp (decide := true) only [go_sem, Nat.reduceAdd, Nat.reduceMul, c9]) ?_
      refine AL_seq ?_
      refine AL_region [6, 7] [56] [] ⟨[], [], []⟩ [] (by kernel_rfl) (by kernel_rfl) (by kernel_rfl) (fun K hK => by simp (decide := true) only [go_sem, Nat.reduceAdd, Nat.reduceMul, c9]; exact hK) ?_
      replace h := Option.some.inj h
      obtain ⟨rfl, h1⟩ := Prod.mk.inj h
      obtain ⟨rfl, h2⟩ := Prod.mk.inj h1
      obtain ⟨rfl, h3⟩ := Prod.mk.inj h2
      obtain ⟨rfl, h4⟩ := Prod.mk.inj h3
      obtain ⟨rfl, h5⟩ := Prod.mk.inj h4
      obtain ⟨rfl, rfl⟩ := Prod.mk.inj h5
      refine AL_ret (fun _ => rfl) ?_
      exact retF_mk rfl (by exact ⟨(by simp), trivial, trivial⟩) rfl (by exact ⟨⟨rfl, rfl, rfl, rfl, rfl, rfl, trivial⟩, rfl, trivial⟩) (by exact trivial) (by exact trivial)
    ·
      replace c9 := Bool.of_not_eq_true c9
      refine AL_else (by simp (decide := true) only [go_sem, Nat.reduceAdd, Nat.reduceMul, c9]) ?_
      refine AL_skip ?_
      refine AL_seq ?_
      obtain ⟨⟨t581, t582, t583, t584, t587, t590⟩, g10, h⟩ := bind_or h
      dsimp only at h
      refine AL_region [1, 2, 3, 6, 8] [32, 56, 72, 216, 217, 218] [] ⟨[], [], []⟩ [] (by kernel_rfl) (by kernel_rfl) (by kernel_rfl) (fun K hK => by simp (decide := true) only [go_sem, Nat.reduceAdd, Nat.reduceMul, c9]; refine ⟨_, _, _, spec_moOwn.W g10, ?_⟩; simp (decide := true) only [go_sem, Nat.reduceAdd, Nat.reduceMul, c9]; exact hK) ?_
      refine AL_seq ?_
      refine AL_seq ?_
      refine AL_region [1, 2, 6, 8, 28, 29, 30] [56, 72, 216, 217, 218] [] ⟨[], [], []⟩ [] (by kernel_rfl) (by kernel_rfl) (by kernel_rfl) (fun K hK => by simp (decide := true) only [go_sem, Nat.reduceAdd, Nat.reduceMul, c9]; exact hK) ?_
      refine AL_block ?_
      refine AL_loop (n := n8) (fun n S => (∃ x1 : Int, ∃ x2 : Int, ∃ x28 : List Int, ∃ x29 : Int, ∃ x30 : Int, ∃ x578000 : Int, ∃ x578001 : Int, ∃ x578002 : Int, ∃ x594000 : Int, ∃ x594001 : Int, ∃ x594002 : Int, ∃ x594003 : List Int, ∃ x594004 : List Int, ∃ x594005 : List Int, n ≤ n8 ∧ spec_ScaleModel.l0 n x1 x2 x28 x29 x30 x594000 x594001 x594002 x594003 x594004 x594005 = some (r1, r2, r3, r4, r5, r6, r7) ∧ At [(1, .int .i64 x1), (2, .int .i64 x2), (6, .ptr 56 0 0), (8, .ptr 72 0 0), (28, .sl false 1 (mp mkI x28)), (29, .int .i64 x29), (30, .int .i64 x30)] [(56, some (.box [.int .i64 x578000, .int .i64 x578001, .int .i64 x578002, .nil, .nil, .nil])), (72, some (.box [.int .i64 x594000, .int .i64 x594001, .int .i64 x594002, .ref 216, .ref 217, .ref 218])), (216, some (.row 3 1 (mp mkI x594003))), (217, some (.row 3 1 (mp mkI x594004))), (218, some (.row 3 1 (mp mkI x594005)))] S)) ?_ ?_
      · exact ⟨_, _, _, _, _, _, _, _, _, _, _, _, _, _, by omega, h, At_keep [1, 2, 6, 8, 28, 29, 30] [56, 72, 216, 217, 218]⟩
      ·
        intro n S hS
        obtain ⟨x1, x2, x28, x29, x30, x578000, x578001, x578002, x594000, x594001, x594002, x594003, x594004, x594005, hkq11, h, hS⟩ := hS
        rcases n with _ | n12
        · (rw [spec_ScaleModel.l0] at h; cases h)
        rw [spec_ScaleModel.l0] at h
        refine AW_at hS ?_
        refine AL_seq ?_
        refine AL_region [1, 2, 6, 8, 28, 29, 30, 31] [56, 72, 216, 217, 218] [] ⟨[], [], []⟩ [] (by kernel_rfl) (by kernel_rfl) (by kernel_rfl) (fun K hK => by simp (decide := true) only [go_sem, Nat.reduceAdd, Nat.reduceMul]; exact hK) ?_
        refine AL_seq ?_
        rcases ite_or h with ⟨c13, h⟩ | ⟨c13, h⟩
        ·
          replace c13 := eq_true c13
          refine AL_then (by simp (decide := true) only [go_sem, Nat.reduceAdd, Nat.reduceMul, c13]) ?_
          refine AL_skip ?_
          refine AL_seq ?_
          refine AL_block ?_
          refine AL_seq ?_
          obtain ⟨c14, h⟩ := ite_l h
          replace c14 := eq_true c14
          obtain ⟨c15, h⟩ := ite_l h
          replace c15 := eq_true c15
          refine AL_region [1, 2, 6, 8, 9, 10, 28, 29, 30] [56, 72, 216, 217, 218] [] ⟨[], [], []⟩ [] (by kernel_rfl) (by kernel_rfl) (by kernel_rfl) (fun K hK => by simp (decide := true) only [go_sem, Nat.reduceAdd, Nat.reduceMul, c13, c14, c15]; exact hK) ?_
          obtain ⟨c16, h⟩ := ite_r h
          replace c16 := eq_false c16
          obtain ⟨t595, g17, h⟩ := bind_or h
          obtain ⟨c18, h⟩ := ite_l h
          replace c18 := eq_true c18
          refine AL_region [1, 2, 6, 8, 28, 29, 30] [56, 72, 216, 217, 218] [] ⟨[], [], []⟩ [] (by kernel_rfl) (by kernel_rfl) (by kernel_rfl) (fun K hK => by simp (decide := true) (maxSteps := 4000000) only [go_sem, Nat.reduceAdd, Nat.reduceMul, c13, c14, c15, c16, c18]; refine ⟨_, _, _, spec_l1Least.V g17, ?_⟩; simp (decide := true) (maxSteps := 4000000) only [go_sem, Nat.reduceAdd, Nat.reduceMul, c13, c14, c15, c16, c18]; exact hK) ?_
          refine blockQ_n ?_
          refine AL_region [1, 2, 6, 8, 28, 29, 30] [56, 72, 216, 217, 218] [] ⟨[], [], []⟩ [] (by kernel_rfl) (by kernel_rfl) (by kernel_rfl) (fun K hK => by simp (decide := true) only [go_sem, Nat.reduceAdd, Nat.reduceMul, c13, c14, c15, c16, c18]; exact hK) ?_
          refine AL_again (m := n12) (by omega) ?_
          exact ⟨_, _, _, _, _, _, _, _, _, _, _, _, _, _, by omega, h, At_keep [1, 2, 6, 8, 28, 29, 30] [56, 72, 216, 217, 218]⟩
        ·
          replace c13 := eq_false c13
          refine AL_else (by simp (decide := true) only [go_sem, Nat.reduceAdd, Nat.reduceMul, c13]) ?_
          refine AL_exit ?_
          repeat first | refine thenQ_x ?_ | refine blockQ_miss (by decide) ?_
          refine blockQ_hit ?_
          refine AL_seq ?_
          refine AL_region [6, 7] [56, 216, 217, 218] [] ⟨[], [], []⟩ [] (by kernel_rfl) (by kernel_rfl) (by kernel_rfl) (fun K hK => by simp (decide := true) only [go_sem, Nat.reduceAdd, Nat.reduceMul, c13]; exact hK) ?_
          replace h := Option.some.inj h
          obtain ⟨rfl, h1⟩ := Prod.mk.inj h
          obtain ⟨rfl, h2⟩ := Prod.mk.inj h1
          obtain ⟨rfl, h3⟩ := Prod.mk.inj h2
          obtain ⟨rfl, h4⟩ := Prod.mk.inj h3
          obtain ⟨rfl, h5⟩ := Prod.mk.inj h4
          obtain ⟨rfl, rfl⟩ := Prod.mk.inj h5
          refine AL_ret (fun _ => rfl) ?_
          exact retF_mk rfl (by exact ⟨(by simp), trivial, trivial⟩) rfl (by exact ⟨⟨rfl, rfl, rfl, rfl, rfl, rfl, trivial⟩, rfl, trivial⟩) (by exact trivial) (by exact trivial)
end Go.Proofs.Ytfakhgopbhnocaa.PFnSorted
