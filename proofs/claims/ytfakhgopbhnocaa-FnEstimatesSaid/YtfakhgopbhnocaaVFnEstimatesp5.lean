/- Each function's run, shown to compute what its plain function says. -/
import Derived.Test.YtfakhgopbhnocaaVFnEstimatesp4
import Derived.KernelRfl
set_option linter.unusedVariables false
set_option linter.unusedSimpArgs false
namespace Go.Proofs.Ytfakhgopbhnocaa.PFnEstimates
open Go Go.Proofs.YtfakhgopbhnocaaVM Go.Proofs.Ytfakhgopbhnocaa.VE Go.RowKit Go.Proofs.YtfakhgopbhnocaaW.PrintWords Go.Proofs.YtfakhgopbhnocaaW.PrintLast Go.Proofs.YtfakhgopbhnocaaW.PrintMore
attribute [local go_sem] runF_nil runF_cons kG_go kG_store kG_skip kG_pass kS_go kS_call kQ_go flagB_no inFl_some inFl_store hasB_nil hasB_hit hasB_miss flagB_eq clB_no wrB_no clB_yes wrB_store wrB_call opdL_load opdL_index opdL_len nm0_eq nmV_nil nmV_cons pt0_ptr pt0_int pt0_bool pt0_sl pt0_nil pt0_ref pt0_agg guardB_none guardB_some gL_some gB_true gB_false gB_skip look_hit look_miss tg_hit tg_miss bg_hit bg_miss ev_tmp ev_int ev_bool ev_nil ev_agg sQ_some stO_move stO_assign stO_pick stO_un stO_bin stO_field stO_load stO_index stO_extract stO_conv stO_box stO_alloc stO_len stO_call qUn_not qUn_neg qPick_true qPick_false qField_ptr qField_fat qLd_some qConv_some sB_some sA_some qLen_sl qLen_nil boxV_agg boxV_int boxV_bool boxV_nil boxV_sl boxV_ref qBin_add qBin_sub qBin_mul qBin_quo qBin_rem qBin_and qBin_or qBin_shr qBin_shl qBin_eql qBin_neq qBin_lss qBin_leq qBin_gtr qBin_geq qBin_beq qBin_bne qEx_tup keepT_cons keepB_nil keepB_cons keepT_nil qLoad_fat1 qLoad_fat2 qLoad_ptr ldB_box1 ld1_some ldB_box2 ldB_row ldR_1 ldR_2 unc_int unc_bool unc_nil unc_ref unc_sl unc_con_sl unc_con_nil rt_int rt_bool rt_nil rt_sl qIndex_sl ixT_some ixS_some qIndex_ref ixR_some ixR1_some argPtr_nil argPtr_ptr argPtr_int argPtr_bool argPtr_sl argPtr_ref argPtr_nl argPtr_agg memIn_none memIn_some mi1_box mi2_some viewL_int viewL_bool viewL_nil viewL_sl viewL_ref vwR_some cons2_some viewLs_nil viewLs_cons viewAs_nil viewAs_cons viewA_int viewA_bool viewA_nil viewA_sl viewA_ref viewA_agg agg1_some viewA_ptr sC_go sC2_some renT_int renT_bool renT_nil renT_sl renT_agg renT_tup renA_int renA_bool renA_nil renA_sl renA_agg renL_int renL_bool renL_nil renL_sl rowsD_nil memD_none memD_some md1_box mergeL_nil mergeL_int mergeL_bool mergeL_sl mergeL_nl stO_build sP_some sF_some fillV_nil fillV_cons fl1_go stO_nilCheck qNil_ptr stO_min qMin_int stO_max qMax_int stO_make sMe_some sM_some stO_slice sSe_some sS_own sS_fix rowsV_nil rowsV_cons rv1_some rowV_int rowV_bool rowV_nil rowV_sl rowV_agg stO_append sApp_new sApp_on qStore_eq qS2_some qS1_some qApp_eq qA0_some qA1_some qA2_nil qA2_ref stored1_ptr st1_box st1_row setL_nil setL_cons qA3_some absB_t absB_b0 absB_b1 absB_nil noBB_row noBB_box noTB_int noAB_int noLB_int killT_int killA_int killL_int noTB_bool noAB_bool noLB_bool killT_bool killA_bool killL_bool noTB_nil noAB_nil noLB_nil killT_nil killA_nil killL_nil noTB_und noAB_und noLB_und killT_und killA_und killL_und noTB_skip noAB_skip noLB_skip killT_skip killA_skip killL_skip noTB_sl noAB_sl noLB_sl killT_sl killA_sl killL_sl noTB_fat noAB_fat noLB_fat killT_fat killA_fat killL_fat noTB_ref noAB_ref noLB_ref killT_ref0 killT_ref killA_ref0 killA_ref killL_ref0 killL_ref noTB_ptr noAB_ptr noLB_ptr killT_ptr0 killT_ptr killA_ptr0 killA_ptr killL_ptr0 killL_ptr noTB_agg noAB_agg noTB_tup noLB_con_sl noLB_con_nil killT_agg killA_agg killT_tup killL_con_sl killL_con_nil killTL_nil killTL_cons killBL_nil killBL_none killBL_row killBL_box shut1_int shut1_bool shut1_nil shut1_sl scal_int scal_bool known1_int known1_bool known1_nil known1_sl known1_ref opdL_call nm0_func intsOf_nil intsOf_cons qBin_eqA qBin_neA eqA_eq eqA_ne nil_beq renT_ref renA_ref renL_ref rowsD_cons qLen_refR lenR_some tn_lt rowI_getn rowI_set nlit rowI_scal mp_nil rowI_cons rowI_len mkI_eq mkB_eq mp_length mp_app mp_ne rowI_one rowI_zero ibeq ibne true_and and_true and_self decide_true decide_false Bool.not_true Bool.not_false Bool.not_not List.length_map List.length_cons List.length_nil List.getElem?_cons_zero List.getElem?_cons_succ List.drop_zero List.drop_succ_cons List.take_succ_cons List.take_zero List.map_cons List.map_nil List.all_cons List.all_nil Bool.and_true Bool.true_and List.getD_cons_zero List.getD_cons_succ List.set_cons_zero List.set_cons_succ Option.isSome_none Option.isSome_some List.nil_append List.cons_append List.append_eq List.append_nil List.length_append cond_true cond_false ne_eq List.map_eq_nil_iff not_false_eq_true List.cons_ne_nil Bool.true_bne Bool.false_bne Bool.bne_true Bool.bne_false Bool.true_beq Bool.false_beq Int.zero_sub List.cons_beq_cons Option.map_some true_or or_true beq_self_eq_true Nat.zero_lt_succ ti_3 ti_5 ti_22 ti_24 ti_25 ti_27 ti_68 ti_127 ti_129 el_22 el_25 el_32 el_60 el_205 fo_24_0 fo_24_1 fo_24_2 fo_27_0 fo_27_1 fo_27_2 fo_27_3 fo_68_0 fo_68_1 fo_68_2 fo_68_3 fo_68_4 fo_129_0 fo_129_1 fo_129_2 bo_4 io_3 io_5 io_127 pl_24 pl_27 pl_68 pl_129 eqs_24 loud_6 loud_36 loud_38 loud_46 loud_50 loud_51 loud_52 loud_53 loud_56 loud_57 loud_58 loud_59 loud_60 loud_61 loud_62 loud_63 loud_64 loud_65 loud_66 loud_67 loud_68 loud_69 loud_70 loud_71 loud_96 loud_97 loud_100 loud_103 loud_105 loud_108 loud_109 loud_110 loud_111 loud_112 loud_118 loud_119 loud_120 loud_121 loud_122 loud_123 loud_124 loud_125 loud_127 loud_128 loud_129 loud_130 loud_131 loud_132 loud_133 loud_134 loud_135 loud_136 loud_137 loud_138 loud_139 loud_140 loud_141 loud_142 loud_143 loud_144 loud_145 loud_177 loud_178 loud_180 loud_183 loud_184 loud_185 loud_186 loud_187 loud_188 loud_189 loud_190 loud_191 loud_192 loud_193 loud_194 loud_195 i64w td_60 wl mx_rule mn_rule rowI_get rowB_get mkS68_eq rowS68_get rowS68_one rowS68_cons rowS68_len mkS24_eq rowS24_get rowS24_one rowS24_cons rowS24_len mkL_eq rowL_one rowL_cons rowL_len
/-! impl_UpdateAll : 69 -/
set_option maxRecDepth 100000 in
set_option maxHeartbeats 4000000 in
theorem impl_UpdateAll.V {k : Nat} {a0_0 : Int} {a0_1 : Int} {a0_2 : Int} {l0_3 : List Int} {l0_4 : List Int} {l0_5 : List Int} {l1 : List (S68)} {a2 : Int} {r1 : Int} {r2 : Int} {r3 : Int} {r4 : List Int} {r5 : List Int} {r6 : List Int} {r7 : Bool} (h : impl_UpdateAll.f k a0_0 a0_1 a0_2 l0_3 l0_4 l0_5 l1 a2 = some (r1, r2, r3, r4, r5, r6, r7)) : FnV E 69 [.agg [.int .i64 a0_0, .int .i64 a0_1, .int .i64 a0_2, .sl false 1 (mp mkI l0_3), .sl false 1 (mp mkI l0_4), .sl false 1 (mp mkI l0_5)], .sl false 5 (mp mkS68 l1), .int .i64 a2] none (.tup [.agg [.int .i64 r1, .int .i64 r2, .int .i64 r3, .sl true 1 (mp mkI r4), .sl true 1 (mp mkI r5), .sl true 1 (mp mkI r6)], .bool r7]) [] none := by
 refine FnV_list E (rs := [.cell 6 27, .tmp 7]) Try.func69 (by rfl) rfl Try.ntmps69 rfl [] (by simp) rfl (by simp) rfl (fun us => ?_)
 simp only [argsL, memL, wrapL, wrap1, Nat.reduceAdd]
 unfold impl_UpdateAll.f at h
 refine AL_seq ?_
 refine rg0 [1, 2, 3, 6] [32, 56] (fun K hK => by simp (decide := true) only [go_sem, Nat.reduceAdd, Nat.reduceMul]; exact hK) ?_
 refine AL_seq ?_
 refine AL_seq ?_
 refine AL_cut (fun S => (∃ kk : Nat, ∃ x1 x2 x30 x830000 x830001 x830002 x830003 x830004 x830005 x831000 x831001 x831002, kk ≤ k ∧ impl_UpdateAll.j0 kk x1 x2 x30 x830000 x830001 x830002 x830003 x830004 x830005 = some (r1, r2, r3, r4, r5, r6, r7) ∧ At [(1, .sl false 5 (mp mkS68 x1)), (2, .int .i64 x2), (3, .ptr 32 0 0), (6, .ptr 56 0 0), (30, .bool x30)] [(32, some (.box [.int .i64 x830000, .int .i64 x830001, .int .i64 x830002, .sl false 1 (mp mkI x830003), .sl false 1 (mp mkI x830004), .sl false 1 (mp mkI x830005)])), (56, some (.box [.int .i64 x831000, .int .i64 x831001, .int .i64 x831002, .nil, .nil, .nil]))] S)) ?_ ?_
 ·
  obtain ⟨t831, g1, h⟩ := bind_or h
  rcases ite_orb h with ⟨c2, h⟩ | ⟨c2, h⟩
  ·
   obtain ⟨t832, g3, h⟩ := bind_or h
   rcases ite_orb h with ⟨c4, h⟩ | ⟨c4, h⟩
   ·
    rcases ite_orp h with ⟨c5, h⟩ | ⟨c5, h⟩
    ·
     refine rg1 [1, 2, 3, 6, 30] [32, 56] [(3, 16), (10, 23), (14, 27)] (fun K hK => by simp (decide := true) (maxSteps := 4000000) only [go_sem, Nat.reduceAdd, Nat.reduceMul, c2, c4, c5]; refine ⟨_, _, _, impl_IsModel.V g1, ?_⟩; simp (decide := true) (maxSteps := 4000000) only [go_sem, Nat.reduceAdd, Nat.reduceMul, c2, c4, c5]; refine ⟨_, _, _, impl_areHoles.V g3, ?_⟩; simp (decide := true) (maxSteps := 4000000) only [go_sem, Nat.reduceAdd, Nat.reduceMul, c2, c4, c5]; exact hK) ?_
     refine AL_meet ?_
     exact ⟨_, _, _, _, _, _, _, _, _, _, _, _, _, by omega, h, At_keep [1, 2, 3, 6, 30] [32, 56]⟩
    ·
     refine rg1 [1, 2, 3, 6, 30] [32, 56] [(3, 16), (10, 23), (14, 27)] (fun K hK => by simp (decide := true) (maxSteps := 4000000) only [go_sem, Nat.reduceAdd, Nat.reduceMul, c2, c4, c5]; refine ⟨_, _, _, impl_IsModel.V g1, ?_⟩; simp (decide := true) (maxSteps := 4000000) only [go_sem, Nat.reduceAdd, Nat.reduceMul, c2, c4, c5]; refine ⟨_, _, _, impl_areHoles.V g3, ?_⟩; simp (decide := true) (maxSteps := 4000000) only [go_sem, Nat.reduceAdd, Nat.reduceMul, c2, c4, c5]; exact hK) ?_
     refine AL_meet ?_
     exact ⟨_, _, _, _, _, _, _, _, _, _, _, _, _, by omega, h, At_keep [1, 2, 3, 6, 30] [32, 56]⟩
   ·
    refine rg1 [1, 2, 3, 6, 30] [32, 56] [(3, 16), (10, 23), (14, 27)] (fun K hK => by simp (decide := true) (maxSteps := 4000000) only [go_sem, Nat.reduceAdd, Nat.reduceMul, c2, c4]; refine ⟨_, _, _, impl_IsModel.V g1, ?_⟩; simp (decide := true) (maxSteps := 4000000) only [go_sem, Nat.reduceAdd, Nat.reduceMul, c2, c4]; refine ⟨_, _, _, impl_areHoles.V g3, ?_⟩; simp (decide := true) (maxSteps := 4000000) only [go_sem, Nat.reduceAdd, Nat.reduceMul, c2, c4]; exact hK) ?_
    refine AL_meet ?_
    exact ⟨_, _, _, _, _, _, _, _, _, _, _, _, _, by omega, h, At_keep [1, 2, 3, 6, 30] [32, 56]⟩
  ·
   refine rg1 [1, 2, 3, 6, 30] [32, 56] [(3, 16), (10, 23), (14, 27)] (fun K hK => by simp (decide := true) (maxSteps := 4000000) only [go_sem, Nat.reduceAdd, Nat.reduceMul, c2]; refine ⟨_, _, _, impl_IsModel.V g1, ?_⟩; simp (decide := true) (maxSteps := 4000000) only [go_sem, Nat.reduceAdd, Nat.reduceMul, c2]; exact hK) ?_
   refine AL_meet ?_
   exact ⟨_, _, _, _, _, _, _, _, _, _, _, _, _, by omega, h, At_keep [1, 2, 3, 6, 30] [32, 56]⟩
 ·
  intro S hS
  obtain ⟨kk6, x1, x2, x30, x830000, x830001, x830002, x830003, x830004, x830005, x831000, x831001, x831002, hkq7, h, hS⟩ := hS
  rcases kk6 with _ | n8
  · (rw [impl_UpdateAll.j0] at h; cases h)
  rw [impl_UpdateAll.j0] at h
  refine AW_at hS ?_
  rcases ite_orb h with ⟨c9, h⟩ | ⟨c9, h⟩
  ·
   refine AL_then (by simp (decide := true) only [go_sem, Nat.reduceAdd, Nat.reduceMul, c9]) ?_
   refine AL_seq ?_
   refine rg0 [6, 7] [56] (fun K hK => by simp (decide := true) only [go_sem, Nat.reduceAdd, Nat.reduceMul, c9]; exact hK) ?_
   replace h := Option.some.inj h
   obtain ⟨rfl, h1⟩ := Prod.mk.inj h
   obtain ⟨rfl, h2⟩ := Prod.mk.inj h1
   obtain ⟨rfl, h3⟩ := Prod.mk.inj h2
   obtain ⟨rfl, h4⟩ := Prod.mk.inj h3
   obtain ⟨rfl, h5⟩ := Prod.mk.inj h4
   obtain ⟨rfl, rfl⟩ := Prod.mk.inj h5
   refine AL_ret (fun _ => rfl) ?_
   exact retF_mk rfl (by exact ⟨(by simp), trivial, trivial⟩) rfl (by exact ⟨⟨rfl, rfl, rfl, rfl, rfl, rfl, trivial⟩, rfl, trivial⟩) (by exact trivial) (by exact trivial)
  ·
   refine AL_else (by simp (decide := true) only [go_sem, Nat.reduceAdd, Nat.reduceMul, c9]) ?_
   refine AL_skip ?_
   refine AL_seq ?_
   obtain ⟨⟨t833, t834, t835, t836, t839, t842⟩, g10, h⟩ := bind_or h
   dsimp only at h
   refine rg0 [1, 2, 3, 6, 8] [32, 56, 72, 272, 273, 274] (fun K hK => by simp (decide := true) only [go_sem, Nat.reduceAdd, Nat.reduceMul, c9]; refine ⟨_, _, _, impl_copyModel.W g10, ?_⟩; simp (decide := true) only [go_sem, Nat.reduceAdd, Nat.reduceMul, c9]; exact hK) ?_
   refine AL_seq ?_
   refine AL_seq ?_
   refine rg0 [1, 2, 3, 6, 8, 36, 37] [32, 56, 72, 272, 273, 274] (fun K hK => by simp (decide := true) only [go_sem, Nat.reduceAdd, Nat.reduceMul, c9]; exact hK) ?_
   refine AL_block ?_
   refine AL_loop (n := n8) (fun n S => (∃ x1 x2 x36 x37 x830000 x830001 x830002 x830003 x830004 x830005 x831000 x831001 x831002 x846000 x846001 x846002 x846003 x846004 x846005, n ≤ n8 ∧ impl_UpdateAll.l0 n x1 x2 x36 x37 x830000 x830001 x830002 x830003 x830004 x830005 x846000 x846001 x846002 x846003 x846004 x846005 = some (r1, r2, r3, r4, r5, r6, r7) ∧ At [(1, .sl false 5 (mp mkS68 x1)), (2, .int .i64 x2), (3, .ptr 32 0 0), (6, .ptr 56 0 0), (8, .ptr 72 0 0), (36, .int .i64 x36), (37, .int .i64 x37)] [(32, some (.box [.int .i64 x830000, .int .i64 x830001, .int .i64 x830002, .sl false 1 (mp mkI x830003), .sl false 1 (mp mkI x830004), .sl false 1 (mp mkI x830005)])), (56, some (.box [.int .i64 x831000, .int .i64 x831001, .int .i64 x831002, .nil, .nil, .nil])), (72, some (.box [.int .i64 x846000, .int .i64 x846001, .int .i64 x846002, .ref 272, .ref 273, .ref 274])), (272, some (.row 3 1 (mp mkI x846003))), (273, some (.row 3 1 (mp mkI x846004))), (274, some (.row 3 1 (mp mkI x846005)))] S)) ?_ ?_
   · exact ⟨_, _, _, _, _, _, _, _, _, _, _, _, _, _, _, _, _, _, _, by omega, h, At_keep [1, 2, 3, 6, 8, 36, 37] [32, 56, 72, 272, 273, 274]⟩
   ·
    intro n S hS
    obtain ⟨x1, x2, x36, x37, x830000, x830001, x830002, x830003, x830004, x830005, x831000, x831001, x831002, x846000, x846001, x846002, x846003, x846004, x846005, hkq11, h, hS⟩ := hS
    rcases n with _ | n12
    · (rw [impl_UpdateAll.l0] at h; cases h)
    rw [impl_UpdateAll.l0] at h
    refine AW_at hS ?_
    refine AL_seq ?_
    refine rg0 [1, 2, 3, 6, 8, 36, 37, 38] [32, 56, 72, 272, 273, 274] (fun K hK => by simp (decide := true) only [go_sem, Nat.reduceAdd, Nat.reduceMul]; exact hK) ?_
    refine AL_seq ?_
    rcases ite_orp h with ⟨c13, h⟩ | ⟨c13, h⟩
    ·
     refine AL_then (by simp (decide := true) only [go_sem, Nat.reduceAdd, Nat.reduceMul, c13]) ?_
     refine AL_skip ?_
     refine AL_seq ?_
     refine AL_block ?_
     refine AL_seq ?_
     refine rg0 [1, 2, 3, 6, 8, 9, 36, 37] [32, 56, 72, 272, 273, 274] (fun K hK => by simp (decide := true) only [go_sem, Nat.reduceAdd, Nat.reduceMul, c13]; exact hK) ?_
     refine AL_seq ?_
     obtain ⟨⟨t846, t847, t848⟩, g14, h⟩ := bind_or h
     dsimp only at h
     refine rg0 [1, 2, 3, 6, 8, 9, 10, 11, 12, 36, 37] [32, 56, 72, 272, 273, 274] (fun K hK => by simp (decide := true) (maxSteps := 4000000) only [go_sem, Nat.reduceAdd, Nat.reduceMul, c13]; refine ⟨_, _, _, impl_estimateBlock.V g14, ?_⟩; simp (decide := true) (maxSteps := 4000000) only [go_sem, Nat.reduceAdd, Nat.reduceMul, c13]; exact hK) ?_
     refine AL_seq ?_
     refine rg0 [1, 2, 3, 6, 8, 9, 10, 11, 36, 37, 50] [32, 56, 72, 272, 273, 274] (fun K hK => by simp (decide := true) only [go_sem, Nat.reduceAdd, Nat.reduceMul, c13]; exact hK) ?_
     rcases ite_orb h with ⟨c15, h⟩ | ⟨c15, h⟩
     ·
      refine AL_then (by simp (decide := true) only [go_sem, Nat.reduceAdd, Nat.reduceMul, c13, c15]) ?_
      obtain ⟨c16, h⟩ := ite_rp h
      obtain ⟨c17, h⟩ := ite_lp h
      obtain ⟨c18, h⟩ := ite_lp h
      refine rg0 [1, 2, 3, 6, 8, 36, 37] [32, 56, 72, 272, 273, 274] (fun K hK => by simp (decide := true) (maxSteps := 4000000) only [go_sem, Nat.reduceAdd, Nat.reduceMul, c13, c15, c16, c17, c18]; exact hK) ?_
      refine blockQ_n ?_
      refine rg0 [1, 2, 3, 6, 8, 36, 37] [32, 56, 72, 272, 273, 274] (fun K hK => by simp (decide := true) only [go_sem, Nat.reduceAdd, Nat.reduceMul, c13, c15, c16, c17, c18]; exact hK) ?_
      refine AL_again (m := n12) (by omega) ?_
      exact ⟨_, _, _, _, _, _, _, _, _, _, _, _, _, _, _, _, _, _, _, by omega, h, At_keep [1, 2, 3, 6, 8, 36, 37] [32, 56, 72, 272, 273, 274]⟩
     ·
      refine AL_else (by simp (decide := true) only [go_sem, Nat.reduceAdd, Nat.reduceMul, c13, c15]) ?_
      refine AL_skip ?_
      refine blockQ_n ?_
      refine rg0 [1, 2, 3, 6, 8, 36, 37] [32, 56, 72, 272, 273, 274] (fun K hK => by simp (decide := true) only [go_sem, Nat.reduceAdd, Nat.reduceMul, c13, c15]; exact hK) ?_
      refine AL_again (m := n12) (by omega) ?_
      exact ⟨_, _, _, _, _, _, _, _, _, _, _, _, _, _, _, _, _, _, _, by omega, h, At_keep [1, 2, 3, 6, 8, 36, 37] [32, 56, 72, 272, 273, 274]⟩
    ·
     refine AL_else (by simp (decide := true) only [go_sem, Nat.reduceAdd, Nat.reduceMul, c13]) ?_
     refine AL_exit ?_
     repeat first | refine thenQ_x ?_ | refine blockQ_miss (by decide) ?_
     refine blockQ_hit ?_
     refine AL_seq ?_
     refine rg0 [6, 7] [56, 272, 273, 274] (fun K hK => by simp (decide := true) only [go_sem, Nat.reduceAdd, Nat.reduceMul, c13]; exact hK) ?_
     replace h := Option.some.inj h
     obtain ⟨rfl, h1⟩ := Prod.mk.inj h
     obtain ⟨rfl, h2⟩ := Prod.mk.inj h1
     obtain ⟨rfl, h3⟩ := Prod.mk.inj h2
     obtain ⟨rfl, h4⟩ := Prod.mk.inj h3
     obtain ⟨rfl, h5⟩ := Prod.mk.inj h4
     obtain ⟨rfl, rfl⟩ := Prod.mk.inj h5
     refine AL_ret (fun _ => rfl) ?_
     exact retF_mk rfl (by exact ⟨(by simp), trivial, trivial⟩) rfl (by exact ⟨⟨rfl, rfl, rfl, rfl, rfl, rfl, trivial⟩, rfl, trivial⟩) (by exact trivial) (by exact trivial)
/-! spec_UpdateAll : 70 -/
set_option maxRecDepth 100000 in
set_option maxHeartbeats 4000000 in
theorem spec_UpdateAll.V {k : Nat} {a0_0 : Int} {a0_1 : Int} {a0_2 : Int} {l0_3 : List Int} {l0_4 : List Int} {l0_5 : List Int} {l1 : List (S68)} {a2 : Int} {r1 : Int} {r2 : Int} {r3 : Int} {r4 : List Int} {r5 : List Int} {r6 : List Int} {r7 : Bool} (h : spec_UpdateAll.f k a0_0 a0_1 a0_2 l0_3 l0_4 l0_5 l1 a2 = some (r1, r2, r3, r4, r5, r6, r7)) : FnV E 70 [.agg [.int .i64 a0_0, .int .i64 a0_1, .int .i64 a0_2, .sl false 1 (mp mkI l0_3), .sl false 1 (mp mkI l0_4), .sl false 1 (mp mkI l0_5)], .sl false 5 (mp mkS68 l1), .int .i64 a2] none (.tup [.agg [.int .i64 r1, .int .i64 r2, .int .i64 r3, .sl true 1 (mp mkI r4), .sl true 1 (mp mkI r5), .sl true 1 (mp mkI r6)], .bool r7]) [] none := by
 refine FnV_list E (rs := [.cell 6 27, .tmp 7]) Try.func70 (by rfl) rfl Try.ntmps70 rfl [] (by simp) rfl (by simp) rfl (fun us => ?_)
 simp only [argsL, memL, wrapL, wrap1, Nat.reduceAdd]
 unfold spec_UpdateAll.f at h
 refine AL_seq ?_
 refine rg0 [1, 2, 3, 6] [32, 56] (fun K hK => by simp (decide := true) only [go_sem, Nat.reduceAdd, Nat.reduceMul]; exact hK) ?_
 refine AL_seq ?_
 refine AL_seq ?_
 refine AL_cut (fun S => (∃ kk : Nat, ∃ x1 x2 x27 x851000 x851001 x851002 x851003 x851004 x851005 x852000 x852001 x852002, kk ≤ k ∧ spec_UpdateAll.j0 kk x1 x2 x27 x851000 x851001 x851002 x851003 x851004 x851005 = some (r1, r2, r3, r4, r5, r6, r7) ∧ At [(1, .sl false 5 (mp mkS68 x1)), (2, .int .i64 x2), (3, .ptr 32 0 0), (6, .ptr 56 0 0), (27, .bool x27)] [(32, some (.box [.int .i64 x851000, .int .i64 x851001, .int .i64 x851002, .sl false 1 (mp mkI x851003), .sl false 1 (mp mkI x851004), .sl false 1 (mp mkI x851005)])), (56, some (.box [.int .i64 x852000, .int .i64 x852001, .int .i64 x852002, .nil, .nil, .nil]))] S)) ?_ ?_
 ·
  obtain ⟨t852, g1, h⟩ := bind_or h
  rcases ite_orb h with ⟨c2, h⟩ | ⟨c2, h⟩
  ·
   obtain ⟨t853, g3, h⟩ := bind_or h
   rcases ite_orb h with ⟨c4, h⟩ | ⟨c4, h⟩
   ·
    obtain ⟨t854, g5, h⟩ := bind_or h
    refine rg1 [1, 2, 3, 6, 27] [32, 56] [(3, 16), (10, 23)] (fun K hK => by simp (decide := true) (maxSteps := 4000000) only [go_sem, Nat.reduceAdd, Nat.reduceMul, c2, c4]; refine ⟨_, _, _, spec_moGood.V g1, ?_⟩; simp (decide := true) (maxSteps := 4000000) only [go_sem, Nat.reduceAdd, Nat.reduceMul, c2, c4]; refine ⟨_, _, _, spec_bhList.V g3, ?_⟩; simp (decide := true) (maxSteps := 4000000) only [go_sem, Nat.reduceAdd, Nat.reduceMul, c2, c4]; refine ⟨_, _, _, spec_bhReach.V g5, ?_⟩; simp (decide := true) (maxSteps := 4000000) only [go_sem, Nat.reduceAdd, Nat.reduceMul, c2, c4]; exact hK) ?_
    refine AL_meet ?_
    exact ⟨_, _, _, _, _, _, _, _, _, _, _, _, _, by omega, h, At_keep [1, 2, 3, 6, 27] [32, 56]⟩
   ·
    refine rg1 [1, 2, 3, 6, 27] [32, 56] [(3, 16), (10, 23)] (fun K hK => by simp (decide := true) (maxSteps := 4000000) only [go_sem, Nat.reduceAdd, Nat.reduceMul, c2, c4]; refine ⟨_, _, _, spec_moGood.V g1, ?_⟩; simp (decide := true) (maxSteps := 4000000) only [go_sem, Nat.reduceAdd, Nat.reduceMul, c2, c4]; refine ⟨_, _, _, spec_bhList.V g3, ?_⟩; simp (decide := true) (maxSteps := 4000000) only [go_sem, Nat.reduceAdd, Nat.reduceMul, c2, c4]; exact hK) ?_
    refine AL_meet ?_
    exact ⟨_, _, _, _, _, _, _, _, _, _, _, _, _, by omega, h, At_keep [1, 2, 3, 6, 27] [32, 56]⟩
  ·
   refine rg1 [1, 2, 3, 6, 27] [32, 56] [(3, 16), (10, 23)] (fun K hK => by simp (decide := true) (maxSteps := 4000000) only [go_sem, Nat.reduceAdd, Nat.reduceMul, c2]; refine ⟨_, _, _, spec_moGood.V g1, ?_⟩; simp (decide := true) (maxSteps := 4000000) only [go_sem, Nat.reduceAdd, Nat.reduceMul, c2]; exact hK) ?_
   refine AL_meet ?_
   exact ⟨_, _, _, _, _, _, _, _, _, _, _, _, _, by omega, h, At_keep [1, 2, 3, 6, 27] [32, 56]⟩
 ·
  intro S hS
  obtain ⟨kk6, x1, x2, x27, x851000, x851001, x851002, x851003, x851004, x851005, x852000, x852001, x852002, hkq7, h, hS⟩ := hS
  rcases kk6 with _ | n8
  · (rw [spec_UpdateAll.j0] at h; cases h)
  rw [spec_UpdateAll.j0] at h
  refine AW_at hS ?_
  rcases ite_orb h with ⟨c9, h⟩ | ⟨c9, h⟩
  ·
   refine AL_then (by simp (decide := true) only [go_sem, Nat.reduceAdd, Nat.reduceMul, c9]) ?_
   refine AL_seq ?_
   refine rg0 [6, 7] [56] (fun K hK => by simp (decide := true) only [go_sem, Nat.reduceAdd, Nat.reduceMul, c9]; exact hK) ?_
   replace h := Option.some.inj h
   obtain ⟨rfl, h1⟩ := Prod.mk.inj h
   obtain ⟨rfl, h2⟩ := Prod.mk.inj h1
   obtain ⟨rfl, h3⟩ := Prod.mk.inj h2
   obtain ⟨rfl, h4⟩ := Prod.mk.inj h3
   obtain ⟨rfl, h5⟩ := Prod.mk.inj h4
   obtain ⟨rfl, rfl⟩ := Prod.mk.inj h5
   refine AL_ret (fun _ => rfl) ?_
   exact retF_mk rfl (by exact ⟨(by simp), trivial, trivial⟩) rfl (by exact ⟨⟨rfl, rfl, rfl, rfl, rfl, rfl, trivial⟩, rfl, trivial⟩) (by exact trivial) (by exact trivial)
  ·
   refine AL_else (by simp (decide := true) only [go_sem, Nat.reduceAdd, Nat.reduceMul, c9]) ?_
   refine AL_skip ?_
   refine AL_seq ?_
   obtain ⟨⟨t855, t856, t857, t858, t861, t864⟩, g10, h⟩ := bind_or h
   dsimp only at h
   refine rg0 [1, 2, 3, 6, 8] [32, 56, 72, 248, 249, 250] (fun K hK => by simp (decide := true) only [go_sem, Nat.reduceAdd, Nat.reduceMul, c9]; refine ⟨_, _, _, spec_moOwn.W g10, ?_⟩; simp (decide := true) only [go_sem, Nat.reduceAdd, Nat.reduceMul, c9]; exact hK) ?_
   refine AL_seq ?_
   refine AL_seq ?_
   refine rg0 [1, 2, 3, 6, 8, 33, 34] [32, 56, 72, 248, 249, 250] (fun K hK => by simp (decide := true) only [go_sem, Nat.reduceAdd, Nat.reduceMul, c9]; exact hK) ?_
   refine AL_block ?_
   refine AL_loop (n := n8) (fun n S => (∃ x1 x2 x33 x34 x851000 x851001 x851002 x851003 x851004 x851005 x852000 x852001 x852002 x868000 x868001 x868002 x868003 x868004 x868005, n ≤ n8 ∧ spec_UpdateAll.l0 n x1 x2 x33 x34 x851000 x851001 x851002 x851003 x851004 x851005 x868000 x868001 x868002 x868003 x868004 x868005 = some (r1, r2, r3, r4, r5, r6, r7) ∧ At [(1, .sl false 5 (mp mkS68 x1)), (2, .int .i64 x2), (3, .ptr 32 0 0), (6, .ptr 56 0 0), (8, .ptr 72 0 0), (33, .int .i64 x33), (34, .int .i64 x34)] [(32, some (.box [.int .i64 x851000, .int .i64 x851001, .int .i64 x851002, .sl false 1 (mp mkI x851003), .sl false 1 (mp mkI x851004), .sl false 1 (mp mkI x851005)])), (56, some (.box [.int .i64 x852000, .int .i64 x852001, .int .i64 x852002, .nil, .nil, .nil])), (72, some (.box [.int .i64 x868000, .int .i64 x868001, .int .i64 x868002, .ref 248, .ref 249, .ref 250])), (248, some (.row 3 1 (mp mkI x868003))), (249, some (.row 3 1 (mp mkI x868004))), (250, some (.row 3 1 (mp mkI x868005)))] S)) ?_ ?_
   · exact ⟨_, _, _, _, _, _, _, _, _, _, _, _, _, _, _, _, _, _, _, by omega, h, At_keep [1, 2, 3, 6, 8, 33, 34] [32, 56, 72, 248, 249, 250]⟩
   ·
    intro n S hS
    obtain ⟨x1, x2, x33, x34, x851000, x851001, x851002, x851003, x851004, x851005, x852000, x852001, x852002, x868000, x868001, x868002, x868003, x868004, x868005, hkq11, h, hS⟩ := hS
    rcases n with _ | n12
    · (rw [spec_UpdateAll.l0] at h; cases h)
    rw [spec_UpdateAll.l0] at h
    refine AW_at hS ?_
    refine AL_seq ?_
    refine rg0 [1, 2, 3, 6, 8, 33, 34, 35] [32, 56, 72, 248, 249, 250] (fun K hK => by simp (decide := true) only [go_sem, Nat.reduceAdd, Nat.reduceMul]; exact hK) ?_
    refine AL_seq ?_
    rcases ite_orp h with ⟨c13, h⟩ | ⟨c13, h⟩
    ·
     refine AL_then (by simp (decide := true) only [go_sem, Nat.reduceAdd, Nat.reduceMul, c13]) ?_
     refine AL_skip ?_
     refine AL_seq ?_
     refine AL_block ?_
     refine AL_seq ?_
     refine rg0 [1, 2, 3, 6, 8, 9, 33, 34] [32, 56, 72, 248, 249, 250] (fun K hK => by simp (decide := true) only [go_sem, Nat.reduceAdd, Nat.reduceMul, c13]; exact hK) ?_
     refine AL_seq ?_
     obtain ⟨⟨t868, t869, t870⟩, g14, h⟩ := bind_or h
     dsimp only at h
     refine rg0 [1, 2, 3, 6, 8, 9, 10, 11, 12, 33, 34] [32, 56, 72, 248, 249, 250] (fun K hK => by simp (decide := true) (maxSteps := 4000000) only [go_sem, Nat.reduceAdd, Nat.reduceMul, c13]; refine ⟨_, _, _, spec_bhEstimate.V g14, ?_⟩; simp (decide := true) (maxSteps := 4000000) only [go_sem, Nat.reduceAdd, Nat.reduceMul, c13]; exact hK) ?_
     refine AL_seq ?_
     refine rg0 [1, 2, 3, 6, 8, 9, 10, 11, 33, 34, 47] [32, 56, 72, 248, 249, 250] (fun K hK => by simp (decide := true) only [go_sem, Nat.reduceAdd, Nat.reduceMul, c13]; exact hK) ?_
     rcases ite_orb h with ⟨c15, h⟩ | ⟨c15, h⟩
     ·
      refine AL_then (by simp (decide := true) only [go_sem, Nat.reduceAdd, Nat.reduceMul, c13, c15]) ?_
      obtain ⟨t871, g16, h⟩ := bind_or h
      obtain ⟨c17, h⟩ := ite_lp h
      obtain ⟨c18, h⟩ := ite_lp h
      refine rg0 [1, 2, 3, 6, 8, 33, 34] [32, 56, 72, 248, 249, 250] (fun K hK => by simp (decide := true) only [go_sem, Nat.reduceAdd, Nat.reduceMul, c13, c15, c17, c18]; refine ⟨_, _, _, spec_bhRound.V g16, ?_⟩; simp (decide := true) only [go_sem, Nat.reduceAdd, Nat.reduceMul, c13, c15, c17, c18]; exact hK) ?_
      refine blockQ_n ?_
      refine rg0 [1, 2, 3, 6, 8, 33, 34] [32, 56, 72, 248, 249, 250] (fun K hK => by simp (decide := true) only [go_sem, Nat.reduceAdd, Nat.reduceMul, c13, c15, c17, c18]; exact hK) ?_
      refine AL_again (m := n12) (by omega) ?_
      exact ⟨_, _, _, _, _, _, _, _, _, _, _, _, _, _, _, _, _, _, _, by omega, h, At_keep [1, 2, 3, 6, 8, 33, 34] [32, 56, 72, 248, 249, 250]⟩
     ·
      refine AL_else (by simp (decide := true) only [go_sem, Nat.reduceAdd, Nat.reduceMul, c13, c15]) ?_
      refine AL_skip ?_
      refine blockQ_n ?_
      refine rg0 [1, 2, 3, 6, 8, 33, 34] [32, 56, 72, 248, 249, 250] (fun K hK => by simp (decide := true) only [go_sem, Nat.reduceAdd, Nat.reduceMul, c13, c15]; exact hK) ?_
      refine AL_again (m := n12) (by omega) ?_
      exact ⟨_, _, _, _, _, _, _, _, _, _, _, _, _, _, _, _, _, _, _, by omega, h, At_keep [1, 2, 3, 6, 8, 33, 34] [32, 56, 72, 248, 249, 250]⟩
    ·
     refine AL_else (by simp (decide := true) only [go_sem, Nat.reduceAdd, Nat.reduceMul, c13]) ?_
     refine AL_exit ?_
     repeat first | refine thenQ_x ?_ | refine blockQ_miss (by decide) ?_
     refine blockQ_hit ?_
     refine AL_seq ?_
     refine rg0 [6, 7] [56, 248, 249, 250] (fun K hK => by simp (decide := true) only [go_sem, Nat.reduceAdd, Nat.reduceMul, c13]; exact hK) ?_
     replace h := Option.some.inj h
     obtain ⟨rfl, h1⟩ := Prod.mk.inj h
     obtain ⟨rfl, h2⟩ := Prod.mk.inj h1
     obtain ⟨rfl, h3⟩ := Prod.mk.inj h2
     obtain ⟨rfl, h4⟩ := Prod.mk.inj h3
     obtain ⟨rfl, h5⟩ := Prod.mk.inj h4
     obtain ⟨rfl, rfl⟩ := Prod.mk.inj h5
     refine AL_ret (fun _ => rfl) ?_
     exact retF_mk rfl (by exact ⟨(by simp), trivial, trivial⟩) rfl (by exact ⟨⟨rfl, rfl, rfl, rfl, rfl, rfl, trivial⟩, rfl, trivial⟩) (by exact trivial) (by exact trivial)
/-! laws_FnEstimates : 6 -/
set_option maxRecDepth 100000 in
set_option maxHeartbeats 4000000 in
theorem laws_FnEstimates.V {k : Nat} {l0 : List Int} {l1 : List Int} {r : Bool} (h : laws_FnEstimates.f k l0 l1 = some r) : FnV E 6 [.sl false 1 (mp mkB l0), .sl false 1 (mp mkB l1)] none (.bool r) [] none := by
 refine FnV_list E (rs := [.tmp 4]) Try.func6 (by rfl) rfl Try.ntmps6 rfl [] (by simp) rfl (by simp) rfl (fun us => ?_)
 simp only [argsL, memL, wrapL, wrap1, Nat.reduceAdd]
 unfold laws_FnEstimates.f at h
 refine AL_seq ?_
 refine rg0 [0, 1] [] (fun K hK => by simp (decide := true) only [go_sem, Nat.reduceAdd, Nat.reduceMul]; exact hK) ?_
 refine AL_seq ?_
 refine AL_seq ?_
 obtain ⟨t873, g1, h⟩ := bind_or h
 refine rg0 [0, 1, 63] [] (fun K hK => by simp (decide := true) only [go_sem, Nat.reduceAdd, Nat.reduceMul]; refine ⟨_, _, _, laws_big.V g1, ?_⟩; simp (decide := true) only [go_sem, Nat.reduceAdd, Nat.reduceMul]; exact hK) ?_
 rcases ite_orb h with ⟨c2, h⟩ | ⟨c2, h⟩
 ·
  refine AL_then (by simp (decide := true) only [go_sem, Nat.reduceAdd, Nat.reduceMul, c2]) ?_
  refine AL_seq ?_
  refine rg0 [4] [] (fun K hK => by simp (decide := true) only [go_sem, Nat.reduceAdd, Nat.reduceMul, c2]; exact hK) ?_
  obtain rfl := Option.some.inj h
  refine AL_ret (fun _ => rfl) ?_
  exact retF_mk rfl (by exact ⟨trivial, trivial⟩) rfl (by exact rfl) (by exact trivial) (by exact trivial)
 ·
  refine AL_else (by simp (decide := true) only [go_sem, Nat.reduceAdd, Nat.reduceMul, c2]) ?_
  refine AL_skip ?_
  refine AL_seq ?_
  obtain ⟨⟨t874, t875, t876, t877, t880, t881⟩, g3, h⟩ := bind_or h
  dsimp only at h
  refine rg0 [1, 5, 6, 7, 8] [48] (fun K hK => by simp (decide := true) (maxSteps := 4000000) only [go_sem, Nat.reduceAdd, Nat.reduceMul, c2]; refine ⟨_, _, _, spec_DrawEstimateBlock.V g3, ?_⟩; simp (decide := true) (maxSteps := 4000000) only [go_sem, Nat.reduceAdd, Nat.reduceMul, c2]; exact hK) ?_
  refine AL_seq ?_
  obtain ⟨⟨t883, t884, t885⟩, g4, h⟩ := bind_or h
  dsimp only at h
  refine rg0 [1, 5, 6, 7, 8, 9, 10, 11] [48] (fun K hK => by simp (decide := true) (maxSteps := 4000000) only [go_sem, Nat.reduceAdd, Nat.reduceMul, c2]; refine ⟨_, _, _, impl_EstimateBlock.V g4, ?_⟩; simp (decide := true) (maxSteps := 4000000) only [go_sem, Nat.reduceAdd, Nat.reduceMul, c2]; exact hK) ?_
  refine AL_seq ?_
  obtain ⟨⟨t886, t887, t888⟩, g5, h⟩ := bind_or h
  dsimp only at h
  refine rg0 [1, 6, 9, 10, 11, 12, 13, 14] [] (fun K hK => by simp (decide := true) (maxSteps := 4000000) only [go_sem, Nat.reduceAdd, Nat.reduceMul, c2]; refine ⟨_, _, _, spec_EstimateBlock.V g5, ?_⟩; simp (decide := true) (maxSteps := 4000000) only [go_sem, Nat.reduceAdd, Nat.reduceMul, c2]; exact hK) ?_
  refine AL_seq ?_
  refine AL_seq ?_
  refine AL_cut (fun S => (∃ kk : Nat, ∃ x1 x6 x11 x12 x13 x101, kk ≤ k ∧ laws_FnEstimates.j0 kk x1 x6 x11 x12 x13 x101 = some r ∧ At [(1, .sl false 1 (mp mkB x1)), (6, .sl true 5 (mp mkS68 x6)), (11, .bool x11), (12, .int .i64 x12), (13, .int .i64 x13), (101, .bool x101)] [] S)) ?_ ?_
  ·
   rcases ite_orb h with ⟨c6, h⟩ | ⟨c6, h⟩
   ·
    try simp only [ibeq, ibne, Bool.true_bne, Bool.false_bne, Bool.bne_true, Bool.bne_false, Bool.true_beq, Bool.false_beq, Bool.not_eq_true', Bool.not_eq_false', c2] at c6
    refine rg1 [1, 6, 11, 12, 13, 101] [] [(3, 92), (8, 97)] (fun K hK => by simp (decide := true) (maxSteps := 4000000) only [go_sem, Nat.reduceAdd, Nat.reduceMul, c2, c6]; exact hK) ?_
    refine AL_meet ?_
    exact ⟨_, _, _, _, _, _, _, by omega, h, At_keep [1, 6, 11, 12, 13, 101] []⟩
   ·
    try simp only [ibeq, ibne, Bool.true_bne, Bool.false_bne, Bool.bne_true, Bool.bne_false, Bool.true_beq, Bool.false_beq, Bool.not_eq_true', Bool.not_eq_false', c2] at c6
    rcases ite_orp h with ⟨c7, h⟩ | ⟨c7, h⟩
    ·
     refine rg1 [1, 6, 11, 12, 13, 101] [] [(3, 92), (8, 97)] (fun K hK => by simp (decide := true) (maxSteps := 4000000) only [go_sem, Nat.reduceAdd, Nat.reduceMul, c2, c6, c7]; exact hK) ?_
     refine AL_meet ?_
     exact ⟨_, _, _, _, _, _, _, by omega, h, At_keep [1, 6, 11, 12, 13, 101] []⟩
    ·
     refine rg1 [1, 6, 11, 12, 13, 101] [] [(3, 92), (8, 97)] (fun K hK => by simp (decide := true) (maxSteps := 4000000) only [go_sem, Nat.reduceAdd, Nat.reduceMul, c2, c6, c7]; exact hK) ?_
     refine AL_meet ?_
     exact ⟨_, _, _, _, _, _, _, by omega, h, At_keep [1, 6, 11, 12, 13, 101] []⟩
  ·
   intro S hS
   obtain ⟨kk8, x1, x6, x11, x12, x13, x101, hkq9, h, hS⟩ := hS
   rcases kk8 with _ | n10
   · (rw [laws_FnEstimates.j0] at h; cases h)
   rw [laws_FnEstimates.j0] at h
   refine AW_at hS ?_
   rcases ite_orb h with ⟨c11, h⟩ | ⟨c11, h⟩
   ·
    refine AL_then (by simp (decide := true) only [go_sem, Nat.reduceAdd, Nat.reduceMul, c11]) ?_
    refine AL_seq ?_
    refine rg0 [4] [] (fun K hK => by simp (decide := true) only [go_sem, Nat.reduceAdd, Nat.reduceMul, c11]; exact hK) ?_
    obtain rfl := Option.some.inj h
    refine AL_ret (fun _ => rfl) ?_
    exact retF_mk rfl (by exact ⟨trivial, trivial⟩) rfl (by exact rfl) (by exact trivial) (by exact trivial)
   ·
    refine AL_else (by simp (decide := true) only [go_sem, Nat.reduceAdd, Nat.reduceMul, c11]) ?_
    refine AL_skip ?_
    refine AL_seq ?_
    refine AL_seq ?_
    refine rg0 [1, 6, 12, 13, 102] [] (fun K hK => by simp (decide := true) only [go_sem, Nat.reduceAdd, Nat.reduceMul, c11]; exact hK) ?_
    refine AL_cut (fun S => (∃ kk : Nat, ∃ x1, kk ≤ n10 ∧ laws_FnEstimates.j2 kk x1 = some r ∧ At [(1, .sl false 1 (mp mkB x1))] [] S)) ?_ ?_
    ·
     rcases ite_orb h with ⟨c12, h⟩ | ⟨c12, h⟩
     ·
      refine AL_then (by simp (decide := true) only [go_sem, Nat.reduceAdd, Nat.reduceMul, c11, c12]) ?_
      refine AL_seq ?_
      refine rg0 [1, 6, 12, 13, 15, 16] [] (fun K hK => by simp (decide := true) only [go_sem, Nat.reduceAdd, Nat.reduceMul, c11, c12]; exact hK) ?_
      refine AL_seq ?_
      refine AL_seq ?_
      refine rg0 [1, 12, 13, 15, 16, 103, 104, 105] [] (fun K hK => by simp (decide := true) only [go_sem, Nat.reduceAdd, Nat.reduceMul, c11, c12]; exact hK) ?_
      refine AL_block ?_
      refine AL_loop (n := n10) (fun n S => (∃ x1 x12 x13 x15 x16 x103 x104 x105, n ≤ n10 ∧ laws_FnEstimates.l0 n x1 x12 x13 x15 x16 x103 x104 x105 = some r ∧ At [(1, .sl false 1 (mp mkB x1)), (12, .int .i64 x12), (13, .int .i64 x13), (15, .int .i64 x15), (16, .int .i64 x16), (103, .sl true 5 (mp mkS68 x103)), (104, .int .i64 x104), (105, .int .i64 x105)] [] S)) ?_ ?_
      · exact ⟨_, _, _, _, _, _, _, _, by omega, h, At_keep [1, 12, 13, 15, 16, 103, 104, 105] []⟩
      ·
       intro n S hS
       obtain ⟨x1, x12, x13, x15, x16, x103, x104, x105, hkq13, h, hS⟩ := hS
       rcases n with _ | n14
       · (rw [laws_FnEstimates.l0] at h; cases h)
       rw [laws_FnEstimates.l0] at h
       refine AW_at hS ?_
       refine AL_seq ?_
       refine rg0 [1, 12, 13, 15, 16, 103, 104, 105, 106] [] (fun K hK => by simp (decide := true) only [go_sem, Nat.reduceAdd, Nat.reduceMul]; exact hK) ?_
       refine AL_seq ?_
       rcases ite_orp h with ⟨c15, h⟩ | ⟨c15, h⟩
       ·
        refine AL_then (by simp (decide := true) only [go_sem, Nat.reduceAdd, Nat.reduceMul, c15]) ?_
        refine AL_skip ?_
        refine AL_seq ?_
        refine AL_block ?_
        refine AL_seq ?_
        obtain ⟨c16, h⟩ := ite_lp h
        obtain ⟨c17, h⟩ := ite_lp h
        refine rg0 [1, 12, 13, 15, 16, 18, 103, 104, 105] [152] (fun K hK => by simp (decide := true) only [go_sem, Nat.reduceAdd, Nat.reduceMul, c15, c16, c17]; exact hK) ?_
        refine AL_seq ?_
        refine AL_seq ?_
        refine rg0 [1, 12, 13, 15, 16, 18, 103, 104, 105, 112] [152] (fun K hK => by simp (decide := true) only [go_sem, Nat.reduceAdd, Nat.reduceMul, c15, c16, c17]; exact hK) ?_
        rcases ite_orp h with ⟨c18, h⟩ | ⟨c18, h⟩
        ·
         refine AL_then (by simp (decide := true) only [go_sem, Nat.reduceAdd, Nat.reduceMul, c15, c16, c17, c18]) ?_
         refine rg0 [1, 12, 13, 15, 16, 18, 103, 104, 105] [152] (fun K hK => by simp (decide := true) only [go_sem, Nat.reduceAdd, Nat.reduceMul, c15, c16, c17, c18]; exact hK) ?_
         refine AL_seq ?_
         refine rg0 [1, 12, 13, 15, 16, 18, 103, 104, 105, 118] [152] (fun K hK => by simp (decide := true) only [go_sem, Nat.reduceAdd, Nat.reduceMul, c15, c16, c17, c18]; exact hK) ?_
         rcases ite_orp h with ⟨c19, h⟩ | ⟨c19, h⟩
         ·
          refine AL_then (by simp (decide := true) only [go_sem, Nat.reduceAdd, Nat.reduceMul, c15, c16, c17, c18, c19]) ?_
          refine rg0 [1, 12, 13, 15, 16, 103, 104, 105] [] (fun K hK => by simp (decide := true) only [go_sem, Nat.reduceAdd, Nat.reduceMul, c15, c16, c17, c18, c19]; exact hK) ?_
          refine blockQ_n ?_
          refine rg0 [1, 12, 13, 15, 16, 103, 104, 105] [] (fun K hK => by simp (decide := true) only [go_sem, Nat.reduceAdd, Nat.reduceMul, c15, c16, c17, c18, c19]; exact hK) ?_
          refine AL_again (m := n14) (by omega) ?_
          exact ⟨_, _, _, _, _, _, _, _, by omega, h, At_keep [1, 12, 13, 15, 16, 103, 104, 105] []⟩
         ·
          refine AL_else (by simp (decide := true) only [go_sem, Nat.reduceAdd, Nat.reduceMul, c15, c16, c17, c18, c19]) ?_
          refine AL_skip ?_
          refine blockQ_n ?_
          refine rg0 [1, 12, 13, 15, 16, 103, 104, 105] [] (fun K hK => by simp (decide := true) only [go_sem, Nat.reduceAdd, Nat.reduceMul, c15, c16, c17, c18, c19]; exact hK) ?_
          refine AL_again (m := n14) (by omega) ?_
          exact ⟨_, _, _, _, _, _, _, _, by omega, h, At_keep [1, 12, 13, 15, 16, 103, 104, 105] []⟩
        ·
         refine AL_else (by simp (decide := true) only [go_sem, Nat.reduceAdd, Nat.reduceMul, c15, c16, c17, c18]) ?_
         refine AL_skip ?_
         refine AL_seq ?_
         refine rg0 [1, 12, 13, 15, 16, 18, 103, 104, 105, 118] [152] (fun K hK => by simp (decide := true) only [go_sem, Nat.reduceAdd, Nat.reduceMul, c15, c16, c17, c18]; exact hK) ?_
         rcases ite_orp h with ⟨c20, h⟩ | ⟨c20, h⟩
         ·
          refine AL_then (by simp (decide := true) only [go_sem, Nat.reduceAdd, Nat.reduceMul, c15, c16, c17, c18, c20]) ?_
          refine rg0 [1, 12, 13, 15, 16, 103, 104, 105] [] (fun K hK => by simp (decide := true) only [go_sem, Nat.reduceAdd, Nat.reduceMul, c15, c16, c17, c18, c20]; exact hK) ?_
          refine blockQ_n ?_
          refine rg0 [1, 12, 13, 15, 16, 103, 104, 105] [] (fun K hK => by simp (decide := true) only [go_sem, Nat.reduceAdd, Nat.reduceMul, c15, c16, c17, c18, c20]; exact hK) ?_
          refine AL_again (m := n14) (by omega) ?_
          exact ⟨_, _, _, _, _, _, _, _, by omega, h, At_keep [1, 12, 13, 15, 16, 103, 104, 105] []⟩
         ·
          refine AL_else (by simp (decide := true) only [go_sem, Nat.reduceAdd, Nat.reduceMul, c15, c16, c17, c18, c20]) ?_
          refine AL_skip ?_
          refine blockQ_n ?_
          refine rg0 [1, 12, 13, 15, 16, 103, 104, 105] [] (fun K hK => by simp (decide := true) only [go_sem, Nat.reduceAdd, Nat.reduceMul, c15, c16, c17, c18, c20]; exact hK) ?_
          refine AL_again (m := n14) (by omega) ?_
          exact ⟨_, _, _, _, _, _, _, _, by omega, h, At_keep [1, 12, 13, 15, 16, 103, 104, 105] []⟩
       ·
        refine AL_else (by simp (decide := true) only [go_sem, Nat.reduceAdd, Nat.reduceMul, c15]) ?_
        refine AL_exit ?_
        repeat first | refine thenQ_x ?_ | refine blockQ_miss (by decide) ?_
        refine blockQ_hit ?_
        refine AL_seq ?_
        rcases ite_orp h with ⟨c21, h⟩ | ⟨c21, h⟩
        ·
         refine rg1 [1, 137] [] [(2, 124), (9, 131)] (fun K hK => by simp (decide := true) (maxSteps := 4000000) only [go_sem, Nat.reduceAdd, Nat.reduceMul, c15, c21]; exact hK) ?_
         refine AL_then (by simp (decide := true) only [go_sem, Nat.reduceAdd, Nat.reduceMul, c15, c21]) ?_
         refine AL_seq ?_
         refine rg0 [4] [] (fun K hK => by simp (decide := true) only [go_sem, Nat.reduceAdd, Nat.reduceMul, c15, c21]; exact hK) ?_
         obtain rfl := Option.some.inj h
         refine AL_ret (fun _ => rfl) ?_
         exact retF_mk rfl (by exact ⟨trivial, trivial⟩) rfl (by exact rfl) (by exact trivial) (by exact trivial)
        ·
         rcases ite_orp h with ⟨c22, h⟩ | ⟨c22, h⟩
         ·
          refine rg1 [1, 137] [] [(2, 124), (9, 131)] (fun K hK => by simp (decide := true) (maxSteps := 4000000) only [go_sem, Nat.reduceAdd, Nat.reduceMul, c15, c21, c22]; exact hK) ?_
          refine AL_then (by simp (decide := true) only [go_sem, Nat.reduceAdd, Nat.reduceMul, c15, c21, c22]) ?_
          refine AL_seq ?_
          refine rg0 [4] [] (fun K hK => by simp (decide := true) only [go_sem, Nat.reduceAdd, Nat.reduceMul, c15, c21, c22]; exact hK) ?_
          obtain rfl := Option.some.inj h
          refine AL_ret (fun _ => rfl) ?_
          exact retF_mk rfl (by exact ⟨trivial, trivial⟩) rfl (by exact rfl) (by exact trivial) (by exact trivial)
         ·
          refine rg1 [1, 137] [] [(2, 124), (9, 131)] (fun K hK => by simp (decide := true) (maxSteps := 4000000) only [go_sem, Nat.reduceAdd, Nat.reduceMul, c15, c21, c22]; exact hK) ?_
          rcases ite_orp h with ⟨c23, h⟩ | ⟨c23, h⟩
          ·
           refine AL_then (by simp (decide := true) only [go_sem, Nat.reduceAdd, Nat.reduceMul, c15, c21, c22, c23]) ?_
           refine AL_seq ?_
           refine rg0 [4] [] (fun K hK => by simp (decide := true) only [go_sem, Nat.reduceAdd, Nat.reduceMul, c15, c21, c22, c23]; exact hK) ?_
           obtain rfl := Option.some.inj h
           refine AL_ret (fun _ => rfl) ?_
           exact retF_mk rfl (by exact ⟨trivial, trivial⟩) rfl (by exact rfl) (by exact trivial) (by exact trivial)
          ·
           refine AL_else (by simp (decide := true) only [go_sem, Nat.reduceAdd, Nat.reduceMul, c15, c21, c22, c23]) ?_
           refine AL_skip ?_
           refine AL_meet ?_
           exact ⟨_, _, by omega, h, At_keep [1] []⟩
     ·
      refine AL_else (by simp (decide := true) only [go_sem, Nat.reduceAdd, Nat.reduceMul, c11, c12]) ?_
      refine AL_skip ?_
      refine AL_meet ?_
      exact ⟨_, _, by omega, h, At_keep [1] []⟩
    ·
     intro S hS
     obtain ⟨kk24, x1, hkq25, h, hS⟩ := hS
     rcases kk24 with _ | n26
     · (rw [laws_FnEstimates.j2] at h; cases h)
     rw [laws_FnEstimates.j2] at h
     refine AW_at hS ?_
     refine AL_seq ?_
     obtain ⟨⟨t891, t892, t893, t894, t897⟩, g27, h⟩ := bind_or h
     dsimp only at h
     refine rg0 [1, 19, 20, 21] [160] (fun K hK => by simp (decide := true) only [go_sem, Nat.reduceAdd, Nat.reduceMul]; refine ⟨_, _, _, spec_DrawNearestHole.V g27, ?_⟩; simp (decide := true) only [go_sem, Nat.reduceAdd, Nat.reduceMul]; exact hK) ?_
     refine AL_seq ?_
     obtain ⟨⟨t899, t900⟩, g28, h⟩ := bind_or h
     dsimp only at h
     refine rg0 [1, 19, 20, 21, 22, 23] [160] (fun K hK => by simp (decide := true) only [go_sem, Nat.reduceAdd, Nat.reduceMul]; refine ⟨_, _, _, impl_NearestHole.V g28, ?_⟩; simp (decide := true) only [go_sem, Nat.reduceAdd, Nat.reduceMul]; exact hK) ?_
     refine AL_seq ?_
     obtain ⟨⟨t901, t902⟩, g29, h⟩ := bind_or h
     dsimp only at h
     refine rg0 [1, 22, 23, 24, 25] [] (fun K hK => by simp (decide := true) only [go_sem, Nat.reduceAdd, Nat.reduceMul]; refine ⟨_, _, _, spec_NearestHole.V g29, ?_⟩; simp (decide := true) only [go_sem, Nat.reduceAdd, Nat.reduceMul]; exact hK) ?_
     refine AL_seq ?_
     obtain ⟨⟨t903, t904, t905, t906, t909, t912, t915, t916, t917, t918, t921, t924, t927⟩, g30, h⟩ := bind_or h
     dsimp only at h
     refine rg0 [1, 22, 23, 24, 25, 26, 27, 28] [216, 224] (fun K hK => by simp (decide := true) (maxSteps := 4000000) only [go_sem, Nat.reduceAdd, Nat.reduceMul]; refine ⟨_, _, _, spec_DrawKindChanges.V g30, ?_⟩; simp (decide := true) (maxSteps := 4000000) only [go_sem, Nat.reduceAdd, Nat.reduceMul]; exact hK) ?_
     refine AL_seq ?_
     obtain ⟨⟨t930, t933, t936⟩, g31, h⟩ := bind_or h
     dsimp only at h
     refine rg0 [1, 22, 23, 24, 25, 26, 27, 28, 29, 30, 31] [216, 224] (fun K hK => by simp (decide := true) (maxSteps := 4000000) only [go_sem, Nat.reduceAdd, Nat.reduceMul]; refine ⟨_, _, _, impl_KindChanges.V g31, ?_⟩; simp (decide := true) (maxSteps := 4000000) only [go_sem, Nat.reduceAdd, Nat.reduceMul]; exact hK) ?_
     refine AL_seq ?_
     obtain ⟨⟨t937, t940, t943⟩, g32, h⟩ := bind_or h
     dsimp only at h
     refine rg0 [1, 22, 23, 24, 25, 26, 27, 28, 29, 30, 31, 32, 33, 34] [216, 224] (fun K hK => by simp (decide := true) (maxSteps := 4000000) only [go_sem, Nat.reduceAdd, Nat.reduceMul]; refine ⟨_, _, _, spec_KindChanges.V g32, ?_⟩; simp (decide := true) (maxSteps := 4000000) only [go_sem, Nat.reduceAdd, Nat.reduceMul]; exact hK) ?_
     refine AL_seq ?_
     obtain ⟨⟨t944, t945, t946⟩, g33, h⟩ := bind_or h
     dsimp only at h
     refine rg0 [1, 22, 23, 24, 25, 26, 27, 28, 29, 30, 31, 32, 33, 34, 35, 36, 37] [216, 224] (fun K hK => by simp (decide := true) only [go_sem, Nat.reduceAdd, Nat.reduceMul]; refine ⟨_, _, _, impl_GradeErrors.V g33, ?_⟩; simp (decide := true) only [go_sem, Nat.reduceAdd, Nat.reduceMul]; exact hK) ?_
     refine AL_seq ?_
     obtain ⟨⟨t947, t948, t949⟩, g34, h⟩ := bind_or h
     dsimp only at h
     refine rg0 [1, 22, 23, 24, 25, 26, 27, 28, 29, 30, 31, 32, 33, 34, 35, 36, 37, 38, 39, 40] [216, 224] (fun K hK => by simp (decide := true) only [go_sem, Nat.reduceAdd, Nat.reduceMul]; refine ⟨_, _, _, spec_GradeErrors.V g34, ?_⟩; simp (decide := true) only [go_sem, Nat.reduceAdd, Nat.reduceMul]; exact hK) ?_
     refine AL_seq ?_
     refine AL_seq ?_
     refine AL_cut (fun S => (∃ kk : Nat, ∃ x1 x28 x31 x32 x33 x38 x39 x233 x929000 x929001 x929002 x929003 x929004 x929005 x930000 x930001 x930002 x930003 x930004 x930005, kk ≤ n26 ∧ laws_FnEstimates.j3 kk x1 x28 x31 x32 x33 x38 x39 x233 x929000 x929001 x929002 x929003 x929004 x929005 x930000 x930001 x930002 x930003 x930004 x930005 = some r ∧ At [(1, .sl false 1 (mp mkB x1)), (26, .ptr 216 0 0), (27, .ptr 224 0 0), (28, .int .i64 x28), (31, .bool x31), (32, .sl true 1 (mp mkI x32)), (33, .sl true 1 (mp mkI x33)), (38, .int .i64 x38), (39, .int .i64 x39), (233, .bool x233)] [(216, some (.box [.int .i64 x929000, .int .i64 x929001, .int .i64 x929002, .sl true 1 (mp mkI x929003), .sl true 1 (mp mkI x929004), .sl true 1 (mp mkI x929005)])), (224, some (.box [.int .i64 x930000, .int .i64 x930001, .int .i64 x930002, .sl true 1 (mp mkI x930003), .sl true 1 (mp mkI x930004), .sl true 1 (mp mkI x930005)]))] S)) ?_ ?_
     ·
      rcases ite_orb h with ⟨c35, h⟩ | ⟨c35, h⟩
      ·
       try simp only [ibeq, ibne, Bool.true_bne, Bool.false_bne, Bool.bne_true, Bool.bne_false, Bool.true_beq, Bool.false_beq, Bool.not_eq_true', Bool.not_eq_false'] at c35
       refine rg1 [1, 26, 27, 28, 31, 32, 33, 38, 39, 233] [216, 224] [(3, 197), (8, 202), (13, 207), (19, 213), (25, 219), (30, 224), (35, 229)] (fun K hK => by simp (decide := true) (maxSteps := 4000000) only [go_sem, Nat.reduceAdd, Nat.reduceMul, c35]; exact hK) ?_
       refine AL_meet ?_
       exact ⟨_, _, _, _, _, _, _, _, _, _, _, _, _, _, _, _, _, _, _, _, _, by omega, h, At_keep [1, 26, 27, 28, 31, 32, 33, 38, 39, 233] [216, 224]⟩
      ·
       try simp only [ibeq, ibne, Bool.true_bne, Bool.false_bne, Bool.bne_true, Bool.bne_false, Bool.true_beq, Bool.false_beq, Bool.not_eq_true', Bool.not_eq_false'] at c35
       rcases ite_orp h with ⟨c36, h⟩ | ⟨c36, h⟩
       ·
        rcases ite_orb h with ⟨c37, h⟩ | ⟨c37, h⟩
        ·
         try simp only [ibeq, ibne, Bool.true_bne, Bool.false_bne, Bool.bne_true, Bool.bne_false, Bool.true_beq, Bool.false_beq, Bool.not_eq_true', Bool.not_eq_false', c35, c36] at c37
         refine rg1 [1, 26, 27, 28, 31, 32, 33, 38, 39, 233] [216, 224] [(3, 197), (8, 202), (13, 207), (19, 213), (25, 219), (30, 224), (35, 229)] (fun K hK => by simp (decide := true) (maxSteps := 4000000) only [go_sem, Nat.reduceAdd, Nat.reduceMul, c35, c36, c37]; exact hK) ?_
         refine AL_meet ?_
         exact ⟨_, _, _, _, _, _, _, _, _, _, _, _, _, _, _, _, _, _, _, _, _, by omega, h, At_keep [1, 26, 27, 28, 31, 32, 33, 38, 39, 233] [216, 224]⟩
        ·
         try simp only [ibeq, ibne, Bool.true_bne, Bool.false_bne, Bool.bne_true, Bool.bne_false, Bool.true_beq, Bool.false_beq, Bool.not_eq_true', Bool.not_eq_false', c35, c36] at c37
         obtain ⟨t950, g38, h⟩ := bind_or h
         rcases ite_orb h with ⟨c39, h⟩ | ⟨c39, h⟩
         ·
          obtain ⟨t951, g40, h⟩ := bind_or h
          rcases ite_orb h with ⟨c41, h⟩ | ⟨c41, h⟩
          ·
           rcases ite_orb h with ⟨c42, h⟩ | ⟨c42, h⟩
           ·
            try simp only [ibeq, ibne, Bool.true_bne, Bool.false_bne, Bool.bne_true, Bool.bne_false, Bool.true_beq, Bool.false_beq, Bool.not_eq_true', Bool.not_eq_false', c35, c36, c37, c39, c41] at c42
            refine rg1 [1, 26, 27, 28, 31, 32, 33, 38, 39, 233] [216, 224] [(3, 197), (8, 202), (13, 207), (19, 213), (25, 219), (30, 224), (35, 229)] (fun K hK => by simp (decide := true) (maxSteps := 4000000) only [go_sem, Nat.reduceAdd, Nat.reduceMul, c35, c36, c37, c39, c41, c42]; refine ⟨_, _, _, laws_sameInts.V g38, ?_⟩; simp (decide := true) (maxSteps := 4000000) only [go_sem, Nat.reduceAdd, Nat.reduceMul, c35, c36, c37, c39, c41, c42]; refine ⟨_, _, _, laws_sameInts.V g40, ?_⟩; simp (decide := true) (maxSteps := 4000000) only [go_sem, Nat.reduceAdd, Nat.reduceMul, c35, c36, c37, c39, c41, c42]; exact hK) ?_
            refine AL_meet ?_
            exact ⟨_, _, _, _, _, _, _, _, _, _, _, _, _, _, _, _, _, _, _, _, _, by omega, h, At_keep [1, 26, 27, 28, 31, 32, 33, 38, 39, 233] [216, 224]⟩
           ·
            try simp only [ibeq, ibne, Bool.true_bne, Bool.false_bne, Bool.bne_true, Bool.bne_false, Bool.true_beq, Bool.false_beq, Bool.not_eq_true', Bool.not_eq_false', c35, c36, c37, c39, c41] at c42
            rcases ite_orp h with ⟨c43, h⟩ | ⟨c43, h⟩
            ·
             refine rg1 [1, 26, 27, 28, 31, 32, 33, 38, 39, 233] [216, 224] [(3, 197), (8, 202), (13, 207), (19, 213), (25, 219), (30, 224), (35, 229)] (fun K hK => by simp (decide := true) (maxSteps := 4000000) only [go_sem, Nat.reduceAdd, Nat.reduceMul, c35, c36, c37, c39, c41, c42, c43]; refine ⟨_, _, _, laws_sameInts.V g38, ?_⟩; simp (decide := true) (maxSteps := 4000000) only [go_sem, Nat.reduceAdd, Nat.reduceMul, c35, c36, c37, c39, c41, c42, c43]; refine ⟨_, _, _, laws_sameInts.V g40, ?_⟩; simp (decide := true) (maxSteps := 4000000) only [go_sem, Nat.reduceAdd, Nat.reduceMul, c35, c36, c37, c39, c41, c42, c43]; exact hK) ?_
             refine AL_meet ?_
             exact ⟨_, _, _, _, _, _, _, _, _, _, _, _, _, _, _, _, _, _, _, _, _, by omega, h, At_keep [1, 26, 27, 28, 31, 32, 33, 38, 39, 233] [216, 224]⟩
            ·
             refine rg1 [1, 26, 27, 28, 31, 32, 33, 38, 39, 233] [216, 224] [(3, 197), (8, 202), (13, 207), (19, 213), (25, 219), (30, 224), (35, 229)] (fun K hK => by simp (decide := true) (maxSteps := 4000000) only [go_sem, Nat.reduceAdd, Nat.reduceMul, c35, c36, c37, c39, c41, c42, c43]; refine ⟨_, _, _, laws_sameInts.V g38, ?_⟩; simp (decide := true) (maxSteps := 4000000) only [go_sem, Nat.reduceAdd, Nat.reduceMul, c35, c36, c37, c39, c41, c42, c43]; refine ⟨_, _, _, laws_sameInts.V g40, ?_⟩; simp (decide := true) (maxSteps := 4000000) only [go_sem, Nat.reduceAdd, Nat.reduceMul, c35, c36, c37, c39, c41, c42, c43]; exact hK) ?_
             refine AL_meet ?_
             exact ⟨_, _, _, _, _, _, _, _, _, _, _, _, _, _, _, _, _, _, _, _, _, by omega, h, At_keep [1, 26, 27, 28, 31, 32, 33, 38, 39, 233] [216, 224]⟩
          ·
           refine rg1 [1, 26, 27, 28, 31, 32, 33, 38, 39, 233] [216, 224] [(3, 197), (8, 202), (13, 207), (19, 213), (25, 219), (30, 224), (35, 229)] (fun K hK => by simp (decide := true) (maxSteps := 4000000) only [go_sem, Nat.reduceAdd, Nat.reduceMul, c35, c36, c37, c39, c41]; refine ⟨_, _, _, laws_sameInts.V g38, ?_⟩; simp (decide := true) (maxSteps := 4000000) only [go_sem, Nat.reduceAdd, Nat.reduceMul, c35, c36, c37, c39, c41]; refine ⟨_, _, _, laws_sameInts.V g40, ?_⟩; simp (decide := true) (maxSteps := 4000000) only [go_sem, Nat.reduceAdd, Nat.reduceMul, c35, c36, c37, c39, c41]; exact hK) ?_
           refine AL_meet ?_
           exact ⟨_, _, _, _, _, _, _, _, _, _, _, _, _, _, _, _, _, _, _, _, _, by omega, h, At_keep [1, 26, 27, 28, 31, 32, 33, 38, 39, 233] [216, 224]⟩
         ·
          refine rg1 [1, 26, 27, 28, 31, 32, 33, 38, 39, 233] [216, 224] [(3, 197), (8, 202), (13, 207), (19, 213), (25, 219), (30, 224), (35, 229)] (fun K hK => by simp (decide := true) (maxSteps := 4000000) only [go_sem, Nat.reduceAdd, Nat.reduceMul, c35, c36, c37, c39]; refine ⟨_, _, _, laws_sameInts.V g38, ?_⟩; simp (decide := true) (maxSteps := 4000000) only [go_sem, Nat.reduceAdd, Nat.reduceMul, c35, c36, c37, c39]; exact hK) ?_
          refine AL_meet ?_
          exact ⟨_, _, _, _, _, _, _, _, _, _, _, _, _, _, _, _, _, _, _, _, _, by omega, h, At_keep [1, 26, 27, 28, 31, 32, 33, 38, 39, 233] [216, 224]⟩
       ·
        refine rg1 [1, 26, 27, 28, 31, 32, 33, 38, 39, 233] [216, 224] [(3, 197), (8, 202), (13, 207), (19, 213), (25, 219), (30, 224), (35, 229)] (fun K hK => by simp (decide := true) (maxSteps := 4000000) only [go_sem, Nat.reduceAdd, Nat.reduceMul, c35, c36]; exact hK) ?_
        refine AL_meet ?_
        exact ⟨_, _, _, _, _, _, _, _, _, _, _, _, _, _, _, _, _, _, _, _, _, by omega, h, At_keep [1, 26, 27, 28, 31, 32, 33, 38, 39, 233] [216, 224]⟩
     ·
      intro S hS
      obtain ⟨kk44, x1, x28, x31, x32, x33, x38, x39, x233, x929000, x929001, x929002, x929003, x929004, x929005, x930000, x930001, x930002, x930003, x930004, x930005, hkq45, h, hS⟩ := hS
      rcases kk44 with _ | n46
      · (rw [laws_FnEstimates.j3] at h; cases h)
      rw [laws_FnEstimates.j3] at h
      refine AW_at hS ?_
      rcases ite_orb h with ⟨c47, h⟩ | ⟨c47, h⟩
      ·
       refine AL_then (by simp (decide := true) only [go_sem, Nat.reduceAdd, Nat.reduceMul, c47]) ?_
       refine AL_seq ?_
       refine rg0 [4] [] (fun K hK => by simp (decide := true) only [go_sem, Nat.reduceAdd, Nat.reduceMul, c47]; exact hK) ?_
       obtain rfl := Option.some.inj h
       refine AL_ret (fun _ => rfl) ?_
       exact retF_mk rfl (by exact ⟨trivial, trivial⟩) rfl (by exact rfl) (by exact trivial) (by exact trivial)
      ·
       refine AL_else (by simp (decide := true) only [go_sem, Nat.reduceAdd, Nat.reduceMul, c47]) ?_
       refine AL_skip ?_
       refine AL_seq ?_
       refine AL_seq ?_
       refine rg0 [1, 26, 27, 28, 32, 33, 38, 39, 234] [216, 224] (fun K hK => by simp (decide := true) only [go_sem, Nat.reduceAdd, Nat.reduceMul, c47]; exact hK) ?_
       refine AL_cut (fun S => (∃ kk : Nat, ∃ x1, kk ≤ n46 ∧ laws_FnEstimates.j6 kk x1 = some r ∧ At [(1, .sl false 1 (mp mkB x1))] [] S)) ?_ ?_
       ·
        rcases ite_orb h with ⟨c48, h⟩ | ⟨c48, h⟩
        ·
         refine AL_then (by simp (decide := true) only [go_sem, Nat.reduceAdd, Nat.reduceMul, c47, c48]) ?_
         refine AL_seq ?_
         obtain ⟨⟨t952, t955⟩, g49, h⟩ := bind_or h
         dsimp only at h
         refine rg0 [1, 26, 27, 28, 32, 33, 38, 39, 41, 42] [216, 224] (fun K hK => by simp (decide := true) only [go_sem, Nat.reduceAdd, Nat.reduceMul, c47, c48]; refine ⟨_, _, _, impl_ChangedBlocks.V g49, ?_⟩; simp (decide := true) only [go_sem, Nat.reduceAdd, Nat.reduceMul, c47, c48]; exact hK) ?_
         refine AL_seq ?_
         obtain ⟨⟨t956, t959, t962⟩, g50, h⟩ := bind_or h
         dsimp only at h
         refine rg0 [1, 32, 33, 38, 39, 41, 42, 43, 44, 45] [] (fun K hK => by simp (decide := true) (maxSteps := 4000000) only [go_sem, Nat.reduceAdd, Nat.reduceMul, c47, c48]; refine ⟨_, _, _, impl_KindChanges.V g50, ?_⟩; simp (decide := true) (maxSteps := 4000000) only [go_sem, Nat.reduceAdd, Nat.reduceMul, c47, c48]; exact hK) ?_
         refine AL_seq ?_
         refine AL_seq ?_
         refine AL_cut (fun S => (∃ kk : Nat, ∃ x1 x32 x41 x277, kk ≤ n46 ∧ laws_FnEstimates.j4 kk x1 x32 x41 x277 = some r ∧ At [(1, .sl false 1 (mp mkB x1)), (32, .sl true 1 (mp mkI x32)), (41, .sl true 1 (mp mkI x41)), (277, .bool x277)] [] S)) ?_ ?_
         ·
          rcases ite_orb h with ⟨c51, h⟩ | ⟨c51, h⟩
          ·
           rcases ite_orb h with ⟨c52, h⟩ | ⟨c52, h⟩
           ·
            obtain ⟨t963, g53, h⟩ := bind_or h
            rcases ite_orb h with ⟨c54, h⟩ | ⟨c54, h⟩
            ·
             obtain ⟨t964, g55, h⟩ := bind_or h
             rcases ite_orb h with ⟨c56, h⟩ | ⟨c56, h⟩
             ·
              rcases ite_orp h with ⟨c57, h⟩ | ⟨c57, h⟩
              ·
               refine rg1 [1, 32, 41, 277] [] [(2, 251), (6, 255), (12, 261), (18, 267), (23, 272)] (fun K hK => by simp (decide := true) (maxSteps := 4000000) only [go_sem, Nat.reduceAdd, Nat.reduceMul, c47, c48, c51, c52, c54, c56, c57]; refine ⟨_, _, _, laws_sameInts.V g53, ?_⟩; simp (decide := true) (maxSteps := 4000000) only [go_sem, Nat.reduceAdd, Nat.reduceMul, c47, c48, c51, c52, c54, c56, c57]; refine ⟨_, _, _, laws_sameInts.V g55, ?_⟩; simp (decide := true) (maxSteps := 4000000) only [go_sem, Nat.reduceAdd, Nat.reduceMul, c47, c48, c51, c52, c54, c56, c57]; exact hK) ?_
               refine AL_meet ?_
               exact ⟨_, _, _, _, _, by omega, h, At_keep [1, 32, 41, 277] []⟩
              ·
               refine rg1 [1, 32, 41, 277] [] [(2, 251), (6, 255), (12, 261), (18, 267), (23, 272)] (fun K hK => by simp (decide := true) (maxSteps := 4000000) only [go_sem, Nat.reduceAdd, Nat.reduceMul, c47, c48, c51, c52, c54, c56, c57]; refine ⟨_, _, _, laws_sameInts.V g53, ?_⟩; simp (decide := true) (maxSteps := 4000000) only [go_sem, Nat.reduceAdd, Nat.reduceMul, c47, c48, c51, c52, c54, c56, c57]; refine ⟨_, _, _, laws_sameInts.V g55, ?_⟩; simp (decide := true) (maxSteps := 4000000) only [go_sem, Nat.reduceAdd, Nat.reduceMul, c47, c48, c51, c52, c54, c56, c57]; exact hK) ?_
               refine AL_meet ?_
               exact ⟨_, _, _, _, _, by omega, h, At_keep [1, 32, 41, 277] []⟩
             ·
              refine rg1 [1, 32, 41, 277] [] [(2, 251), (6, 255), (12, 261), (18, 267), (23, 272)] (fun K hK => by simp (decide := true) (maxSteps := 4000000) only [go_sem, Nat.reduceAdd, Nat.reduceMul, c47, c48, c51, c52, c54, c56]; refine ⟨_, _, _, laws_sameInts.V g53, ?_⟩; simp (decide := true) (maxSteps := 4000000) only [go_sem, Nat.reduceAdd, Nat.reduceMul, c47, c48, c51, c52, c54, c56]; refine ⟨_, _, _, laws_sameInts.V g55, ?_⟩; simp (decide := true) (maxSteps := 4000000) only [go_sem, Nat.reduceAdd, Nat.reduceMul, c47, c48, c51, c52, c54, c56]; exact hK) ?_
              refine AL_meet ?_
              exact ⟨_, _, _, _, _, by omega, h, At_keep [1, 32, 41, 277] []⟩
            ·
             refine rg1 [1, 32, 41, 277] [] [(2, 251), (6, 255), (12, 261), (18, 267), (23, 272)] (fun K hK => by simp (decide := true) (maxSteps := 4000000) only [go_sem, Nat.reduceAdd, Nat.reduceMul, c47, c48, c51, c52, c54]; refine ⟨_, _, _, laws_sameInts.V g53, ?_⟩; simp (decide := true) (maxSteps := 4000000) only [go_sem, Nat.reduceAdd, Nat.reduceMul, c47, c48, c51, c52, c54]; exact hK) ?_
             refine AL_meet ?_
             exact ⟨_, _, _, _, _, by omega, h, At_keep [1, 32, 41, 277] []⟩
           ·
            refine rg1 [1, 32, 41, 277] [] [(2, 251), (6, 255), (12, 261), (18, 267), (23, 272)] (fun K hK => by simp (decide := true) (maxSteps := 4000000) only [go_sem, Nat.reduceAdd, Nat.reduceMul, c47, c48, c51, c52]; exact hK) ?_
            refine AL_meet ?_
            exact ⟨_, _, _, _, _, by omega, h, At_keep [1, 32, 41, 277] []⟩
          ·
           refine rg1 [1, 32, 41, 277] [] [(2, 251), (6, 255), (12, 261), (18, 267), (23, 272)] (fun K hK => by simp (decide := true) (maxSteps := 4000000) only [go_sem, Nat.reduceAdd, Nat.reduceMul, c47, c48, c51]; exact hK) ?_
           refine AL_meet ?_
           exact ⟨_, _, _, _, _, by omega, h, At_keep [1, 32, 41, 277] []⟩
         ·
          intro S hS
          obtain ⟨kk58, x1, x32, x41, x277, hkq59, h, hS⟩ := hS
          rcases kk58 with _ | n60
          · (rw [laws_FnEstimates.j4] at h; cases h)
          rw [laws_FnEstimates.j4] at h
          refine AW_at hS ?_
          rcases ite_orb h with ⟨c61, h⟩ | ⟨c61, h⟩
          ·
           refine AL_then (by simp (decide := true) only [go_sem, Nat.reduceAdd, Nat.reduceMul, c61]) ?_
           refine AL_seq ?_
           refine rg0 [4] [] (fun K hK => by simp (decide := true) only [go_sem, Nat.reduceAdd, Nat.reduceMul, c61]; exact hK) ?_
           obtain rfl := Option.some.inj h
           refine AL_ret (fun _ => rfl) ?_
           exact retF_mk rfl (by exact ⟨trivial, trivial⟩) rfl (by exact rfl) (by exact trivial) (by exact trivial)
          ·
           refine AL_else (by simp (decide := true) only [go_sem, Nat.reduceAdd, Nat.reduceMul, c61]) ?_
           refine AL_skip ?_
           refine AL_seq ?_
           refine rg0 [1, 41, 278, 279, 280] [] (fun K hK => by simp (decide := true) only [go_sem, Nat.reduceAdd, Nat.reduceMul, c61]; exact hK) ?_
           refine AL_block ?_
           refine AL_loop (n := n60) (fun n S => (∃ x1 x41 x278 x279 x280, n ≤ n60 ∧ laws_FnEstimates.l1 n x1 x41 x278 x279 x280 = some r ∧ At [(1, .sl false 1 (mp mkB x1)), (41, .sl true 1 (mp mkI x41)), (278, .sl true 1 (mp mkI x278)), (279, .int .i64 x279), (280, .int .i64 x280)] [] S)) ?_ ?_
           · exact ⟨_, _, _, _, _, by omega, h, At_keep [1, 41, 278, 279, 280] []⟩
           ·
            intro n S hS
            obtain ⟨x1, x41, x278, x279, x280, hkq62, h, hS⟩ := hS
            rcases n with _ | n63
            · (rw [laws_FnEstimates.l1] at h; cases h)
            rw [laws_FnEstimates.l1] at h
            refine AW_at hS ?_
            refine AL_seq ?_
            refine rg0 [1, 41, 278, 279, 280, 281] [] (fun K hK => by simp (decide := true) only [go_sem, Nat.reduceAdd, Nat.reduceMul]; exact hK) ?_
            refine AL_seq ?_
            rcases ite_orp h with ⟨c64, h⟩ | ⟨c64, h⟩
            ·
             refine AL_then (by simp (decide := true) only [go_sem, Nat.reduceAdd, Nat.reduceMul, c64]) ?_
             refine AL_skip ?_
             refine AL_seq ?_
             refine AL_block ?_
             refine AL_seq ?_
             obtain ⟨c65, h⟩ := ite_lp h
             obtain ⟨c66, h⟩ := ite_lp h
             refine rg0 [1, 41, 47, 278, 279, 280] [] (fun K hK => by simp (decide := true) only [go_sem, Nat.reduceAdd, Nat.reduceMul, c64, c65, c66]; exact hK) ?_
             refine AL_seq ?_
             obtain ⟨t966, g67, h⟩ := bind_or h
             refine rg0 [1, 41, 278, 279, 280, 287] [] (fun K hK => by simp (decide := true) only [go_sem, Nat.reduceAdd, Nat.reduceMul, c64, c65, c66]; refine ⟨_, _, _, laws_pIn.V g67, ?_⟩; simp (decide := true) only [go_sem, Nat.reduceAdd, Nat.reduceMul, c64, c65, c66]; exact hK) ?_
             rcases ite_orb h with ⟨c68, h⟩ | ⟨c68, h⟩
             ·
              refine AL_else (by simp (decide := true) only [go_sem, Nat.reduceAdd, Nat.reduceMul, c64, c65, c66, c68]) ?_
              refine AL_skip ?_
              refine blockQ_n ?_
              refine rg0 [1, 41, 278, 279, 280] [] (fun K hK => by simp (decide := true) only [go_sem, Nat.reduceAdd, Nat.reduceMul, c64, c65, c66, c68]; exact hK) ?_
              refine AL_again (m := n63) (by omega) ?_
              exact ⟨_, _, _, _, _, by omega, h, At_keep [1, 41, 278, 279, 280] []⟩
             ·
              refine AL_then (by simp (decide := true) only [go_sem, Nat.reduceAdd, Nat.reduceMul, c64, c65, c66, c68]) ?_
              refine AL_seq ?_
              refine rg0 [4] [] (fun K hK => by simp (decide := true) only [go_sem, Nat.reduceAdd, Nat.reduceMul, c64, c65, c66, c68]; exact hK) ?_
              obtain rfl := Option.some.inj h
              refine AL_ret (fun _ => rfl) ?_
              exact retF_mk rfl (by exact ⟨trivial, trivial⟩) rfl (by exact rfl) (by exact trivial) (by exact trivial)
            ·
             refine AL_else (by simp (decide := true) only [go_sem, Nat.reduceAdd, Nat.reduceMul, c64]) ?_
             refine AL_exit ?_
             repeat first | refine thenQ_x ?_ | refine blockQ_miss (by decide) ?_
             refine blockQ_hit ?_
             refine AL_meet ?_
             exact ⟨_, _, by omega, h, At_keep [1] []⟩
        ·
         refine AL_else (by simp (decide := true) only [go_sem, Nat.reduceAdd, Nat.reduceMul, c47, c48]) ?_
         refine AL_skip ?_
         refine AL_meet ?_
         exact ⟨_, _, by omega, h, At_keep [1] []⟩
       ·
        intro S hS
        obtain ⟨kk69, x1, hkq70, h, hS⟩ := hS
        rcases kk69 with _ | n71
        · (rw [laws_FnEstimates.j6] at h; cases h)
        rw [laws_FnEstimates.j6] at h
        refine AW_at hS ?_
        refine AL_seq ?_
        obtain ⟨⟨t967, t968, t969, t970, t973, t976, t979, t982⟩, g72, h⟩ := bind_or h
        dsimp only at h
        refine rg0 [1, 48, 49, 50] [392] (fun K hK => by simp (decide := true) only [go_sem, Nat.reduceAdd, Nat.reduceMul]; refine ⟨_, _, _, spec_DrawUpdateAll.V g72, ?_⟩; simp (decide := true) only [go_sem, Nat.reduceAdd, Nat.reduceMul]; exact hK) ?_
        refine AL_seq ?_
        obtain ⟨⟨t984, t985, t986, t987, t990, t993, t996⟩, g73, h⟩ := bind_or h
        dsimp only at h
        refine rg0 [1, 48, 49, 50, 51, 52] [392, 416] (fun K hK => by simp (decide := true) only [go_sem, Nat.reduceAdd, Nat.reduceMul]; refine ⟨_, _, _, impl_UpdateAll.V g73, ?_⟩; simp (decide := true) only [go_sem, Nat.reduceAdd, Nat.reduceMul]; exact hK) ?_
        refine AL_seq ?_
        obtain ⟨⟨t998, t999, t1000, t1001, t1004, t1007, t1010⟩, g74, h⟩ := bind_or h
        dsimp only at h
        refine rg0 [1, 51, 52, 53, 54] [416, 432] (fun K hK => by simp (decide := true) only [go_sem, Nat.reduceAdd, Nat.reduceMul]; refine ⟨_, _, _, spec_UpdateAll.V g74, ?_⟩; simp (decide := true) only [go_sem, Nat.reduceAdd, Nat.reduceMul]; exact hK) ?_
        refine AL_seq ?_
        obtain ⟨⟨t1012, t1013, t1014, t1015, t1018, t1021, t1024, t1025, t1026, t1027, t1030, t1033⟩, g75, h⟩ := bind_or h
        dsimp only at h
        refine rg0 [51, 52, 53, 54, 55, 56] [416, 432, 448, 456] (fun K hK => by simp (decide := true) only [go_sem, Nat.reduceAdd, Nat.reduceMul]; refine ⟨_, _, _, spec_DrawChangedBlocks.V g75, ?_⟩; simp (decide := true) only [go_sem, Nat.reduceAdd, Nat.reduceMul]; exact hK) ?_
        refine AL_seq ?_
        obtain ⟨⟨t1038, t1041⟩, g76, h⟩ := bind_or h
        dsimp only at h
        refine rg0 [51, 52, 53, 54, 55, 56, 57, 58] [416, 432, 448, 456] (fun K hK => by simp (decide := true) only [go_sem, Nat.reduceAdd, Nat.reduceMul]; refine ⟨_, _, _, impl_ChangedBlocks.V g76, ?_⟩; simp (decide := true) only [go_sem, Nat.reduceAdd, Nat.reduceMul]; exact hK) ?_
        refine AL_seq ?_
        obtain ⟨⟨t1042, t1045⟩, g77, h⟩ := bind_or h
        dsimp only at h
        refine rg0 [51, 52, 53, 54, 57, 58, 59, 60] [416, 432] (fun K hK => by simp (decide := true) only [go_sem, Nat.reduceAdd, Nat.reduceMul]; refine ⟨_, _, _, spec_ChangedBlocks.V g77, ?_⟩; simp (decide := true) only [go_sem, Nat.reduceAdd, Nat.reduceMul]; exact hK) ?_
        refine AL_seq ?_
        rcases ite_orb h with ⟨c78, h⟩ | ⟨c78, h⟩
        ·
         try simp only [ibeq, ibne, Bool.true_bne, Bool.false_bne, Bool.bne_true, Bool.bne_false, Bool.true_beq, Bool.false_beq, Bool.not_eq_true', Bool.not_eq_false'] at c78
         obtain ⟨t1046, g79, h⟩ := bind_or h
         rcases ite_orb h with ⟨c80, h⟩ | ⟨c80, h⟩
         ·
          rcases ite_orb h with ⟨c81, h⟩ | ⟨c81, h⟩
          ·
           try simp only [Bool.true_bne, Bool.false_bne, Bool.bne_true, Bool.bne_false, Bool.true_beq, Bool.false_beq, Bool.not_eq_true', Bool.not_eq_false', c81] at c78
           obtain ⟨t1047, g82, h⟩ := bind_or h
           rcases ite_orb h with ⟨c83, h⟩ | ⟨c83, h⟩
           ·
            rcases ite_orb h with ⟨c84, h⟩ | ⟨c84, h⟩
            ·
             try simp only [ibeq, ibne, Bool.true_bne, Bool.false_bne, Bool.bne_true, Bool.bne_false, Bool.true_beq, Bool.false_beq, Bool.not_eq_true', Bool.not_eq_false', c78, c80, c81, c83] at c84
             obtain ⟨t1048, g85, h⟩ := bind_or h
             refine rg1 [4] [] [(3, 329), (8, 334), (11, 337), (16, 342), (21, 347)] (fun K hK => by simp (decide := true) (maxSteps := 4000000) only [go_sem, Nat.reduceAdd, Nat.reduceMul, c78, c80, c81, c83, c84]; refine ⟨_, _, _, laws_pSameModel.V g79, ?_⟩; simp (decide := true) (maxSteps := 4000000) only [go_sem, Nat.reduceAdd, Nat.reduceMul, c78, c80, c81, c83, c84]; refine ⟨_, _, _, impl_IsModel.V g82, ?_⟩; simp (decide := true) (maxSteps := 4000000) only [go_sem, Nat.reduceAdd, Nat.reduceMul, c78, c80, c81, c83, c84]; refine ⟨_, _, _, laws_sameInts.V g85, ?_⟩; simp (decide := true) (maxSteps := 4000000) only [go_sem, Nat.reduceAdd, Nat.reduceMul, c78, c80, c81, c83, c84]; exact hK) ?_
             obtain rfl := Option.some.inj h
             refine AL_ret (fun _ => rfl) ?_
             exact retF_mk rfl (by exact ⟨trivial, trivial⟩) rfl (by exact rfl) (by exact trivial) (by exact trivial)
            ·
             try simp only [ibeq, ibne, Bool.true_bne, Bool.false_bne, Bool.bne_true, Bool.bne_false, Bool.true_beq, Bool.false_beq, Bool.not_eq_true', Bool.not_eq_false', c78, c80, c81, c83] at c84
             refine rg1 [4] [] [(3, 329), (8, 334), (11, 337), (16, 342), (21, 347)] (fun K hK => by simp (decide := true) (maxSteps := 4000000) only [go_sem, Nat.reduceAdd, Nat.reduceMul, c78, c80, c81, c83, c84]; refine ⟨_, _, _, laws_pSameModel.V g79, ?_⟩; simp (decide := true) (maxSteps := 4000000) only [go_sem, Nat.reduceAdd, Nat.reduceMul, c78, c80, c81, c83, c84]; refine ⟨_, _, _, impl_IsModel.V g82, ?_⟩; simp (decide := true) (maxSteps := 4000000) only [go_sem, Nat.reduceAdd, Nat.reduceMul, c78, c80, c81, c83, c84]; exact hK) ?_
             obtain rfl := Option.some.inj h
             refine AL_ret (fun _ => rfl) ?_
             exact retF_mk rfl (by exact ⟨trivial, trivial⟩) rfl (by exact rfl) (by exact trivial) (by exact trivial)
           ·
            refine rg1 [4] [] [(3, 329), (8, 334), (11, 337), (16, 342), (21, 347)] (fun K hK => by simp (decide := true) (maxSteps := 4000000) only [go_sem, Nat.reduceAdd, Nat.reduceMul, c78, c80, c81, c83]; refine ⟨_, _, _, laws_pSameModel.V g79, ?_⟩; simp (decide := true) (maxSteps := 4000000) only [go_sem, Nat.reduceAdd, Nat.reduceMul, c78, c80, c81, c83]; refine ⟨_, _, _, impl_IsModel.V g82, ?_⟩; simp (decide := true) (maxSteps := 4000000) only [go_sem, Nat.reduceAdd, Nat.reduceMul, c78, c80, c81, c83]; exact hK) ?_
            obtain rfl := Option.some.inj h
            refine AL_ret (fun _ => rfl) ?_
            exact retF_mk rfl (by exact ⟨trivial, trivial⟩) rfl (by exact rfl) (by exact trivial) (by exact trivial)
          ·
           try simp only [Bool.true_bne, Bool.false_bne, Bool.bne_true, Bool.bne_false, Bool.true_beq, Bool.false_beq, Bool.not_eq_true', Bool.not_eq_false', c81] at c78
           rcases ite_orb h with ⟨c86, h⟩ | ⟨c86, h⟩
           ·
            try simp only [ibeq, ibne, Bool.true_bne, Bool.false_bne, Bool.bne_true, Bool.bne_false, Bool.true_beq, Bool.false_beq, Bool.not_eq_true', Bool.not_eq_false', c78, c80, c81] at c86
            obtain ⟨t1049, g87, h⟩ := bind_or h
            refine rg1 [4] [] [(3, 329), (8, 334), (11, 337), (16, 342), (21, 347)] (fun K hK => by simp (decide := true) (maxSteps := 4000000) only [go_sem, Nat.reduceAdd, Nat.reduceMul, c78, c80, c81, c86]; refine ⟨_, _, _, laws_pSameModel.V g79, ?_⟩; simp (decide := true) (maxSteps := 4000000) only [go_sem, Nat.reduceAdd, Nat.reduceMul, c78, c80, c81, c86]; refine ⟨_, _, _, laws_sameInts.V g87, ?_⟩; simp (decide := true) (maxSteps := 4000000) only [go_sem, Nat.reduceAdd, Nat.reduceMul, c78, c80, c81, c86]; exact hK) ?_
            obtain rfl := Option.some.inj h
            refine AL_ret (fun _ => rfl) ?_
            exact retF_mk rfl (by exact ⟨trivial, trivial⟩) rfl (by exact rfl) (by exact trivial) (by exact trivial)
           ·
            try simp only [ibeq, ibne, Bool.true_bne, Bool.false_bne, Bool.bne_true, Bool.bne_false, Bool.true_beq, Bool.false_beq, Bool.not_eq_true', Bool.not_eq_false', c78, c80, c81] at c86
            refine rg1 [4] [] [(3, 329), (8, 334), (11, 337), (16, 342), (21, 347)] (fun K hK => by simp (decide := true) (maxSteps := 4000000) only [go_sem, Nat.reduceAdd, Nat.reduceMul, c78, c80, c81, c86]; refine ⟨_, _, _, laws_pSameModel.V g79, ?_⟩; simp (decide := true) (maxSteps := 4000000) only [go_sem, Nat.reduceAdd, Nat.reduceMul, c78, c80, c81, c86]; exact hK) ?_
            obtain rfl := Option.some.inj h
            refine AL_ret (fun _ => rfl) ?_
            exact retF_mk rfl (by exact ⟨trivial, trivial⟩) rfl (by exact rfl) (by exact trivial) (by exact trivial)
         ·
          refine rg1 [4] [] [(3, 329), (8, 334), (11, 337), (16, 342), (21, 347)] (fun K hK => by simp (decide := true) (maxSteps := 4000000) only [go_sem, Nat.reduceAdd, Nat.reduceMul, c78, c80]; refine ⟨_, _, _, laws_pSameModel.V g79, ?_⟩; simp (decide := true) (maxSteps := 4000000) only [go_sem, Nat.reduceAdd, Nat.reduceMul, c78, c80]; exact hK) ?_
          obtain rfl := Option.some.inj h
          refine AL_ret (fun _ => rfl) ?_
          exact retF_mk rfl (by exact ⟨trivial, trivial⟩) rfl (by exact rfl) (by exact trivial) (by exact trivial)
        ·
         try simp only [ibeq, ibne, Bool.true_bne, Bool.false_bne, Bool.bne_true, Bool.bne_false, Bool.true_beq, Bool.false_beq, Bool.not_eq_true', Bool.not_eq_false'] at c78
         refine rg1 [4] [] [(3, 329), (8, 334), (11, 337), (16, 342), (21, 347)] (fun K hK => by simp (decide := true) (maxSteps := 4000000) only [go_sem, Nat.reduceAdd, Nat.reduceMul, c78]; exact hK) ?_
         obtain rfl := Option.some.inj h
         refine AL_ret (fun _ => rfl) ?_
         exact retF_mk rfl (by exact ⟨trivial, trivial⟩) rfl (by exact rfl) (by exact trivial) (by exact trivial)
end Go.Proofs.Ytfakhgopbhnocaa.PFnEstimates
