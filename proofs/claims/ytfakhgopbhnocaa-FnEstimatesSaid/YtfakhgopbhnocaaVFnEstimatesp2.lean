/- Each function's run, shown to compute what its plain function says. -/
import Derived.Test.YtfakhgopbhnocaaVFnEstimatesp1
import Derived.KernelRfl
set_option linter.unusedVariables false
set_option linter.unusedSimpArgs false
namespace Go.Proofs.Ytfakhgopbhnocaa.PFnEstimates
open Go Go.Proofs.YtfakhgopbhnocaaVM Go.Proofs.Ytfakhgopbhnocaa.VE Go.RowKit Go.Proofs.YtfakhgopbhnocaaW.PrintWords Go.Proofs.YtfakhgopbhnocaaW.PrintLast Go.Proofs.YtfakhgopbhnocaaW.PrintMore
attribute [local go_sem] runF_nil runF_cons kG_go kG_store kG_skip kG_pass kS_go kS_call kQ_go flagB_no inFl_some inFl_store hasB_nil hasB_hit hasB_miss flagB_eq clB_no wrB_no clB_yes wrB_store wrB_call opdL_load opdL_index opdL_len nm0_eq nmV_nil nmV_cons pt0_ptr pt0_int pt0_bool pt0_sl pt0_nil pt0_ref pt0_agg guardB_none guardB_some gL_some gB_true gB_false gB_skip look_hit look_miss tg_hit tg_miss bg_hit bg_miss ev_tmp ev_int ev_bool ev_nil ev_agg sQ_some stO_move stO_assign stO_pick stO_un stO_bin stO_field stO_load stO_index stO_extract stO_conv stO_box stO_alloc stO_len stO_call qUn_not qUn_neg qPick_true qPick_false qField_ptr qField_fat qLd_some qConv_some sB_some sA_some qLen_sl qLen_nil boxV_agg boxV_int boxV_bool boxV_nil boxV_sl boxV_ref qBin_add qBin_sub qBin_mul qBin_quo qBin_rem qBin_and qBin_or qBin_shr qBin_shl qBin_eql qBin_neq qBin_lss qBin_leq qBin_gtr qBin_geq qBin_beq qBin_bne qEx_tup keepT_cons keepB_nil keepB_cons keepT_nil qLoad_fat1 qLoad_fat2 qLoad_ptr ldB_box1 ld1_some ldB_box2 ldB_row ldR_1 ldR_2 unc_int unc_bool unc_nil unc_ref unc_sl unc_con_sl unc_con_nil rt_int rt_bool rt_nil rt_sl qIndex_sl ixT_some ixS_some qIndex_ref ixR_some ixR1_some argPtr_nil argPtr_ptr argPtr_int argPtr_bool argPtr_sl argPtr_ref argPtr_nl argPtr_agg memIn_none memIn_some mi1_box mi2_some viewL_int viewL_bool viewL_nil viewL_sl viewL_ref vwR_some cons2_some viewLs_nil viewLs_cons viewAs_nil viewAs_cons viewA_int viewA_bool viewA_nil viewA_sl viewA_ref viewA_agg agg1_some viewA_ptr sC_go sC2_some renT_int renT_bool renT_nil renT_sl renT_agg renT_tup renA_int renA_bool renA_nil renA_sl renA_agg renL_int renL_bool renL_nil renL_sl rowsD_nil memD_none memD_some md1_box mergeL_nil mergeL_int mergeL_bool mergeL_sl mergeL_nl stO_build sP_some sF_some fillV_nil fillV_cons fl1_go stO_nilCheck qNil_ptr stO_min qMin_int stO_max qMax_int stO_make sMe_some sM_some stO_slice sSe_some sS_own sS_fix rowsV_nil rowsV_cons rv1_some rowV_int rowV_bool rowV_nil rowV_sl rowV_agg stO_append sApp_new sApp_on qStore_eq qS2_some qS1_some qApp_eq qA0_some qA1_some qA2_nil qA2_ref stored1_ptr st1_box st1_row setL_nil setL_cons qA3_some absB_t absB_b0 absB_b1 absB_nil noBB_row noBB_box noTB_int noAB_int noLB_int killT_int killA_int killL_int noTB_bool noAB_bool noLB_bool killT_bool killA_bool killL_bool noTB_nil noAB_nil noLB_nil killT_nil killA_nil killL_nil noTB_und noAB_und noLB_und killT_und killA_und killL_und noTB_skip noAB_skip noLB_skip killT_skip killA_skip killL_skip noTB_sl noAB_sl noLB_sl killT_sl killA_sl killL_sl noTB_fat noAB_fat noLB_fat killT_fat killA_fat killL_fat noTB_ref noAB_ref noLB_ref killT_ref0 killT_ref killA_ref0 killA_ref killL_ref0 killL_ref noTB_ptr noAB_ptr noLB_ptr killT_ptr0 killT_ptr killA_ptr0 killA_ptr killL_ptr0 killL_ptr noTB_agg noAB_agg noTB_tup noLB_con_sl noLB_con_nil killT_agg killA_agg killT_tup killL_con_sl killL_con_nil killTL_nil killTL_cons killBL_nil killBL_none killBL_row killBL_box shut1_int shut1_bool shut1_nil shut1_sl scal_int scal_bool known1_int known1_bool known1_nil known1_sl known1_ref opdL_call nm0_func intsOf_nil intsOf_cons qBin_eqA qBin_neA eqA_eq eqA_ne nil_beq renT_ref renA_ref renL_ref rowsD_cons qLen_refR lenR_some tn_lt rowI_getn rowI_set nlit rowI_scal mp_nil rowI_cons rowI_len mkI_eq mkB_eq mp_length mp_app mp_ne rowI_one rowI_zero ibeq ibne true_and and_true and_self decide_true decide_false Bool.not_true Bool.not_false Bool.not_not List.length_map List.length_cons List.length_nil List.getElem?_cons_zero List.getElem?_cons_succ List.drop_zero List.drop_succ_cons List.take_succ_cons List.take_zero List.map_cons List.map_nil List.all_cons List.all_nil Bool.and_true Bool.true_and List.getD_cons_zero List.getD_cons_succ List.set_cons_zero List.set_cons_succ Option.isSome_none Option.isSome_some List.nil_append List.cons_append List.append_eq List.append_nil List.length_append cond_true cond_false ne_eq List.map_eq_nil_iff not_false_eq_true List.cons_ne_nil Bool.true_bne Bool.false_bne Bool.bne_true Bool.bne_false Bool.true_beq Bool.false_beq Int.zero_sub List.cons_beq_cons Option.map_some true_or or_true beq_self_eq_true Nat.zero_lt_succ ti_3 ti_5 ti_22 ti_24 ti_25 ti_27 ti_68 ti_127 ti_129 el_22 el_25 el_32 el_60 el_205 fo_24_0 fo_24_1 fo_24_2 fo_27_0 fo_27_1 fo_27_2 fo_27_3 fo_68_0 fo_68_1 fo_68_2 fo_68_3 fo_68_4 fo_129_0 fo_129_1 fo_129_2 bo_4 io_3 io_5 io_127 pl_24 pl_27 pl_68 pl_129 eqs_24 loud_6 loud_36 loud_38 loud_46 loud_50 loud_51 loud_52 loud_53 loud_56 loud_57 loud_58 loud_59 loud_60 loud_61 loud_62 loud_63 loud_64 loud_65 loud_66 loud_67 loud_68 loud_69 loud_70 loud_71 loud_96 loud_97 loud_100 loud_103 loud_105 loud_108 loud_109 loud_110 loud_111 loud_112 loud_118 loud_119 loud_120 loud_121 loud_122 loud_123 loud_124 loud_125 loud_127 loud_128 loud_129 loud_130 loud_131 loud_132 loud_133 loud_134 loud_135 loud_136 loud_137 loud_138 loud_139 loud_140 loud_141 loud_142 loud_143 loud_144 loud_145 loud_177 loud_178 loud_180 loud_183 loud_184 loud_185 loud_186 loud_187 loud_188 loud_189 loud_190 loud_191 loud_192 loud_193 loud_194 loud_195 i64w td_60 wl mx_rule mn_rule rowI_get rowB_get mkS68_eq rowS68_get rowS68_one rowS68_cons rowS68_len mkS24_eq rowS24_get rowS24_one rowS24_cons rowS24_len mkL_eq rowL_one rowL_cons rowL_len
/-! spec_bhIn : 130 -/
set_option maxRecDepth 100000 in
set_option maxHeartbeats 4000000 in
theorem spec_bhIn.V {k : Nat} {a0_0 : Int} {a0_1 : Int} {a0_2 : Int} {l1 : List (S68)} {a2 : Int} {r : List Int} (h : spec_bhIn.f k a0_0 a0_1 a0_2 l1 a2 = some r) : FnV E 130 [.agg [.int .i64 a0_0, .int .i64 a0_1, .int .i64 a0_2], .sl false 5 (mp mkS68 l1), .int .i64 a2] none (.sl true 1 (mp mkI r)) [] none := by
 refine FnV_list E (rs := [.tmp 6]) Try.func130 (by rfl) rfl Try.ntmps130 rfl [] (by simp) rfl (by simp) rfl (fun us => ?_)
 simp only [argsL, memL, wrapL, wrap1, Nat.reduceAdd]
 unfold spec_bhIn.f at h
 refine AL_seq ?_
 refine rg0 [1, 2, 3] [32] (fun K hK => by simp (decide := true) only [go_sem, Nat.reduceAdd, Nat.reduceMul]; exact hK) ?_
 refine AL_seq ?_
 refine rg0 [1, 2, 3, 7] [32] (fun K hK => by simp (decide := true) only [go_sem, Nat.reduceAdd, Nat.reduceMul]; exact hK) ?_
 refine AL_seq ?_
 refine AL_seq ?_
 refine rg0 [2, 3, 7, 10, 11, 12] [32] (fun K hK => by simp (decide := true) only [go_sem, Nat.reduceAdd, Nat.reduceMul]; exact hK) ?_
 refine AL_block ?_
 refine AL_loop (n := k) (fun n S => (∃ x2 x10 x11 x12 x511000 x511001 x511002, n ≤ k ∧ spec_bhIn.l0 n x2 ([] : List Int) x10 x11 x12 x511000 x511001 x511002 = some r ∧ At [(2, .int .i64 x2), (3, .ptr 32 0 0), (7, .nil), (10, .sl false 5 (mp mkS68 x10)), (11, .int .i64 x11), (12, .int .i64 x12)] [(32, some (.box [.int .i64 x511000, .int .i64 x511001, .int .i64 x511002]))] S) ∨ (∃ x2 x10 x11 x12 x511000 x511001 x511002 x7, n ≤ k ∧ spec_bhIn.l0 n x2 x7 x10 x11 x12 x511000 x511001 x511002 = some r ∧ At [(2, .int .i64 x2), (3, .ptr 32 0 0), (7, .ref 208), (10, .sl false 5 (mp mkS68 x10)), (11, .int .i64 x11), (12, .int .i64 x12)] [(32, some (.box [.int .i64 x511000, .int .i64 x511001, .int .i64 x511002])), (208, some (.row 3 1 (mp mkI x7)))] S)) ?_ ?_
 · exact .inl ⟨_, _, _, _, _, _, _, by omega, h, At_keep [2, 3, 7, 10, 11, 12] [32]⟩
 ·
  intro n S hS
  rcases hS with hS | hS
  ·
   obtain ⟨x2, x10, x11, x12, x511000, x511001, x511002, hkq1, h, hS⟩ := hS
   rcases n with _ | n2
   · (rw [spec_bhIn.l0] at h; cases h)
   rw [spec_bhIn.l0] at h
   refine AW_at hS ?_
   refine AL_seq ?_
   refine rg0 [2, 3, 7, 10, 11, 12, 13] [32] (fun K hK => by simp (decide := true) only [go_sem, Nat.reduceAdd, Nat.reduceMul]; exact hK) ?_
   refine AL_seq ?_
   rcases ite_orp h with ⟨c3, h⟩ | ⟨c3, h⟩
   ·
    refine AL_then (by simp (decide := true) only [go_sem, Nat.reduceAdd, Nat.reduceMul, c3]) ?_
    refine AL_skip ?_
    refine AL_seq ?_
    refine AL_block ?_
    refine AL_seq ?_
    obtain ⟨c4, h⟩ := ite_lp h
    obtain ⟨c5, h⟩ := ite_lp h
    refine rg0 [2, 3, 7, 8, 9, 10, 11, 12] [32, 80] (fun K hK => by simp (decide := true) only [go_sem, Nat.reduceAdd, Nat.reduceMul, c3, c4, c5]; exact hK) ?_
    refine AL_seq ?_
    obtain ⟨t513, g6, h⟩ := bind_or h
    refine rg0 [2, 3, 7, 8, 10, 11, 12, 21] [32] (fun K hK => by simp (decide := true) only [go_sem, Nat.reduceAdd, Nat.reduceMul, c3, c4, c5]; refine ⟨_, _, _, spec_bhBlock.V g6, ?_⟩; simp (decide := true) only [go_sem, Nat.reduceAdd, Nat.reduceMul, c3, c4, c5]; exact hK) ?_
    rcases ite_orp h with ⟨c7, h⟩ | ⟨c7, h⟩
    ·
     refine AL_then (by simp (decide := true) only [go_sem, Nat.reduceAdd, Nat.reduceMul, c3, c4, c5, c7]) ?_
     obtain ⟨c8, h⟩ := ite_l h
     have c8l := lim8 c8
     replace c8 := eq_true c8
     refine rg0 [2, 3, 7, 10, 11, 12] [32, 208] (fun K hK => by simp (decide := true) only [go_sem, Nat.reduceAdd, Nat.reduceMul, c3, c4, c5, c7, c8l, c8]; exact hK) ?_
     refine blockQ_n ?_
     refine rg0 [2, 3, 7, 10, 11, 12] [32, 208] (fun K hK => by simp (decide := true) only [go_sem, Nat.reduceAdd, Nat.reduceMul, c3, c4, c5, c7, c8l, c8]; exact hK) ?_
     refine AL_again (m := n2) (by omega) ?_
     exact .inr (⟨_, _, _, _, _, _, _, _, by omega, h, At_keep [2, 3, 7, 10, 11, 12] [32, 208]⟩)
    ·
     refine AL_else (by simp (decide := true) only [go_sem, Nat.reduceAdd, Nat.reduceMul, c3, c4, c5, c7]) ?_
     refine AL_skip ?_
     refine blockQ_n ?_
     refine rg0 [2, 3, 7, 10, 11, 12] [32] (fun K hK => by simp (decide := true) only [go_sem, Nat.reduceAdd, Nat.reduceMul, c3, c4, c5, c7]; exact hK) ?_
     refine AL_again (m := n2) (by omega) ?_
     exact .inl ⟨_, _, _, _, _, _, _, by omega, h, At_keep [2, 3, 7, 10, 11, 12] [32]⟩
   ·
    refine AL_else (by simp (decide := true) only [go_sem, Nat.reduceAdd, Nat.reduceMul, c3]) ?_
    refine AL_exit ?_
    repeat first | refine thenQ_x ?_ | refine blockQ_miss (by decide) ?_
    refine blockQ_hit ?_
    refine AL_seq ?_
    refine rg0 [6] [] (fun K hK => by simp (decide := true) only [go_sem, Nat.reduceAdd, Nat.reduceMul, c3]; exact hK) ?_
    obtain rfl := Option.some.inj h
    refine AL_ret (fun _ => rfl) ?_
    exact retF_mk rfl (by exact ⟨trivial, trivial⟩) rfl (by exact rfl) (by exact trivial) (by exact trivial)
  ·
   obtain ⟨x2, x10, x11, x12, x511000, x511001, x511002, x7, hkq9, h, hS⟩ := hS
   rcases n with _ | n10
   · (rw [spec_bhIn.l0] at h; cases h)
   rw [spec_bhIn.l0] at h
   refine AW_at hS ?_
   refine AL_seq ?_
   refine rg0 [2, 3, 7, 10, 11, 12, 13] [32, 208] (fun K hK => by simp (decide := true) only [go_sem, Nat.reduceAdd, Nat.reduceMul]; exact hK) ?_
   refine AL_seq ?_
   rcases ite_orp h with ⟨c11, h⟩ | ⟨c11, h⟩
   ·
    refine AL_then (by simp (decide := true) only [go_sem, Nat.reduceAdd, Nat.reduceMul, c11]) ?_
    refine AL_skip ?_
    refine AL_seq ?_
    refine AL_block ?_
    refine AL_seq ?_
    obtain ⟨c12, h⟩ := ite_lp h
    obtain ⟨c13, h⟩ := ite_lp h
    refine rg0 [2, 3, 7, 8, 9, 10, 11, 12] [32, 80, 208] (fun K hK => by simp (decide := true) only [go_sem, Nat.reduceAdd, Nat.reduceMul, c11, c12, c13]; exact hK) ?_
    refine AL_seq ?_
    obtain ⟨t513, g14, h⟩ := bind_or h
    refine rg0 [2, 3, 7, 8, 10, 11, 12, 21] [32, 208] (fun K hK => by simp (decide := true) only [go_sem, Nat.reduceAdd, Nat.reduceMul, c11, c12, c13]; refine ⟨_, _, _, spec_bhBlock.V g14, ?_⟩; simp (decide := true) only [go_sem, Nat.reduceAdd, Nat.reduceMul, c11, c12, c13]; exact hK) ?_
    rcases ite_orp h with ⟨c15, h⟩ | ⟨c15, h⟩
    ·
     refine AL_then (by simp (decide := true) only [go_sem, Nat.reduceAdd, Nat.reduceMul, c11, c12, c13, c15]) ?_
     obtain ⟨c16, h⟩ := ite_l h
     have c16l := lim8 c16
     replace c16 := eq_true c16
     refine rg0 [2, 3, 7, 10, 11, 12] [32, 208] (fun K hK => by simp (decide := true) only [go_sem, Nat.reduceAdd, Nat.reduceMul, c11, c12, c13, c15, c16l, c16]; exact hK) ?_
     refine blockQ_n ?_
     refine rg0 [2, 3, 7, 10, 11, 12] [32, 208] (fun K hK => by simp (decide := true) only [go_sem, Nat.reduceAdd, Nat.reduceMul, c11, c12, c13, c15, c16l, c16]; exact hK) ?_
     refine AL_again (m := n10) (by omega) ?_
     exact .inr (⟨_, _, _, _, _, _, _, _, by omega, h, At_keep [2, 3, 7, 10, 11, 12] [32, 208]⟩)
    ·
     refine AL_else (by simp (decide := true) only [go_sem, Nat.reduceAdd, Nat.reduceMul, c11, c12, c13, c15]) ?_
     refine AL_skip ?_
     refine blockQ_n ?_
     refine rg0 [2, 3, 7, 10, 11, 12] [32, 208] (fun K hK => by simp (decide := true) only [go_sem, Nat.reduceAdd, Nat.reduceMul, c11, c12, c13, c15]; exact hK) ?_
     refine AL_again (m := n10) (by omega) ?_
     exact .inr (⟨_, _, _, _, _, _, _, _, by omega, h, At_keep [2, 3, 7, 10, 11, 12] [32, 208]⟩)
   ·
    refine AL_else (by simp (decide := true) only [go_sem, Nat.reduceAdd, Nat.reduceMul, c11]) ?_
    refine AL_exit ?_
    repeat first | refine thenQ_x ?_ | refine blockQ_miss (by decide) ?_
    refine blockQ_hit ?_
    refine AL_seq ?_
    refine rg0 [6] [208] (fun K hK => by simp (decide := true) only [go_sem, Nat.reduceAdd, Nat.reduceMul, c11]; exact hK) ?_
    obtain rfl := Option.some.inj h
    refine AL_ret (fun _ => rfl) ?_
    exact retF_mk rfl (by exact ⟨trivial, trivial⟩) rfl (by exact rfl) (by exact trivial) (by exact trivial)
/-! spec_bhMean : 128 -/
set_option maxRecDepth 100000 in
set_option maxHeartbeats 4000000 in
theorem spec_bhMean.V {k : Nat} {a0_0 : Int} {a0_1 : Int} {a0_2 : Int} {l1 : List (S68)} {a2 : Int} {r1 : Int} {r2 : Int} {r3 : Bool} (h : spec_bhMean.f k a0_0 a0_1 a0_2 l1 a2 = some (r1, r2, r3)) : FnV E 128 [.agg [.int .i64 a0_0, .int .i64 a0_1, .int .i64 a0_2], .sl false 5 (mp mkS68 l1), .int .i64 a2] none (.tup [.int .i64 r1, .int .i64 r2, .bool r3]) [] none := by
 refine FnV_list E (rs := [.tmp 6, .tmp 7, .tmp 8]) Try.func128 (by rfl) rfl Try.ntmps128 rfl [] (by simp) rfl (by simp) rfl (fun us => ?_)
 simp only [argsL, memL, wrapL, wrap1, Nat.reduceAdd]
 unfold spec_bhMean.f at h
 refine AL_seq ?_
 refine rg0 [1, 2, 3] [32] (fun K hK => by simp (decide := true) only [go_sem, Nat.reduceAdd, Nat.reduceMul]; exact hK) ?_
 refine AL_seq ?_
 refine rg0 [1, 2, 3, 9, 10] [32] (fun K hK => by simp (decide := true) only [go_sem, Nat.reduceAdd, Nat.reduceMul]; exact hK) ?_
 refine AL_seq ?_
 refine AL_seq ?_
 obtain ⟨t518, g1, h⟩ := bind_or h
 refine rg0 [1, 9, 10, 18, 19, 20] [] (fun K hK => by simp (decide := true) only [go_sem, Nat.reduceAdd, Nat.reduceMul]; refine ⟨_, _, _, spec_bhIn.V g1, ?_⟩; simp (decide := true) only [go_sem, Nat.reduceAdd, Nat.reduceMul]; exact hK) ?_
 refine AL_block ?_
 refine AL_loop (n := k) (fun n S => (∃ x1 x9 x10 x18 x19 x20, n ≤ k ∧ spec_bhMean.l0 n x1 x9 x10 x18 x19 x20 = some (r1, r2, r3) ∧ At [(1, .sl false 5 (mp mkS68 x1)), (9, .int .i64 x9), (10, .int .i64 x10), (18, .sl true 1 (mp mkI x18)), (19, .int .i64 x19), (20, .int .i64 x20)] [] S)) ?_ ?_
 · exact ⟨_, _, _, _, _, _, by omega, h, At_keep [1, 9, 10, 18, 19, 20] []⟩
 ·
  intro n S hS
  obtain ⟨x1, x9, x10, x18, x19, x20, hkq2, h, hS⟩ := hS
  rcases n with _ | n3
  · (rw [spec_bhMean.l0] at h; cases h)
  rw [spec_bhMean.l0] at h
  refine AW_at hS ?_
  refine AL_seq ?_
  refine rg0 [1, 9, 10, 18, 19, 20, 21] [] (fun K hK => by simp (decide := true) only [go_sem, Nat.reduceAdd, Nat.reduceMul]; exact hK) ?_
  refine AL_seq ?_
  rcases ite_orp h with ⟨c4, h⟩ | ⟨c4, h⟩
  ·
   refine AL_then (by simp (decide := true) only [go_sem, Nat.reduceAdd, Nat.reduceMul, c4]) ?_
   refine AL_skip ?_
   refine AL_seq ?_
   refine AL_block ?_
   refine AL_seq ?_
   obtain ⟨c5, h⟩ := ite_lp h
   obtain ⟨c6, h⟩ := ite_lp h
   refine rg0 [1, 9, 10, 12, 18, 19, 20] [] (fun K hK => by simp (decide := true) only [go_sem, Nat.reduceAdd, Nat.reduceMul, c4, c5, c6]; exact hK) ?_
   refine AL_seq ?_
   obtain ⟨c7, h⟩ := ite_lp h
   obtain ⟨c8, h⟩ := ite_lp h
   refine rg0 [1, 9, 10, 12, 18, 19, 20] [] (fun K hK => by simp (decide := true) only [go_sem, Nat.reduceAdd, Nat.reduceMul, c4, c5, c6, c7, c8]; exact hK) ?_
   refine rg0 [1, 9, 10, 18, 19, 20] [] (fun K hK => by simp (decide := true) (maxSteps := 4000000) only [go_sem, Nat.reduceAdd, Nat.reduceMul, c4, c5, c6, c7, c8]; exact hK) ?_
   refine blockQ_n ?_
   refine rg0 [1, 9, 10, 18, 19, 20] [] (fun K hK => by simp (decide := true) only [go_sem, Nat.reduceAdd, Nat.reduceMul, c4, c5, c6, c7, c8]; exact hK) ?_
   refine AL_again (m := n3) (by omega) ?_
   exact ⟨_, _, _, _, _, _, by omega, h, At_keep [1, 9, 10, 18, 19, 20] []⟩
  ·
   refine AL_else (by simp (decide := true) only [go_sem, Nat.reduceAdd, Nat.reduceMul, c4]) ?_
   refine AL_exit ?_
   repeat first | refine thenQ_x ?_ | refine blockQ_miss (by decide) ?_
   refine blockQ_hit ?_
   refine AL_seq ?_
   refine AL_seq ?_
   refine rg0 [9, 10, 46] [] (fun K hK => by simp (decide := true) only [go_sem, Nat.reduceAdd, Nat.reduceMul, c4]; exact hK) ?_
   rcases ite_orp h with ⟨c9, h⟩ | ⟨c9, h⟩
   ·
    refine AL_then (by simp (decide := true) only [go_sem, Nat.reduceAdd, Nat.reduceMul, c4, c9]) ?_
    refine AL_seq ?_
    refine rg0 [6, 7, 8] [] (fun K hK => by simp (decide := true) only [go_sem, Nat.reduceAdd, Nat.reduceMul, c4, c9]; exact hK) ?_
    replace h := Option.some.inj h
    obtain ⟨rfl, h1⟩ := Prod.mk.inj h
    obtain ⟨rfl, rfl⟩ := Prod.mk.inj h1
    refine AL_ret (fun _ => rfl) ?_
    exact retF_mk rfl (by exact ⟨trivial, trivial, trivial, trivial⟩) rfl (by exact ⟨rfl, rfl, rfl, trivial⟩) (by exact trivial) (by exact trivial)
   ·
    refine AL_else (by simp (decide := true) only [go_sem, Nat.reduceAdd, Nat.reduceMul, c4, c9]) ?_
    refine AL_skip ?_
    refine AL_seq ?_
    obtain ⟨⟨t525, t526⟩, g10, h⟩ := bind_or h
    dsimp only at h
    refine rg0 [13, 14] [] (fun K hK => by simp (decide := true) only [go_sem, Nat.reduceAdd, Nat.reduceMul, c4, c9]; refine ⟨_, _, _, spec_moPart.V g10, ?_⟩; simp (decide := true) only [go_sem, Nat.reduceAdd, Nat.reduceMul, c4, c9]; exact hK) ?_
    refine AL_seq ?_
    refine rg0 [6, 7, 8] [] (fun K hK => by simp (decide := true) only [go_sem, Nat.reduceAdd, Nat.reduceMul, c4, c9]; exact hK) ?_
    replace h := Option.some.inj h
    obtain ⟨rfl, h1⟩ := Prod.mk.inj h
    obtain ⟨rfl, rfl⟩ := Prod.mk.inj h1
    refine AL_ret (fun _ => rfl) ?_
    exact retF_mk rfl (by exact ⟨trivial, trivial, trivial, trivial⟩) rfl (by exact ⟨rfl, rfl, rfl, trivial⟩) (by exact trivial) (by exact trivial)
/-! spec_bhRound : 134 -/
set_option maxRecDepth 100000 in
set_option maxHeartbeats 4000000 in
theorem spec_bhRound.V {a0 : Int} {a1 : Int} {r : Int} (h : spec_bhRound.f a0 a1 = some r) : FnV E 134 [.int .i64 a0, .int .i64 a1] none (.int .i64 r) [] none := by
 refine FnV_list E (rs := [.tmp 4]) Try.func134 (by rfl) rfl Try.ntmps134 rfl [] (by simp) rfl (by simp) rfl (fun us => ?_)
 simp only [argsL, memL, wrapL, wrap1, Nat.reduceAdd]
 unfold spec_bhRound.f at h
 refine AL_seq ?_
 refine rg0 [0, 1] [] (fun K hK => by simp (decide := true) only [go_sem, Nat.reduceAdd, Nat.reduceMul]; exact hK) ?_
 refine AL_seq ?_
 obtain ⟨c1, h⟩ := ite_rp h
 refine rg0 [4] [] (fun K hK => by simp (decide := true) only [go_sem, Nat.reduceAdd, Nat.reduceMul, c1]; exact hK) ?_
 obtain rfl := Option.some.inj h
 refine AL_ret (fun _ => rfl) ?_
 exact retF_mk rfl (by exact ⟨trivial, trivial⟩) rfl (by exact rfl) (by exact trivial) (by exact trivial)
/-! spec_UpdateModel : 50 -/
set_option maxRecDepth 100000 in
set_option maxHeartbeats 4000000 in
theorem spec_UpdateModel.V {k : Nat} {a0_0 : Int} {a0_1 : Int} {a0_2 : Int} {l0_3 : List Int} {l0_4 : List Int} {l0_5 : List Int} {l1 : List (S68)} {r1 : Int} {r2 : Int} {r3 : Int} {r4 : List Int} {r5 : List Int} {r6 : List Int} {r7 : Bool} (h : spec_UpdateModel.f k a0_0 a0_1 a0_2 l0_3 l0_4 l0_5 l1 = some (r1, r2, r3, r4, r5, r6, r7)) : FnV E 50 [.agg [.int .i64 a0_0, .int .i64 a0_1, .int .i64 a0_2, .sl false 1 (mp mkI l0_3), .sl false 1 (mp mkI l0_4), .sl false 1 (mp mkI l0_5)], .sl false 5 (mp mkS68 l1)] none (.tup [.agg [.int .i64 r1, .int .i64 r2, .int .i64 r3, .sl true 1 (mp mkI r4), .sl true 1 (mp mkI r5), .sl true 1 (mp mkI r6)], .bool r7]) [] none := by
 refine FnV_list E (rs := [.cell 4 27, .tmp 5]) Try.func50 (by rfl) rfl Try.ntmps50 rfl [] (by simp) rfl (by simp) rfl (fun us => ?_)
 simp only [argsL, memL, wrapL, wrap1, Nat.reduceAdd]
 unfold spec_UpdateModel.f at h
 refine AL_seq ?_
 refine rg0 [1, 2, 4] [24, 40] (fun K hK => by simp (decide := true) only [go_sem, Nat.reduceAdd, Nat.reduceMul]; exact hK) ?_
 refine AL_seq ?_
 refine AL_seq ?_
 refine AL_cut (fun S => (∃ kk : Nat, ∃ x1 x20 x528000 x528001 x528002 x528003 x528004 x528005 x529000 x529001 x529002, kk ≤ k ∧ spec_UpdateModel.j0 kk x1 x20 x528000 x528001 x528002 x528003 x528004 x528005 = some (r1, r2, r3, r4, r5, r6, r7) ∧ At [(1, .sl false 5 (mp mkS68 x1)), (2, .ptr 24 0 0), (4, .ptr 40 0 0), (20, .bool x20)] [(24, some (.box [.int .i64 x528000, .int .i64 x528001, .int .i64 x528002, .sl false 1 (mp mkI x528003), .sl false 1 (mp mkI x528004), .sl false 1 (mp mkI x528005)])), (40, some (.box [.int .i64 x529000, .int .i64 x529001, .int .i64 x529002, .nil, .nil, .nil]))] S)) ?_ ?_
 ·
  obtain ⟨t529, g1, h⟩ := bind_or h
  rcases ite_orb h with ⟨c2, h⟩ | ⟨c2, h⟩
  ·
   obtain ⟨t530, g3, h⟩ := bind_or h
   refine rg1 [1, 2, 4, 20] [24, 40] [(3, 14)] (fun K hK => by simp (decide := true) only [go_sem, Nat.reduceAdd, Nat.reduceMul, c2]; refine ⟨_, _, _, spec_moGood.V g1, ?_⟩; simp (decide := true) only [go_sem, Nat.reduceAdd, Nat.reduceMul, c2]; refine ⟨_, _, _, spec_bhList.V g3, ?_⟩; simp (decide := true) only [go_sem, Nat.reduceAdd, Nat.reduceMul, c2]; exact hK) ?_
   refine AL_meet ?_
   exact ⟨_, _, _, _, _, _, _, _, _, _, _, _, by omega, h, At_keep [1, 2, 4, 20] [24, 40]⟩
  ·
   refine rg1 [1, 2, 4, 20] [24, 40] [(3, 14)] (fun K hK => by simp (decide := true) only [go_sem, Nat.reduceAdd, Nat.reduceMul, c2]; refine ⟨_, _, _, spec_moGood.V g1, ?_⟩; simp (decide := true) only [go_sem, Nat.reduceAdd, Nat.reduceMul, c2]; exact hK) ?_
   refine AL_meet ?_
   exact ⟨_, _, _, _, _, _, _, _, _, _, _, _, by omega, h, At_keep [1, 2, 4, 20] [24, 40]⟩
 ·
  intro S hS
  obtain ⟨kk4, x1, x20, x528000, x528001, x528002, x528003, x528004, x528005, x529000, x529001, x529002, hkq5, h, hS⟩ := hS
  rcases kk4 with _ | n6
  · (rw [spec_UpdateModel.j0] at h; cases h)
  rw [spec_UpdateModel.j0] at h
  refine AW_at hS ?_
  rcases ite_orb h with ⟨c7, h⟩ | ⟨c7, h⟩
  ·
   refine AL_then (by simp (decide := true) only [go_sem, Nat.reduceAdd, Nat.reduceMul, c7]) ?_
   refine AL_seq ?_
   refine rg0 [4, 5] [40] (fun K hK => by simp (decide := true) only [go_sem, Nat.reduceAdd, Nat.reduceMul, c7]; exact hK) ?_
   replace h := Option.some.inj h
   obtain ⟨rfl, h1⟩ := Prod.mk.inj h
   obtain ⟨rfl, h2⟩ := Prod.mk.inj h1
   obtain ⟨rfl, h3⟩ := Prod.mk.inj h2
   obtain ⟨rfl, h4⟩ := Prod.mk.inj h3
   obtain ⟨rfl, h5⟩ := Prod.mk.inj h4
   obtain ⟨rfl, rfl⟩ := Prod.mk.inj h5
   refine AL_ret (fun _ => rfl) ?_
   exact retF_mk rfl (by exact ⟨(by simp), trivial, trivial⟩) rfl (by exact ⟨⟨rfl, rfl, rfl, rfl, rfl, rfl, trivial⟩, rfl, trivial⟩) (by exact trivial) (by exact trivial)
  ·
   refine AL_else (by simp (decide := true) only [go_sem, Nat.reduceAdd, Nat.reduceMul, c7]) ?_
   refine AL_skip ?_
   refine AL_seq ?_
   obtain ⟨⟨t531, t532, t533, t534, t537, t540⟩, g8, h⟩ := bind_or h
   dsimp only at h
   refine rg0 [1, 2, 4, 6] [24, 40, 56, 192, 193, 194] (fun K hK => by simp (decide := true) only [go_sem, Nat.reduceAdd, Nat.reduceMul, c7]; refine ⟨_, _, _, spec_moOwn.W g8, ?_⟩; simp (decide := true) only [go_sem, Nat.reduceAdd, Nat.reduceMul, c7]; exact hK) ?_
   refine AL_seq ?_
   refine AL_seq ?_
   refine rg0 [1, 2, 4, 6, 26, 27] [24, 40, 56, 192, 193, 194] (fun K hK => by simp (decide := true) only [go_sem, Nat.reduceAdd, Nat.reduceMul, c7]; exact hK) ?_
   refine AL_block ?_
   refine AL_loop (n := n6) (fun n S => (∃ x1 x26 x27 x528000 x528001 x528002 x528003 x528004 x528005 x529000 x529001 x529002 x544000 x544001 x544002 x544003 x544004 x544005, n ≤ n6 ∧ spec_UpdateModel.l0 n x1 x26 x27 x528000 x528001 x528002 x528003 x528004 x528005 x544000 x544001 x544002 x544003 x544004 x544005 = some (r1, r2, r3, r4, r5, r6, r7) ∧ At [(1, .sl false 5 (mp mkS68 x1)), (2, .ptr 24 0 0), (4, .ptr 40 0 0), (6, .ptr 56 0 0), (26, .int .i64 x26), (27, .int .i64 x27)] [(24, some (.box [.int .i64 x528000, .int .i64 x528001, .int .i64 x528002, .sl false 1 (mp mkI x528003), .sl false 1 (mp mkI x528004), .sl false 1 (mp mkI x528005)])), (40, some (.box [.int .i64 x529000, .int .i64 x529001, .int .i64 x529002, .nil, .nil, .nil])), (56, some (.box [.int .i64 x544000, .int .i64 x544001, .int .i64 x544002, .ref 192, .ref 193, .ref 194])), (192, some (.row 3 1 (mp mkI x544003))), (193, some (.row 3 1 (mp mkI x544004))), (194, some (.row 3 1 (mp mkI x544005)))] S)) ?_ ?_
   · exact ⟨_, _, _, _, _, _, _, _, _, _, _, _, _, _, _, _, _, _, by omega, h, At_keep [1, 2, 4, 6, 26, 27] [24, 40, 56, 192, 193, 194]⟩
   ·
    intro n S hS
    obtain ⟨x1, x26, x27, x528000, x528001, x528002, x528003, x528004, x528005, x529000, x529001, x529002, x544000, x544001, x544002, x544003, x544004, x544005, hkq9, h, hS⟩ := hS
    rcases n with _ | n10
    · (rw [spec_UpdateModel.l0] at h; cases h)
    rw [spec_UpdateModel.l0] at h
    refine AW_at hS ?_
    refine AL_seq ?_
    refine rg0 [1, 2, 4, 6, 26, 27, 28] [24, 40, 56, 192, 193, 194] (fun K hK => by simp (decide := true) only [go_sem, Nat.reduceAdd, Nat.reduceMul]; exact hK) ?_
    refine AL_seq ?_
    rcases ite_orp h with ⟨c11, h⟩ | ⟨c11, h⟩
    ·
     refine AL_then (by simp (decide := true) only [go_sem, Nat.reduceAdd, Nat.reduceMul, c11]) ?_
     refine AL_skip ?_
     refine AL_seq ?_
     refine AL_block ?_
     refine AL_seq ?_
     refine rg0 [1, 2, 4, 6, 7, 26, 27] [24, 40, 56, 192, 193, 194] (fun K hK => by simp (decide := true) only [go_sem, Nat.reduceAdd, Nat.reduceMul, c11]; exact hK) ?_
     refine AL_seq ?_
     obtain ⟨⟨t544, t545, t546⟩, g12, h⟩ := bind_or h
     dsimp only at h
     refine rg0 [1, 2, 4, 6, 7, 8, 9, 10, 26, 27] [24, 40, 56, 192, 193, 194] (fun K hK => by simp (decide := true) (maxSteps := 4000000) only [go_sem, Nat.reduceAdd, Nat.reduceMul, c11]; refine ⟨_, _, _, spec_bhMean.V g12, ?_⟩; simp (decide := true) (maxSteps := 4000000) only [go_sem, Nat.reduceAdd, Nat.reduceMul, c11]; exact hK) ?_
     refine AL_seq ?_
     refine rg0 [1, 2, 4, 6, 7, 8, 9, 26, 27, 39] [24, 40, 56, 192, 193, 194] (fun K hK => by simp (decide := true) only [go_sem, Nat.reduceAdd, Nat.reduceMul, c11]; exact hK) ?_
     rcases ite_orb h with ⟨c13, h⟩ | ⟨c13, h⟩
     ·
      refine AL_then (by simp (decide := true) only [go_sem, Nat.reduceAdd, Nat.reduceMul, c11, c13]) ?_
      obtain ⟨t547, g14, h⟩ := bind_or h
      obtain ⟨c15, h⟩ := ite_lp h
      obtain ⟨c16, h⟩ := ite_lp h
      refine rg0 [1, 2, 4, 6, 26, 27] [24, 40, 56, 192, 193, 194] (fun K hK => by simp (decide := true) only [go_sem, Nat.reduceAdd, Nat.reduceMul, c11, c13, c15, c16]; refine ⟨_, _, _, spec_bhRound.V g14, ?_⟩; simp (decide := true) only [go_sem, Nat.reduceAdd, Nat.reduceMul, c11, c13, c15, c16]; exact hK) ?_
      refine blockQ_n ?_
      refine rg0 [1, 2, 4, 6, 26, 27] [24, 40, 56, 192, 193, 194] (fun K hK => by simp (decide := true) only [go_sem, Nat.reduceAdd, Nat.reduceMul, c11, c13, c15, c16]; exact hK) ?_
      refine AL_again (m := n10) (by omega) ?_
      exact ⟨_, _, _, _, _, _, _, _, _, _, _, _, _, _, _, _, _, _, by omega, h, At_keep [1, 2, 4, 6, 26, 27] [24, 40, 56, 192, 193, 194]⟩
     ·
      refine AL_else (by simp (decide := true) only [go_sem, Nat.reduceAdd, Nat.reduceMul, c11, c13]) ?_
      refine AL_skip ?_
      refine blockQ_n ?_
      refine rg0 [1, 2, 4, 6, 26, 27] [24, 40, 56, 192, 193, 194] (fun K hK => by simp (decide := true) only [go_sem, Nat.reduceAdd, Nat.reduceMul, c11, c13]; exact hK) ?_
      refine AL_again (m := n10) (by omega) ?_
      exact ⟨_, _, _, _, _, _, _, _, _, _, _, _, _, _, _, _, _, _, by omega, h, At_keep [1, 2, 4, 6, 26, 27] [24, 40, 56, 192, 193, 194]⟩
    ·
     refine AL_else (by simp (decide := true) only [go_sem, Nat.reduceAdd, Nat.reduceMul, c11]) ?_
     refine AL_exit ?_
     repeat first | refine thenQ_x ?_ | refine blockQ_miss (by decide) ?_
     refine blockQ_hit ?_
     refine AL_seq ?_
     refine rg0 [4, 5] [40, 192, 193, 194] (fun K hK => by simp (decide := true) only [go_sem, Nat.reduceAdd, Nat.reduceMul, c11]; exact hK) ?_
     replace h := Option.some.inj h
     obtain ⟨rfl, h1⟩ := Prod.mk.inj h
     obtain ⟨rfl, h2⟩ := Prod.mk.inj h1
     obtain ⟨rfl, h3⟩ := Prod.mk.inj h2
     obtain ⟨rfl, h4⟩ := Prod.mk.inj h3
     obtain ⟨rfl, h5⟩ := Prod.mk.inj h4
     obtain ⟨rfl, rfl⟩ := Prod.mk.inj h5
     refine AL_ret (fun _ => rfl) ?_
     exact retF_mk rfl (by exact ⟨(by simp), trivial, trivial⟩) rfl (by exact ⟨⟨rfl, rfl, rfl, rfl, rfl, rfl, trivial⟩, rfl, trivial⟩) (by exact trivial) (by exact trivial)
/-! spec_l1Cur_model : 183 -/
set_option maxRecDepth 100000 in
set_option maxHeartbeats 4000000 in
theorem spec_l1Cur_model.V {k : Nat} {s0_0 : List Int} {s0_1 : Int} {s0_2 : Int} {r1 : Int} {r2 : Int} {r3 : Int} {r4 : List Int} {r5 : List Int} {r6 : List Int} {r7 : Int} {r8 : Int} (h : spec_l1Cur_model.f k s0_0 s0_1 s0_2 = some (r1, r2, r3, r4, r5, r6, r7, r8)) : FnV E 183 [.ptr 0 0 0] (some [.sl false 1 (mp mkB s0_0), .int .i64 s0_1, .int .u64 s0_2]) (.agg [.int .i64 r1, .int .i64 r2, .int .i64 r3, .sl true 1 (mp mkI r4), .sl true 1 (mp mkI r5), .sl true 1 (mp mkI r6)]) [] (some [.sl false 1 (mp mkB s0_0), .int .i64 r7, .int .u64 r8]) := by
 refine FnV_list E (rs := [.cell 2 27]) Try.func183 (by rfl) rfl Try.ntmps183 rfl [] (by simp) rfl (by simp) rfl (fun us => ?_)
 simp only [argsL, memL, wrapL, wrap1, Nat.reduceAdd]
 unfold spec_l1Cur_model.f at h
 refine AL_seq ?_
 refine rg0 [0, 2] [0, 24] (fun K hK => by simp (decide := true) only [go_sem, Nat.reduceAdd, Nat.reduceMul]; exact hK) ?_
 refine AL_seq ?_
 obtain ⟨⟨t550, t551, t552, t553, t554⟩, g1, h⟩ := bind_or h
 dsimp only at h
 refine rg0 [0, 2, 3] [0, 24, 32] (fun K hK => by simp (decide := true) only [go_sem, Nat.reduceAdd, Nat.reduceMul]; refine ⟨_, _, _, spec_l1Cur_grid.V g1, ?_⟩; simp (decide := true) only [go_sem, Nat.reduceAdd, Nat.reduceMul]; exact hK) ?_
 refine AL_seq ?_
 refine AL_seq ?_
 obtain ⟨t556, g2, h⟩ := bind_or h
 refine rg0 [0, 2, 3, 4] [0, 24, 32] (fun K hK => by simp (decide := true) only [go_sem, Nat.reduceAdd, Nat.reduceMul]; refine ⟨_, _, _, spec_grCount.V g2, ?_⟩; simp (decide := true) only [go_sem, Nat.reduceAdd, Nat.reduceMul]; exact hK) ?_
 refine AL_block ?_
 refine AL_loop (n := k) (fun n S => (∃ x4 x1001 x1002 x550000 x550001 x550002 x556000 x556001 x556002, n ≤ k ∧ spec_l1Cur_model.l0 n x4 s0_0 x1001 x1002 x556000 x556001 x556002 ([] : List Int) ([] : List Int) ([] : List Int) = some (r1, r2, r3, r4, r5, r6, r7, r8) ∧ At [(0, .ptr 0 0 0), (2, .ptr 24 0 0), (3, .ptr 32 0 0), (4, .int .i64 x4)] [(0, some (.box [.con (us 0) (.sl false 1 (mp mkB s0_0)), .int .i64 x1001, .int .u64 x1002])), (24, some (.box [.int .i64 x550000, .int .i64 x550001, .int .i64 x550002, .nil, .nil, .nil])), (32, some (.box [.int .i64 x556000, .int .i64 x556001, .int .i64 x556002, .nil, .nil, .nil]))] S) ∨ (∃ x4 x1001 x1002 x550000 x550001 x550002 x556000 x556001 x556002 x556003 x556004 x556005, n ≤ k ∧ spec_l1Cur_model.l0 n x4 s0_0 x1001 x1002 x556000 x556001 x556002 x556003 x556004 x556005 = some (r1, r2, r3, r4, r5, r6, r7, r8) ∧ At [(0, .ptr 0 0 0), (2, .ptr 24 0 0), (3, .ptr 32 0 0), (4, .int .i64 x4)] [(0, some (.box [.con (us 0) (.sl false 1 (mp mkB s0_0)), .int .i64 x1001, .int .u64 x1002])), (24, some (.box [.int .i64 x550000, .int .i64 x550001, .int .i64 x550002, .nil, .nil, .nil])), (32, some (.box [.int .i64 x556000, .int .i64 x556001, .int .i64 x556002, .ref 192, .ref 272, .ref 328])), (192, some (.row 3 1 (mp mkI x556003))), (272, some (.row 3 1 (mp mkI x556004))), (328, some (.row 3 1 (mp mkI x556005)))] S)) ?_ ?_
 · exact .inl ⟨_, _, _, _, _, _, _, _, _, by omega, h, At_keep [0, 2, 3, 4] [0, 24, 32]⟩
 ·
  intro n S hS
  rcases hS with hS | hS
  ·
   obtain ⟨x4, x1001, x1002, x550000, x550001, x550002, x556000, x556001, x556002, hkq3, h, hS⟩ := hS
   rcases n with _ | n4
   · (rw [spec_l1Cur_model.l0] at h; cases h)
   rw [spec_l1Cur_model.l0] at h
   refine AW_at hS ?_
   refine AL_seq ?_
   refine AL_seq ?_
   refine rg0 [0, 2, 3, 4, 12] [0, 24, 32] (fun K hK => by simp (decide := true) only [go_sem, Nat.reduceAdd, Nat.reduceMul]; exact hK) ?_
   rcases ite_orp h with ⟨c5, h⟩ | ⟨c5, h⟩
   ·
    refine AL_then (by simp (decide := true) only [go_sem, Nat.reduceAdd, Nat.reduceMul, c5]) ?_
    refine AL_skip ?_
    refine AL_seq ?_
    refine AL_block ?_
    refine AL_seq ?_
    obtain ⟨⟨t557, t558, t559⟩, g6, h⟩ := bind_or h
    dsimp only at h
    obtain ⟨⟨t563, t564, t565⟩, g7, h⟩ := bind_or h
    dsimp only at h
    obtain ⟨c8, h⟩ := ite_l h
    have c8l := lim8 c8
    replace c8 := eq_true c8
    refine rg2 [0, 2, 3, 4] [0, 24, 32, 192] [] ⟨[16], [19, 21], [0]⟩ [] (fun K hK => by simp (decide := true) (maxSteps := 4000000) only [go_sem, Nat.reduceAdd, Nat.reduceMul, c5, c8l, c8]; refine ⟨_, _, _, spec_l1Cur_pick.V g6, ?_⟩; simp (decide := true) (maxSteps := 4000000) only [go_sem, Nat.reduceAdd, Nat.reduceMul, c5, c8l, c8]; refine ⟨_, _, _, spec_l1Cur_among.V g7, ?_⟩; simp (decide := true) (maxSteps := 4000000) only [go_sem, Nat.reduceAdd, Nat.reduceMul, c5, c8l, c8]; exact hK) ?_
    refine AL_seq ?_
    obtain ⟨⟨t569, t570, t571⟩, g9, h⟩ := bind_or h
    dsimp only at h
    obtain ⟨⟨t575, t576, t577⟩, g10, h⟩ := bind_or h
    dsimp only at h
    obtain ⟨c11, h⟩ := ite_l h
    have c11l := lim8 c11
    replace c11 := eq_true c11
    refine rg2 [0, 2, 3, 4] [0, 24, 32, 192, 272] [] ⟨[26], [29, 31], [0]⟩ [] (fun K hK => by simp (decide := true) (maxSteps := 4000000) only [go_sem, Nat.reduceAdd, Nat.reduceMul, c5, c8l, c8, c11l, c11]; refine ⟨_, _, _, spec_l1Cur_pick.V g9, ?_⟩; simp (decide := true) (maxSteps := 4000000) only [go_sem, Nat.reduceAdd, Nat.reduceMul, c5, c8l, c8, c11l, c11]; refine ⟨_, _, _, spec_l1Cur_among.V g10, ?_⟩; simp (decide := true) (maxSteps := 4000000) only [go_sem, Nat.reduceAdd, Nat.reduceMul, c5, c8l, c8, c11l, c11]; exact hK) ?_
    obtain ⟨⟨t581, t582, t583⟩, g12, h⟩ := bind_or h
    dsimp only at h
    obtain ⟨c13, h⟩ := ite_l h
    have c13l := lim8 c13
    replace c13 := eq_true c13
    refine rg2 [0, 2, 3, 4] [0, 24, 32, 192, 272, 328] [] ⟨[36], [38], [0]⟩ [] (fun K hK => by simp (decide := true) only [go_sem, Nat.reduceAdd, Nat.reduceMul, c5, c8l, c8, c11l, c11, c13l, c13]; refine ⟨_, _, _, spec_l1Cur_pick.V g12, ?_⟩; simp (decide := true) only [go_sem, Nat.reduceAdd, Nat.reduceMul, c5, c8l, c8, c11l, c11, c13l, c13]; exact hK) ?_
    refine blockQ_n ?_
    refine rg0 [0, 2, 3, 4] [0, 24, 32, 192, 272, 328] (fun K hK => by simp (decide := true) only [go_sem, Nat.reduceAdd, Nat.reduceMul, c5, c8l, c8, c11l, c11, c13l, c13]; exact hK) ?_
    refine AL_again (m := n4) (by omega) ?_
    exact .inr (⟨_, _, _, _, _, _, _, _, _, _, _, _, by omega, h, At_keep [0, 2, 3, 4] [0, 24, 32, 192, 272, 328]⟩)
   ·
    refine AL_else (by simp (decide := true) only [go_sem, Nat.reduceAdd, Nat.reduceMul, c5]) ?_
    refine AL_exit ?_
    repeat first | refine thenQ_x ?_ | refine blockQ_miss (by decide) ?_
    refine blockQ_hit ?_
    refine AL_seq ?_
    refine rg0 [2] [0, 24] (fun K hK => by simp (decide := true) only [go_sem, Nat.reduceAdd, Nat.reduceMul, c5]; exact hK) ?_
    replace h := Option.some.inj h
    obtain ⟨rfl, h1⟩ := Prod.mk.inj h
    obtain ⟨rfl, h2⟩ := Prod.mk.inj h1
    obtain ⟨rfl, h3⟩ := Prod.mk.inj h2
    obtain ⟨rfl, h4⟩ := Prod.mk.inj h3
    obtain ⟨rfl, h5⟩ := Prod.mk.inj h4
    obtain ⟨rfl, h6⟩ := Prod.mk.inj h5
    obtain ⟨rfl, rfl⟩ := Prod.mk.inj h6
    refine AL_ret (fun _ => rfl) ?_
    exact retF_mk rfl (by exact ⟨(by simp), trivial⟩) rfl (by exact ⟨rfl, rfl, rfl, rfl, rfl, rfl, trivial⟩) (by exact trivial) (by exact ⟨rfl, rfl⟩)
  ·
   obtain ⟨x4, x1001, x1002, x550000, x550001, x550002, x556000, x556001, x556002, x556003, x556004, x556005, hkq14, h, hS⟩ := hS
   rcases n with _ | n15
   · (rw [spec_l1Cur_model.l0] at h; cases h)
   rw [spec_l1Cur_model.l0] at h
   refine AW_at hS ?_
   refine AL_seq ?_
   refine AL_seq ?_
   refine rg0 [0, 2, 3, 4, 12] [0, 24, 32, 192, 272, 328] (fun K hK => by simp (decide := true) only [go_sem, Nat.reduceAdd, Nat.reduceMul]; exact hK) ?_
   rcases ite_orp h with ⟨c16, h⟩ | ⟨c16, h⟩
   ·
    refine AL_then (by simp (decide := true) only [go_sem, Nat.reduceAdd, Nat.reduceMul, c16]) ?_
    refine AL_skip ?_
    refine AL_seq ?_
    refine AL_block ?_
    refine AL_seq ?_
    obtain ⟨⟨t557, t558, t559⟩, g17, h⟩ := bind_or h
    dsimp only at h
    obtain ⟨⟨t563, t564, t565⟩, g18, h⟩ := bind_or h
    dsimp only at h
    obtain ⟨c19, h⟩ := ite_l h
    have c19l := lim8 c19
    replace c19 := eq_true c19
    refine rg2 [0, 2, 3, 4] [0, 24, 32, 192, 272, 328] [] ⟨[16], [19, 21], [0]⟩ [] (fun K hK => by simp (decide := true) (maxSteps := 4000000) only [go_sem, Nat.reduceAdd, Nat.reduceMul, c16, c19l, c19]; refine ⟨_, _, _, spec_l1Cur_pick.V g17, ?_⟩; simp (decide := true) (maxSteps := 4000000) only [go_sem, Nat.reduceAdd, Nat.reduceMul, c16, c19l, c19]; refine ⟨_, _, _, spec_l1Cur_among.V g18, ?_⟩; simp (decide := true) (maxSteps := 4000000) only [go_sem, Nat.reduceAdd, Nat.reduceMul, c16, c19l, c19]; exact hK) ?_
    refine AL_seq ?_
    obtain ⟨⟨t569, t570, t571⟩, g20, h⟩ := bind_or h
    dsimp only at h
    obtain ⟨⟨t575, t576, t577⟩, g21, h⟩ := bind_or h
    dsimp only at h
    obtain ⟨c22, h⟩ := ite_l h
    have c22l := lim8 c22
    replace c22 := eq_true c22
    refine rg2 [0, 2, 3, 4] [0, 24, 32, 192, 272, 328] [] ⟨[26], [29, 31], [0]⟩ [] (fun K hK => by simp (decide := true) (maxSteps := 4000000) only [go_sem, Nat.reduceAdd, Nat.reduceMul, c16, c19l, c19, c22l, c22]; refine ⟨_, _, _, spec_l1Cur_pick.V g20, ?_⟩; simp (decide := true) (maxSteps := 4000000) only [go_sem, Nat.reduceAdd, Nat.reduceMul, c16, c19l, c19, c22l, c22]; refine ⟨_, _, _, spec_l1Cur_among.V g21, ?_⟩; simp (decide := true) (maxSteps := 4000000) only [go_sem, Nat.reduceAdd, Nat.reduceMul, c16, c19l, c19, c22l, c22]; exact hK) ?_
    obtain ⟨⟨t581, t582, t583⟩, g23, h⟩ := bind_or h
    dsimp only at h
    obtain ⟨c24, h⟩ := ite_l h
    have c24l := lim8 c24
    replace c24 := eq_true c24
    refine rg2 [0, 2, 3, 4] [0, 24, 32, 192, 272, 328] [] ⟨[36], [38], [0]⟩ [] (fun K hK => by simp (decide := true) only [go_sem, Nat.reduceAdd, Nat.reduceMul, c16, c19l, c19, c22l, c22, c24l, c24]; refine ⟨_, _, _, spec_l1Cur_pick.V g23, ?_⟩; simp (decide := true) only [go_sem, Nat.reduceAdd, Nat.reduceMul, c16, c19l, c19, c22l, c22, c24l, c24]; exact hK) ?_
    refine blockQ_n ?_
    refine rg0 [0, 2, 3, 4] [0, 24, 32, 192, 272, 328] (fun K hK => by simp (decide := true) only [go_sem, Nat.reduceAdd, Nat.reduceMul, c16, c19l, c19, c22l, c22, c24l, c24]; exact hK) ?_
    refine AL_again (m := n15) (by omega) ?_
    exact .inr (⟨_, _, _, _, _, _, _, _, _, _, _, _, by omega, h, At_keep [0, 2, 3, 4] [0, 24, 32, 192, 272, 328]⟩)
   ·
    refine AL_else (by simp (decide := true) only [go_sem, Nat.reduceAdd, Nat.reduceMul, c16]) ?_
    refine AL_exit ?_
    repeat first | refine thenQ_x ?_ | refine blockQ_miss (by decide) ?_
    refine blockQ_hit ?_
    refine AL_seq ?_
    refine rg0 [2] [0, 24, 192, 272, 328] (fun K hK => by simp (decide := true) only [go_sem, Nat.reduceAdd, Nat.reduceMul, c16]; exact hK) ?_
    replace h := Option.some.inj h
    obtain ⟨rfl, h1⟩ := Prod.mk.inj h
    obtain ⟨rfl, h2⟩ := Prod.mk.inj h1
    obtain ⟨rfl, h3⟩ := Prod.mk.inj h2
    obtain ⟨rfl, h4⟩ := Prod.mk.inj h3
    obtain ⟨rfl, h5⟩ := Prod.mk.inj h4
    obtain ⟨rfl, h6⟩ := Prod.mk.inj h5
    obtain ⟨rfl, rfl⟩ := Prod.mk.inj h6
    refine AL_ret (fun _ => rfl) ?_
    exact retF_mk rfl (by exact ⟨(by simp), trivial⟩) rfl (by exact ⟨rfl, rfl, rfl, rfl, rfl, rfl, trivial⟩) (by exact trivial) (by exact ⟨rfl, rfl⟩)
set_option maxRecDepth 100000 in
set_option maxHeartbeats 4000000 in
theorem spec_l1Cur_model.W {k : Nat} {s0_0 : List Int} {s0_1 : Int} {s0_2 : Int} {r1 : Int} {r2 : Int} {r3 : Int} {r4 : List Int} {r5 : List Int} {r6 : List Int} {r7 : Int} {r8 : Int} (h : spec_l1Cur_model.f k s0_0 s0_1 s0_2 = some (r1, r2, r3, r4, r5, r6, r7, r8)) (hz : ¬ (r4 = [] ∧ r5 = [] ∧ r6 = [])) : FnV E 183 [.ptr 0 0 0] (some [.sl false 1 (mp mkB s0_0), .int .i64 s0_1, .int .u64 s0_2]) (.agg [.int .i64 r1, .int .i64 r2, .int .i64 r3, .ref 0, .ref 1, .ref 2]) [(3, 1, mp mkI r4), (3, 1, mp mkI r5), (3, 1, mp mkI r6)] (some [.sl false 1 (mp mkB s0_0), .int .i64 r7, .int .u64 r8]) := by
 refine FnV_list E (rs := [.cell 2 27]) Try.func183 (by rfl) rfl Try.ntmps183 rfl [192, 272, 328] (by simp) rfl (by simp) rfl (fun us => ?_)
 simp only [argsL, memL, wrapL, wrap1, Nat.reduceAdd]
 unfold spec_l1Cur_model.f at h
 refine AL_seq ?_
 refine rg0 [0, 2] [0, 24] (fun K hK => by simp (decide := true) only [go_sem, Nat.reduceAdd, Nat.reduceMul]; exact hK) ?_
 refine AL_seq ?_
 obtain ⟨⟨t550, t551, t552, t553, t554⟩, g1, h⟩ := bind_or h
 dsimp only at h
 refine rg0 [0, 2, 3] [0, 24, 32] (fun K hK => by simp (decide := true) only [go_sem, Nat.reduceAdd, Nat.reduceMul]; refine ⟨_, _, _, spec_l1Cur_grid.V g1, ?_⟩; simp (decide := true) only [go_sem, Nat.reduceAdd, Nat.reduceMul]; exact hK) ?_
 refine AL_seq ?_
 refine AL_seq ?_
 obtain ⟨t556, g2, h⟩ := bind_or h
 refine rg0 [0, 2, 3, 4] [0, 24, 32] (fun K hK => by simp (decide := true) only [go_sem, Nat.reduceAdd, Nat.reduceMul]; refine ⟨_, _, _, spec_grCount.V g2, ?_⟩; simp (decide := true) only [go_sem, Nat.reduceAdd, Nat.reduceMul]; exact hK) ?_
 refine AL_block ?_
 refine AL_loop (n := k) (fun n S => (∃ x4 x1001 x1002 x550000 x550001 x550002 x556000 x556001 x556002, n ≤ k ∧ spec_l1Cur_model.l0 n x4 s0_0 x1001 x1002 x556000 x556001 x556002 ([] : List Int) ([] : List Int) ([] : List Int) = some (r1, r2, r3, r4, r5, r6, r7, r8) ∧ At [(0, .ptr 0 0 0), (2, .ptr 24 0 0), (3, .ptr 32 0 0), (4, .int .i64 x4)] [(0, some (.box [.con (us 0) (.sl false 1 (mp mkB s0_0)), .int .i64 x1001, .int .u64 x1002])), (24, some (.box [.int .i64 x550000, .int .i64 x550001, .int .i64 x550002, .nil, .nil, .nil])), (32, some (.box [.int .i64 x556000, .int .i64 x556001, .int .i64 x556002, .nil, .nil, .nil]))] S) ∨ (∃ x4 x1001 x1002 x550000 x550001 x550002 x556000 x556001 x556002 x556003 x556004 x556005, n ≤ k ∧ spec_l1Cur_model.l0 n x4 s0_0 x1001 x1002 x556000 x556001 x556002 x556003 x556004 x556005 = some (r1, r2, r3, r4, r5, r6, r7, r8) ∧ ¬ x556003 = [] ∧ ¬ x556004 = [] ∧ ¬ x556005 = [] ∧ At [(0, .ptr 0 0 0), (2, .ptr 24 0 0), (3, .ptr 32 0 0), (4, .int .i64 x4)] [(0, some (.box [.con (us 0) (.sl false 1 (mp mkB s0_0)), .int .i64 x1001, .int .u64 x1002])), (24, some (.box [.int .i64 x550000, .int .i64 x550001, .int .i64 x550002, .nil, .nil, .nil])), (32, some (.box [.int .i64 x556000, .int .i64 x556001, .int .i64 x556002, .ref 192, .ref 272, .ref 328])), (192, some (.row 3 1 (mp mkI x556003))), (272, some (.row 3 1 (mp mkI x556004))), (328, some (.row 3 1 (mp mkI x556005)))] S)) ?_ ?_
 · exact .inl ⟨_, _, _, _, _, _, _, _, _, by omega, h, At_keep [0, 2, 3, 4] [0, 24, 32]⟩
 ·
  intro n S hS
  rcases hS with hS | hS
  ·
   obtain ⟨x4, x1001, x1002, x550000, x550001, x550002, x556000, x556001, x556002, hkq3, h, hS⟩ := hS
   rcases n with _ | n4
   · (rw [spec_l1Cur_model.l0] at h; cases h)
   rw [spec_l1Cur_model.l0] at h
   refine AW_at hS ?_
   refine AL_seq ?_
   refine AL_seq ?_
   refine rg0 [0, 2, 3, 4, 12] [0, 24, 32] (fun K hK => by simp (decide := true) only [go_sem, Nat.reduceAdd, Nat.reduceMul]; exact hK) ?_
   rcases ite_orp h with ⟨c5, h⟩ | ⟨c5, h⟩
   ·
    refine AL_then (by simp (decide := true) only [go_sem, Nat.reduceAdd, Nat.reduceMul, c5]) ?_
    refine AL_skip ?_
    refine AL_seq ?_
    refine AL_block ?_
    refine AL_seq ?_
    obtain ⟨⟨t557, t558, t559⟩, g6, h⟩ := bind_or h
    dsimp only at h
    obtain ⟨⟨t563, t564, t565⟩, g7, h⟩ := bind_or h
    dsimp only at h
    obtain ⟨c8, h⟩ := ite_l h
    have c8l := lim8 c8
    replace c8 := eq_true c8
    refine rg2 [0, 2, 3, 4] [0, 24, 32, 192] [] ⟨[16], [19, 21], [0]⟩ [] (fun K hK => by simp (decide := true) (maxSteps := 4000000) only [go_sem, Nat.reduceAdd, Nat.reduceMul, c5, c8l, c8]; refine ⟨_, _, _, spec_l1Cur_pick.V g6, ?_⟩; simp (decide := true) (maxSteps := 4000000) only [go_sem, Nat.reduceAdd, Nat.reduceMul, c5, c8l, c8]; refine ⟨_, _, _, spec_l1Cur_among.V g7, ?_⟩; simp (decide := true) (maxSteps := 4000000) only [go_sem, Nat.reduceAdd, Nat.reduceMul, c5, c8l, c8]; exact hK) ?_
    refine AL_seq ?_
    obtain ⟨⟨t569, t570, t571⟩, g9, h⟩ := bind_or h
    dsimp only at h
    obtain ⟨⟨t575, t576, t577⟩, g10, h⟩ := bind_or h
    dsimp only at h
    obtain ⟨c11, h⟩ := ite_l h
    have c11l := lim8 c11
    replace c11 := eq_true c11
    refine rg2 [0, 2, 3, 4] [0, 24, 32, 192, 272] [] ⟨[26], [29, 31], [0]⟩ [] (fun K hK => by simp (decide := true) (maxSteps := 4000000) only [go_sem, Nat.reduceAdd, Nat.reduceMul, c5, c8l, c8, c11l, c11]; refine ⟨_, _, _, spec_l1Cur_pick.V g9, ?_⟩; simp (decide := true) (maxSteps := 4000000) only [go_sem, Nat.reduceAdd, Nat.reduceMul, c5, c8l, c8, c11l, c11]; refine ⟨_, _, _, spec_l1Cur_among.V g10, ?_⟩; simp (decide := true) (maxSteps := 4000000) only [go_sem, Nat.reduceAdd, Nat.reduceMul, c5, c8l, c8, c11l, c11]; exact hK) ?_
    obtain ⟨⟨t581, t582, t583⟩, g12, h⟩ := bind_or h
    dsimp only at h
    obtain ⟨c13, h⟩ := ite_l h
    have c13l := lim8 c13
    replace c13 := eq_true c13
    refine rg2 [0, 2, 3, 4] [0, 24, 32, 192, 272, 328] [] ⟨[36], [38], [0]⟩ [] (fun K hK => by simp (decide := true) only [go_sem, Nat.reduceAdd, Nat.reduceMul, c5, c8l, c8, c11l, c11, c13l, c13]; refine ⟨_, _, _, spec_l1Cur_pick.V g12, ?_⟩; simp (decide := true) only [go_sem, Nat.reduceAdd, Nat.reduceMul, c5, c8l, c8, c11l, c11, c13l, c13]; exact hK) ?_
    refine blockQ_n ?_
    refine rg0 [0, 2, 3, 4] [0, 24, 32, 192, 272, 328] (fun K hK => by simp (decide := true) only [go_sem, Nat.reduceAdd, Nat.reduceMul, c5, c8l, c8, c11l, c11, c13l, c13]; exact hK) ?_
    refine AL_again (m := n4) (by omega) ?_
    exact .inr (⟨_, _, _, _, _, _, _, _, _, _, _, _, by omega, h, (by first | assumption | simp), (by first | assumption | simp), (by first | assumption | simp), At_keep [0, 2, 3, 4] [0, 24, 32, 192, 272, 328]⟩)
   ·
    refine AL_else (by simp (decide := true) only [go_sem, Nat.reduceAdd, Nat.reduceMul, c5]) ?_
    refine AL_exit ?_
    repeat first | refine thenQ_x ?_ | refine blockQ_miss (by decide) ?_
    refine blockQ_hit ?_
    refine AL_seq ?_
    refine rg0 [2] [0, 24] (fun K hK => by simp (decide := true) only [go_sem, Nat.reduceAdd, Nat.reduceMul, c5]; exact hK) ?_
    replace h := Option.some.inj h
    obtain ⟨rfl, h1⟩ := Prod.mk.inj h
    obtain ⟨rfl, h2⟩ := Prod.mk.inj h1
    obtain ⟨rfl, h3⟩ := Prod.mk.inj h2
    obtain ⟨rfl, h4⟩ := Prod.mk.inj h3
    obtain ⟨rfl, h5⟩ := Prod.mk.inj h4
    obtain ⟨rfl, h6⟩ := Prod.mk.inj h5
    obtain ⟨rfl, rfl⟩ := Prod.mk.inj h6
    exact absurd ⟨rfl, rfl, rfl⟩ hz
  ·
   obtain ⟨x4, x1001, x1002, x550000, x550001, x550002, x556000, x556001, x556002, x556003, x556004, x556005, hkq14, h, hn0, hn1, hn2, hS⟩ := hS
   rcases n with _ | n15
   · (rw [spec_l1Cur_model.l0] at h; cases h)
   rw [spec_l1Cur_model.l0] at h
   refine AW_at hS ?_
   refine AL_seq ?_
   refine AL_seq ?_
   refine rg0 [0, 2, 3, 4, 12] [0, 24, 32, 192, 272, 328] (fun K hK => by simp (decide := true) only [go_sem, Nat.reduceAdd, Nat.reduceMul]; exact hK) ?_
   rcases ite_orp h with ⟨c16, h⟩ | ⟨c16, h⟩
   ·
    refine AL_then (by simp (decide := true) only [go_sem, Nat.reduceAdd, Nat.reduceMul, c16]) ?_
    refine AL_skip ?_
    refine AL_seq ?_
    refine AL_block ?_
    refine AL_seq ?_
    obtain ⟨⟨t557, t558, t559⟩, g17, h⟩ := bind_or h
    dsimp only at h
    obtain ⟨⟨t563, t564, t565⟩, g18, h⟩ := bind_or h
    dsimp only at h
    obtain ⟨c19, h⟩ := ite_l h
    have c19l := lim8 c19
    replace c19 := eq_true c19
    refine rg2 [0, 2, 3, 4] [0, 24, 32, 192, 272, 328] [] ⟨[16], [19, 21], [0]⟩ [] (fun K hK => by simp (decide := true) (maxSteps := 4000000) only [go_sem, Nat.reduceAdd, Nat.reduceMul, c16, c19l, c19]; refine ⟨_, _, _, spec_l1Cur_pick.V g17, ?_⟩; simp (decide := true) (maxSteps := 4000000) only [go_sem, Nat.reduceAdd, Nat.reduceMul, c16, c19l, c19]; refine ⟨_, _, _, spec_l1Cur_among.V g18, ?_⟩; simp (decide := true) (maxSteps := 4000000) only [go_sem, Nat.reduceAdd, Nat.reduceMul, c16, c19l, c19]; exact hK) ?_
    refine AL_seq ?_
    obtain ⟨⟨t569, t570, t571⟩, g20, h⟩ := bind_or h
    dsimp only at h
    obtain ⟨⟨t575, t576, t577⟩, g21, h⟩ := bind_or h
    dsimp only at h
    obtain ⟨c22, h⟩ := ite_l h
    have c22l := lim8 c22
    replace c22 := eq_true c22
    refine rg2 [0, 2, 3, 4] [0, 24, 32, 192, 272, 328] [] ⟨[26], [29, 31], [0]⟩ [] (fun K hK => by simp (decide := true) (maxSteps := 4000000) only [go_sem, Nat.reduceAdd, Nat.reduceMul, c16, c19l, c19, c22l, c22]; refine ⟨_, _, _, spec_l1Cur_pick.V g20, ?_⟩; simp (decide := true) (maxSteps := 4000000) only [go_sem, Nat.reduceAdd, Nat.reduceMul, c16, c19l, c19, c22l, c22]; refine ⟨_, _, _, spec_l1Cur_among.V g21, ?_⟩; simp (decide := true) (maxSteps := 4000000) only [go_sem, Nat.reduceAdd, Nat.reduceMul, c16, c19l, c19, c22l, c22]; exact hK) ?_
    obtain ⟨⟨t581, t582, t583⟩, g23, h⟩ := bind_or h
    dsimp only at h
    obtain ⟨c24, h⟩ := ite_l h
    have c24l := lim8 c24
    replace c24 := eq_true c24
    refine rg2 [0, 2, 3, 4] [0, 24, 32, 192, 272, 328] [] ⟨[36], [38], [0]⟩ [] (fun K hK => by simp (decide := true) only [go_sem, Nat.reduceAdd, Nat.reduceMul, c16, c19l, c19, c22l, c22, c24l, c24]; refine ⟨_, _, _, spec_l1Cur_pick.V g23, ?_⟩; simp (decide := true) only [go_sem, Nat.reduceAdd, Nat.reduceMul, c16, c19l, c19, c22l, c22, c24l, c24]; exact hK) ?_
    refine blockQ_n ?_
    refine rg0 [0, 2, 3, 4] [0, 24, 32, 192, 272, 328] (fun K hK => by simp (decide := true) only [go_sem, Nat.reduceAdd, Nat.reduceMul, c16, c19l, c19, c22l, c22, c24l, c24]; exact hK) ?_
    refine AL_again (m := n15) (by omega) ?_
    exact .inr (⟨_, _, _, _, _, _, _, _, _, _, _, _, by omega, h, (by first | assumption | simp), (by first | assumption | simp), (by first | assumption | simp), At_keep [0, 2, 3, 4] [0, 24, 32, 192, 272, 328]⟩)
   ·
    refine AL_else (by simp (decide := true) only [go_sem, Nat.reduceAdd, Nat.reduceMul, c16]) ?_
    refine AL_exit ?_
    repeat first | refine thenQ_x ?_ | refine blockQ_miss (by decide) ?_
    refine blockQ_hit ?_
    refine AL_seq ?_
    refine rg0 [2] [0, 24, 192, 272, 328] (fun K hK => by simp (decide := true) only [go_sem, Nat.reduceAdd, Nat.reduceMul, c16]; exact hK) ?_
    replace h := Option.some.inj h
    obtain ⟨rfl, h1⟩ := Prod.mk.inj h
    obtain ⟨rfl, h2⟩ := Prod.mk.inj h1
    obtain ⟨rfl, h3⟩ := Prod.mk.inj h2
    obtain ⟨rfl, h4⟩ := Prod.mk.inj h3
    obtain ⟨rfl, h5⟩ := Prod.mk.inj h4
    obtain ⟨rfl, h6⟩ := Prod.mk.inj h5
    obtain ⟨rfl, rfl⟩ := Prod.mk.inj h6
    refine AL_ret (fun _ => rfl) ?_
    exact retF_mk rfl (by exact ⟨(by simp), trivial⟩) rfl (by exact ⟨rfl, rfl, rfl, rfl, rfl, rfl, trivial⟩) (by exact ⟨rfl, rfl, rfl, trivial⟩) (by exact ⟨rfl, rfl⟩)
set_option maxRecDepth 100000 in
set_option maxHeartbeats 4000000 in
theorem spec_l1Cur_model.N {k : Nat} {s0_0 : List Int} {s0_1 : Int} {s0_2 : Int} {r1 : Int} {r2 : Int} {r3 : Int} {r4 : List Int} {r5 : List Int} {r6 : List Int} {r7 : Int} {r8 : Int} (h : spec_l1Cur_model.f k s0_0 s0_1 s0_2 = some (r1, r2, r3, r4, r5, r6, r7, r8)) (hz : r4 = [] ∧ r5 = [] ∧ r6 = []) : FnV E 183 [.ptr 0 0 0] (some [.sl false 1 (mp mkB s0_0), .int .i64 s0_1, .int .u64 s0_2]) (.agg [.int .i64 r1, .int .i64 r2, .int .i64 r3, .nil, .nil, .nil]) [] (some [.sl false 1 (mp mkB s0_0), .int .i64 r7, .int .u64 r8]) := by
 refine FnV_list E (rs := [.cell 2 27]) Try.func183 (by rfl) rfl Try.ntmps183 rfl [] (by simp) rfl (by simp) rfl (fun us => ?_)
 simp only [argsL, memL, wrapL, wrap1, Nat.reduceAdd]
 unfold spec_l1Cur_model.f at h
 refine AL_seq ?_
 refine rg0 [0, 2] [0, 24] (fun K hK => by simp (decide := true) only [go_sem, Nat.reduceAdd, Nat.reduceMul]; exact hK) ?_
 refine AL_seq ?_
 obtain ⟨⟨t550, t551, t552, t553, t554⟩, g1, h⟩ := bind_or h
 dsimp only at h
 refine rg0 [0, 2, 3] [0, 24, 32] (fun K hK => by simp (decide := true) only [go_sem, Nat.reduceAdd, Nat.reduceMul]; refine ⟨_, _, _, spec_l1Cur_grid.V g1, ?_⟩; simp (decide := true) only [go_sem, Nat.reduceAdd, Nat.reduceMul]; exact hK) ?_
 refine AL_seq ?_
 refine AL_seq ?_
 obtain ⟨t556, g2, h⟩ := bind_or h
 refine rg0 [0, 2, 3, 4] [0, 24, 32] (fun K hK => by simp (decide := true) only [go_sem, Nat.reduceAdd, Nat.reduceMul]; refine ⟨_, _, _, spec_grCount.V g2, ?_⟩; simp (decide := true) only [go_sem, Nat.reduceAdd, Nat.reduceMul]; exact hK) ?_
 refine AL_block ?_
 refine AL_loop (n := k) (fun n S => (∃ x4 x1001 x1002 x550000 x550001 x550002 x556000 x556001 x556002, n ≤ k ∧ spec_l1Cur_model.l0 n x4 s0_0 x1001 x1002 x556000 x556001 x556002 ([] : List Int) ([] : List Int) ([] : List Int) = some (r1, r2, r3, r4, r5, r6, r7, r8) ∧ At [(0, .ptr 0 0 0), (2, .ptr 24 0 0), (3, .ptr 32 0 0), (4, .int .i64 x4)] [(0, some (.box [.con (us 0) (.sl false 1 (mp mkB s0_0)), .int .i64 x1001, .int .u64 x1002])), (24, some (.box [.int .i64 x550000, .int .i64 x550001, .int .i64 x550002, .nil, .nil, .nil])), (32, some (.box [.int .i64 x556000, .int .i64 x556001, .int .i64 x556002, .nil, .nil, .nil]))] S) ∨ (∃ x4 x1001 x1002 x550000 x550001 x550002 x556000 x556001 x556002 x556003 x556004 x556005, n ≤ k ∧ spec_l1Cur_model.l0 n x4 s0_0 x1001 x1002 x556000 x556001 x556002 x556003 x556004 x556005 = some (r1, r2, r3, r4, r5, r6, r7, r8) ∧ ¬ x556003 = [] ∧ ¬ x556004 = [] ∧ ¬ x556005 = [] ∧ At [(0, .ptr 0 0 0), (2, .ptr 24 0 0), (3, .ptr 32 0 0), (4, .int .i64 x4)] [(0, some (.box [.con (us 0) (.sl false 1 (mp mkB s0_0)), .int .i64 x1001, .int .u64 x1002])), (24, some (.box [.int .i64 x550000, .int .i64 x550001, .int .i64 x550002, .nil, .nil, .nil])), (32, some (.box [.int .i64 x556000, .int .i64 x556001, .int .i64 x556002, .ref 192, .ref 272, .ref 328])), (192, some (.row 3 1 (mp mkI x556003))), (272, some (.row 3 1 (mp mkI x556004))), (328, some (.row 3 1 (mp mkI x556005)))] S)) ?_ ?_
 · exact .inl ⟨_, _, _, _, _, _, _, _, _, by omega, h, At_keep [0, 2, 3, 4] [0, 24, 32]⟩
 ·
  intro n S hS
  rcases hS with hS | hS
  ·
   obtain ⟨x4, x1001, x1002, x550000, x550001, x550002, x556000, x556001, x556002, hkq3, h, hS⟩ := hS
   rcases n with _ | n4
   · (rw [spec_l1Cur_model.l0] at h; cases h)
   rw [spec_l1Cur_model.l0] at h
   refine AW_at hS ?_
   refine AL_seq ?_
   refine AL_seq ?_
   refine rg0 [0, 2, 3, 4, 12] [0, 24, 32] (fun K hK => by simp (decide := true) only [go_sem, Nat.reduceAdd, Nat.reduceMul]; exact hK) ?_
   rcases ite_orp h with ⟨c5, h⟩ | ⟨c5, h⟩
   ·
    refine AL_then (by simp (decide := true) only [go_sem, Nat.reduceAdd, Nat.reduceMul, c5]) ?_
    refine AL_skip ?_
    refine AL_seq ?_
    refine AL_block ?_
    refine AL_seq ?_
    obtain ⟨⟨t557, t558, t559⟩, g6, h⟩ := bind_or h
    dsimp only at h
    obtain ⟨⟨t563, t564, t565⟩, g7, h⟩ := bind_or h
    dsimp only at h
    obtain ⟨c8, h⟩ := ite_l h
    have c8l := lim8 c8
    replace c8 := eq_true c8
    refine rg2 [0, 2, 3, 4] [0, 24, 32, 192] [] ⟨[16], [19, 21], [0]⟩ [] (fun K hK => by simp (decide := true) (maxSteps := 4000000) only [go_sem, Nat.reduceAdd, Nat.reduceMul, c5, c8l, c8]; refine ⟨_, _, _, spec_l1Cur_pick.V g6, ?_⟩; simp (decide := true) (maxSteps := 4000000) only [go_sem, Nat.reduceAdd, Nat.reduceMul, c5, c8l, c8]; refine ⟨_, _, _, spec_l1Cur_among.V g7, ?_⟩; simp (decide := true) (maxSteps := 4000000) only [go_sem, Nat.reduceAdd, Nat.reduceMul, c5, c8l, c8]; exact hK) ?_
    refine AL_seq ?_
    obtain ⟨⟨t569, t570, t571⟩, g9, h⟩ := bind_or h
    dsimp only at h
    obtain ⟨⟨t575, t576, t577⟩, g10, h⟩ := bind_or h
    dsimp only at h
    obtain ⟨c11, h⟩ := ite_l h
    have c11l := lim8 c11
    replace c11 := eq_true c11
    refine rg2 [0, 2, 3, 4] [0, 24, 32, 192, 272] [] ⟨[26], [29, 31], [0]⟩ [] (fun K hK => by simp (decide := true) (maxSteps := 4000000) only [go_sem, Nat.reduceAdd, Nat.reduceMul, c5, c8l, c8, c11l, c11]; refine ⟨_, _, _, spec_l1Cur_pick.V g9, ?_⟩; simp (decide := true) (maxSteps := 4000000) only [go_sem, Nat.reduceAdd, Nat.reduceMul, c5, c8l, c8, c11l, c11]; refine ⟨_, _, _, spec_l1Cur_among.V g10, ?_⟩; simp (decide := true) (maxSteps := 4000000) only [go_sem, Nat.reduceAdd, Nat.reduceMul, c5, c8l, c8, c11l, c11]; exact hK) ?_
    obtain ⟨⟨t581, t582, t583⟩, g12, h⟩ := bind_or h
    dsimp only at h
    obtain ⟨c13, h⟩ := ite_l h
    have c13l := lim8 c13
    replace c13 := eq_true c13
    refine rg2 [0, 2, 3, 4] [0, 24, 32, 192, 272, 328] [] ⟨[36], [38], [0]⟩ [] (fun K hK => by simp (decide := true) only [go_sem, Nat.reduceAdd, Nat.reduceMul, c5, c8l, c8, c11l, c11, c13l, c13]; refine ⟨_, _, _, spec_l1Cur_pick.V g12, ?_⟩; simp (decide := true) only [go_sem, Nat.reduceAdd, Nat.reduceMul, c5, c8l, c8, c11l, c11, c13l, c13]; exact hK) ?_
    refine blockQ_n ?_
    refine rg0 [0, 2, 3, 4] [0, 24, 32, 192, 272, 328] (fun K hK => by simp (decide := true) only [go_sem, Nat.reduceAdd, Nat.reduceMul, c5, c8l, c8, c11l, c11, c13l, c13]; exact hK) ?_
    refine AL_again (m := n4) (by omega) ?_
    exact .inr (⟨_, _, _, _, _, _, _, _, _, _, _, _, by omega, h, (by first | assumption | simp), (by first | assumption | simp), (by first | assumption | simp), At_keep [0, 2, 3, 4] [0, 24, 32, 192, 272, 328]⟩)
   ·
    refine AL_else (by simp (decide := true) only [go_sem, Nat.reduceAdd, Nat.reduceMul, c5]) ?_
    refine AL_exit ?_
    repeat first | refine thenQ_x ?_ | refine blockQ_miss (by decide) ?_
    refine blockQ_hit ?_
    refine AL_seq ?_
    refine rg0 [2] [0, 24] (fun K hK => by simp (decide := true) only [go_sem, Nat.reduceAdd, Nat.reduceMul, c5]; exact hK) ?_
    replace h := Option.some.inj h
    obtain ⟨rfl, h1⟩ := Prod.mk.inj h
    obtain ⟨rfl, h2⟩ := Prod.mk.inj h1
    obtain ⟨rfl, h3⟩ := Prod.mk.inj h2
    obtain ⟨rfl, h4⟩ := Prod.mk.inj h3
    obtain ⟨rfl, h5⟩ := Prod.mk.inj h4
    obtain ⟨rfl, h6⟩ := Prod.mk.inj h5
    obtain ⟨rfl, rfl⟩ := Prod.mk.inj h6
    refine AL_ret (fun _ => rfl) ?_
    exact retF_mk rfl (by exact ⟨(by simp), trivial⟩) rfl (by exact ⟨rfl, rfl, rfl, rfl, rfl, rfl, trivial⟩) (by exact trivial) (by exact ⟨rfl, rfl⟩)
  ·
   obtain ⟨x4, x1001, x1002, x550000, x550001, x550002, x556000, x556001, x556002, x556003, x556004, x556005, hkq14, h, hn0, hn1, hn2, hS⟩ := hS
   rcases n with _ | n15
   · (rw [spec_l1Cur_model.l0] at h; cases h)
   rw [spec_l1Cur_model.l0] at h
   refine AW_at hS ?_
   refine AL_seq ?_
   refine AL_seq ?_
   refine rg0 [0, 2, 3, 4, 12] [0, 24, 32, 192, 272, 328] (fun K hK => by simp (decide := true) only [go_sem, Nat.reduceAdd, Nat.reduceMul]; exact hK) ?_
   rcases ite_orp h with ⟨c16, h⟩ | ⟨c16, h⟩
   ·
    refine AL_then (by simp (decide := true) only [go_sem, Nat.reduceAdd, Nat.reduceMul, c16]) ?_
    refine AL_skip ?_
    refine AL_seq ?_
    refine AL_block ?_
    refine AL_seq ?_
    obtain ⟨⟨t557, t558, t559⟩, g17, h⟩ := bind_or h
    dsimp only at h
    obtain ⟨⟨t563, t564, t565⟩, g18, h⟩ := bind_or h
    dsimp only at h
    obtain ⟨c19, h⟩ := ite_l h
    have c19l := lim8 c19
    replace c19 := eq_true c19
    refine rg2 [0, 2, 3, 4] [0, 24, 32, 192, 272, 328] [] ⟨[16], [19, 21], [0]⟩ [] (fun K hK => by simp (decide := true) (maxSteps := 4000000) only [go_sem, Nat.reduceAdd, Nat.reduceMul, c16, c19l, c19]; refine ⟨_, _, _, spec_l1Cur_pick.V g17, ?_⟩; simp (decide := true) (maxSteps := 4000000) only [go_sem, Nat.reduceAdd, Nat.reduceMul, c16, c19l, c19]; refine ⟨_, _, _, spec_l1Cur_among.V g18, ?_⟩; simp (decide := true) (maxSteps := 4000000) only [go_sem, Nat.reduceAdd, Nat.reduceMul, c16, c19l, c19]; exact hK) ?_
    refine AL_seq ?_
    obtain ⟨⟨t569, t570, t571⟩, g20, h⟩ := bind_or h
    dsimp only at h
    obtain ⟨⟨t575, t576, t577⟩, g21, h⟩ := bind_or h
    dsimp only at h
    obtain ⟨c22, h⟩ := ite_l h
    have c22l := lim8 c22
    replace c22 := eq_true c22
    refine rg2 [0, 2, 3, 4] [0, 24, 32, 192, 272, 328] [] ⟨[26], [29, 31], [0]⟩ [] (fun K hK => by simp (decide := true) (maxSteps := 4000000) only [go_sem, Nat.reduceAdd, Nat.reduceMul, c16, c19l, c19, c22l, c22]; refine ⟨_, _, _, spec_l1Cur_pick.V g20, ?_⟩; simp (decide := true) (maxSteps := 4000000) only [go_sem, Nat.reduceAdd, Nat.reduceMul, c16, c19l, c19, c22l, c22]; refine ⟨_, _, _, spec_l1Cur_among.V g21, ?_⟩; simp (decide := true) (maxSteps := 4000000) only [go_sem, Nat.reduceAdd, Nat.reduceMul, c16, c19l, c19, c22l, c22]; exact hK) ?_
    obtain ⟨⟨t581, t582, t583⟩, g23, h⟩ := bind_or h
    dsimp only at h
    obtain ⟨c24, h⟩ := ite_l h
    have c24l := lim8 c24
    replace c24 := eq_true c24
    refine rg2 [0, 2, 3, 4] [0, 24, 32, 192, 272, 328] [] ⟨[36], [38], [0]⟩ [] (fun K hK => by simp (decide := true) only [go_sem, Nat.reduceAdd, Nat.reduceMul, c16, c19l, c19, c22l, c22, c24l, c24]; refine ⟨_, _, _, spec_l1Cur_pick.V g23, ?_⟩; simp (decide := true) only [go_sem, Nat.reduceAdd, Nat.reduceMul, c16, c19l, c19, c22l, c22, c24l, c24]; exact hK) ?_
    refine blockQ_n ?_
    refine rg0 [0, 2, 3, 4] [0, 24, 32, 192, 272, 328] (fun K hK => by simp (decide := true) only [go_sem, Nat.reduceAdd, Nat.reduceMul, c16, c19l, c19, c22l, c22, c24l, c24]; exact hK) ?_
    refine AL_again (m := n15) (by omega) ?_
    exact .inr (⟨_, _, _, _, _, _, _, _, _, _, _, _, by omega, h, (by first | assumption | simp), (by first | assumption | simp), (by first | assumption | simp), At_keep [0, 2, 3, 4] [0, 24, 32, 192, 272, 328]⟩)
   ·
    refine AL_else (by simp (decide := true) only [go_sem, Nat.reduceAdd, Nat.reduceMul, c16]) ?_
    refine AL_exit ?_
    repeat first | refine thenQ_x ?_ | refine blockQ_miss (by decide) ?_
    refine blockQ_hit ?_
    refine AL_seq ?_
    refine rg0 [2] [0, 24, 192, 272, 328] (fun K hK => by simp (decide := true) only [go_sem, Nat.reduceAdd, Nat.reduceMul, c16]; exact hK) ?_
    replace h := Option.some.inj h
    obtain ⟨rfl, h1⟩ := Prod.mk.inj h
    obtain ⟨rfl, h2⟩ := Prod.mk.inj h1
    obtain ⟨rfl, h3⟩ := Prod.mk.inj h2
    obtain ⟨rfl, h4⟩ := Prod.mk.inj h3
    obtain ⟨rfl, h5⟩ := Prod.mk.inj h4
    obtain ⟨rfl, h6⟩ := Prod.mk.inj h5
    obtain ⟨rfl, rfl⟩ := Prod.mk.inj h6
    exact absurd hz.1 (by assumption)
/-! spec_l1Cur_anyModel : 110 -/
set_option maxRecDepth 100000 in
set_option maxHeartbeats 4000000 in
theorem spec_l1Cur_anyModel.V {k : Nat} {s0_0 : List Int} {s0_1 : Int} {s0_2 : Int} {r1 : Int} {r2 : Int} {r3 : Int} {r4 : List Int} {r5 : List Int} {r6 : List Int} {r7 : Int} {r8 : Int} (h : spec_l1Cur_anyModel.f k s0_0 s0_1 s0_2 = some (r1, r2, r3, r4, r5, r6, r7, r8)) : FnV E 110 [.ptr 0 0 0] (some [.sl false 1 (mp mkB s0_0), .int .i64 s0_1, .int .u64 s0_2]) (.agg [.int .i64 r1, .int .i64 r2, .int .i64 r3, .sl true 1 (mp mkI r4), .sl true 1 (mp mkI r5), .sl true 1 (mp mkI r6)]) [] (some [.sl false 1 (mp mkB s0_0), .int .i64 r7, .int .u64 r8]) := by
 refine FnV_list E (rs := [.cell 2 27]) Try.func110 (by rfl) rfl Try.ntmps110 rfl [] (by simp) rfl (by simp) rfl (fun us => ?_)
 simp only [argsL, memL, wrapL, wrap1, Nat.reduceAdd]
 unfold spec_l1Cur_anyModel.f at h
 refine AL_seq ?_
 refine rg0 [0, 2] [0, 24] (fun K hK => by simp (decide := true) only [go_sem, Nat.reduceAdd, Nat.reduceMul]; exact hK) ?_
 refine AL_seq ?_
 obtain ⟨⟨t588, t589, t590, t591, t594, t597, t600, t601⟩, g1, h⟩ := bind_or h
 dsimp only at h
 by_cases z2 : t591 = [] ∧ t594 = [] ∧ t597 = []
 ·
  obtain ⟨rfl, rfl, rfl⟩ := z2
  refine rg0 [0, 2, 3] [0, 24, 32] (fun K hK => by simp (decide := true) only [go_sem, Nat.reduceAdd, Nat.reduceMul]; refine ⟨_, _, _, spec_l1Cur_model.N g1 ⟨rfl, rfl, rfl⟩, ?_⟩; simp (decide := true) only [go_sem, Nat.reduceAdd, Nat.reduceMul]; exact hK) ?_
  refine AL_seq ?_
  obtain ⟨t603, g3, h⟩ := bind_or h
  refine rg0 [0, 2, 3, 4] [0, 24, 32] (fun K hK => by simp (decide := true) only [go_sem, Nat.reduceAdd, Nat.reduceMul]; refine ⟨_, _, _, spec_grCount.V g3, ?_⟩; simp (decide := true) only [go_sem, Nat.reduceAdd, Nat.reduceMul]; exact hK) ?_
  refine AL_seq ?_
  refine AL_seq ?_
  obtain ⟨⟨t604, t605, t606⟩, g4, h⟩ := bind_or h
  dsimp only at h
  refine rg0 [0, 2, 3, 4, 11] [0, 24, 32] (fun K hK => by simp (decide := true) only [go_sem, Nat.reduceAdd, Nat.reduceMul]; refine ⟨_, _, _, spec_l1Cur_pick.V g4, ?_⟩; simp (decide := true) only [go_sem, Nat.reduceAdd, Nat.reduceMul]; exact hK) ?_
  refine AL_block ?_
  refine AL_seq ?_
  refine rg0 [0, 2, 3, 4, 11, 12] [0, 24, 32] (fun K hK => by simp (decide := true) only [go_sem, Nat.reduceAdd, Nat.reduceMul]; exact hK) ?_
  rcases ite_orp h with ⟨c5, h⟩ | ⟨c5, h⟩
  ·
   refine AL_then (by simp (decide := true) only [go_sem, Nat.reduceAdd, Nat.reduceMul, c5]) ?_
   obtain ⟨⟨t607, t608, t609, t610, t611⟩, g6, h⟩ := bind_or h
   dsimp only at h
   refine rg0 [2, 3] [0, 24, 32] (fun K hK => by simp (decide := true) only [go_sem, Nat.reduceAdd, Nat.reduceMul, c5]; refine ⟨_, _, _, spec_l1Cur_anyGrid.V g6, ?_⟩; simp (decide := true) only [go_sem, Nat.reduceAdd, Nat.reduceMul, c5]; exact hK) ?_
   refine blockQ_n ?_
   refine AL_seq ?_
   refine rg0 [2] [0, 24] (fun K hK => by simp (decide := true) only [go_sem, Nat.reduceAdd, Nat.reduceMul, c5]; exact hK) ?_
   replace h := Option.some.inj h
   obtain ⟨rfl, h1⟩ := Prod.mk.inj h
   obtain ⟨rfl, h2⟩ := Prod.mk.inj h1
   obtain ⟨rfl, h3⟩ := Prod.mk.inj h2
   obtain ⟨rfl, h4⟩ := Prod.mk.inj h3
   obtain ⟨rfl, h5⟩ := Prod.mk.inj h4
   obtain ⟨rfl, h6⟩ := Prod.mk.inj h5
   obtain ⟨rfl, rfl⟩ := Prod.mk.inj h6
   refine AL_ret (fun _ => rfl) ?_
   exact retF_mk rfl (by exact ⟨(by simp), trivial⟩) rfl (by exact ⟨rfl, rfl, rfl, rfl, rfl, rfl, trivial⟩) (by exact trivial) (by exact ⟨rfl, rfl⟩)
  ·
   refine AL_else (by simp (decide := true) only [go_sem, Nat.reduceAdd, Nat.reduceMul, c5]) ?_
   refine AL_seq ?_
   refine rg0 [0, 2, 3, 4, 11, 17] [0, 24, 32] (fun K hK => by simp (decide := true) only [go_sem, Nat.reduceAdd, Nat.reduceMul, c5]; exact hK) ?_
   rcases ite_orp h with ⟨c7, h⟩ | ⟨c7, h⟩
   ·
    refine AL_then (by simp (decide := true) only [go_sem, Nat.reduceAdd, Nat.reduceMul, c5, c7]) ?_
    obtain ⟨⟨t612, t613, t614⟩, g8, h⟩ := bind_or h
    dsimp only at h
    obtain ⟨⟨t618, t619, t620⟩, g9, h⟩ := bind_or h
    dsimp only at h
    obtain ⟨c10, h⟩ := ite_lp h
    obtain ⟨c11, h⟩ := ite_lp h
    exact (idx0 c10 c11).elim
   ·
    refine AL_else (by simp (decide := true) only [go_sem, Nat.reduceAdd, Nat.reduceMul, c5, c7]) ?_
    refine AL_seq ?_
    refine rg0 [0, 2, 3, 4, 11, 28] [0, 24, 32] (fun K hK => by simp (decide := true) only [go_sem, Nat.reduceAdd, Nat.reduceMul, c5, c7]; exact hK) ?_
    rcases ite_orp h with ⟨c12, h⟩ | ⟨c12, h⟩
    ·
     refine AL_then (by simp (decide := true) only [go_sem, Nat.reduceAdd, Nat.reduceMul, c5, c7, c12]) ?_
     obtain ⟨⟨t622, t623, t624⟩, g13, h⟩ := bind_or h
     dsimp only at h
     obtain ⟨⟨t628, t629, t630⟩, g14, h⟩ := bind_or h
     dsimp only at h
     obtain ⟨c15, h⟩ := ite_lp h
     obtain ⟨c16, h⟩ := ite_lp h
     exact (idx0 c15 c16).elim
    ·
     refine AL_else (by simp (decide := true) only [go_sem, Nat.reduceAdd, Nat.reduceMul, c5, c7, c12]) ?_
     refine AL_seq ?_
     refine rg0 [0, 2, 3, 4, 11, 39] [0, 24, 32] (fun K hK => by simp (decide := true) only [go_sem, Nat.reduceAdd, Nat.reduceMul, c5, c7, c12]; exact hK) ?_
     rcases ite_orp h with ⟨c17, h⟩ | ⟨c17, h⟩
     ·
      refine AL_then (by simp (decide := true) only [go_sem, Nat.reduceAdd, Nat.reduceMul, c5, c7, c12, c17]) ?_
      obtain ⟨⟨t632, t633, t634⟩, g18, h⟩ := bind_or h
      dsimp only at h
      obtain ⟨⟨t638, t639, t640⟩, g19, h⟩ := bind_or h
      dsimp only at h
      obtain ⟨c20, h⟩ := ite_lp h
      obtain ⟨c21, h⟩ := ite_lp h
      exact (idx0 c20 c21).elim
     ·
      refine AL_else (by simp (decide := true) only [go_sem, Nat.reduceAdd, Nat.reduceMul, c5, c7, c12, c17]) ?_
      refine AL_seq ?_
      refine rg0 [2, 3, 50] [0, 24, 32] (fun K hK => by simp (decide := true) only [go_sem, Nat.reduceAdd, Nat.reduceMul, c5, c7, c12, c17]; exact hK) ?_
      rcases ite_orp h with ⟨c22, h⟩ | ⟨c22, h⟩
      ·
       refine AL_then (by simp (decide := true) only [go_sem, Nat.reduceAdd, Nat.reduceMul, c5, c7, c12, c17, c22]) ?_
       obtain ⟨c23, h⟩ := ite_l h
       have c23l := lim8 c23
       replace c23 := eq_true c23
       refine rg0 [2, 3] [0, 24, 32, 448] (fun K hK => by simp (decide := true) only [go_sem, Nat.reduceAdd, Nat.reduceMul, c5, c7, c12, c17, c22, c23l, c23]; exact hK) ?_
       refine blockQ_n ?_
       refine AL_seq ?_
       refine rg0 [2] [0, 24, 448] (fun K hK => by simp (decide := true) only [go_sem, Nat.reduceAdd, Nat.reduceMul, c5, c7, c12, c17, c22, c23l, c23]; exact hK) ?_
       replace h := Option.some.inj h
       obtain ⟨rfl, h1⟩ := Prod.mk.inj h
       obtain ⟨rfl, h2⟩ := Prod.mk.inj h1
       obtain ⟨rfl, h3⟩ := Prod.mk.inj h2
       obtain ⟨rfl, h4⟩ := Prod.mk.inj h3
       obtain ⟨rfl, h5⟩ := Prod.mk.inj h4
       obtain ⟨rfl, h6⟩ := Prod.mk.inj h5
       obtain ⟨rfl, rfl⟩ := Prod.mk.inj h6
       refine AL_ret (fun _ => rfl) ?_
       exact retF_mk rfl (by exact ⟨(by simp), trivial⟩) rfl (by exact ⟨rfl, rfl, rfl, rfl, rfl, rfl, trivial⟩) (by exact trivial) (by exact ⟨rfl, rfl⟩)
      ·
       refine AL_else (by simp (decide := true) only [go_sem, Nat.reduceAdd, Nat.reduceMul, c5, c7, c12, c17, c22]) ?_
       refine AL_skip ?_
       refine blockQ_n ?_
       refine AL_seq ?_
       refine rg0 [2] [0, 24] (fun K hK => by simp (decide := true) only [go_sem, Nat.reduceAdd, Nat.reduceMul, c5, c7, c12, c17, c22]; exact hK) ?_
       replace h := Option.some.inj h
       obtain ⟨rfl, h1⟩ := Prod.mk.inj h
       obtain ⟨rfl, h2⟩ := Prod.mk.inj h1
       obtain ⟨rfl, h3⟩ := Prod.mk.inj h2
       obtain ⟨rfl, h4⟩ := Prod.mk.inj h3
       obtain ⟨rfl, h5⟩ := Prod.mk.inj h4
       obtain ⟨rfl, h6⟩ := Prod.mk.inj h5
       obtain ⟨rfl, rfl⟩ := Prod.mk.inj h6
       refine AL_ret (fun _ => rfl) ?_
       exact retF_mk rfl (by exact ⟨(by simp), trivial⟩) rfl (by exact ⟨rfl, rfl, rfl, rfl, rfl, rfl, trivial⟩) (by exact trivial) (by exact ⟨rfl, rfl⟩)
 ·
  refine rg0 [0, 2, 3] [0, 24, 32, 56, 57, 58] (fun K hK => by simp (decide := true) only [go_sem, Nat.reduceAdd, Nat.reduceMul]; refine ⟨_, _, _, spec_l1Cur_model.W g1 z2, ?_⟩; simp (decide := true) only [go_sem, Nat.reduceAdd, Nat.reduceMul]; exact hK) ?_
  refine AL_seq ?_
  obtain ⟨t603, g24, h⟩ := bind_or h
  refine rg0 [0, 2, 3, 4] [0, 24, 32, 56, 57, 58] (fun K hK => by simp (decide := true) only [go_sem, Nat.reduceAdd, Nat.reduceMul]; refine ⟨_, _, _, spec_grCount.V g24, ?_⟩; simp (decide := true) only [go_sem, Nat.reduceAdd, Nat.reduceMul]; exact hK) ?_
  refine AL_seq ?_
  refine AL_seq ?_
  obtain ⟨⟨t604, t605, t606⟩, g25, h⟩ := bind_or h
  dsimp only at h
  refine rg0 [0, 2, 3, 4, 11] [0, 24, 32, 56, 57, 58] (fun K hK => by simp (decide := true) only [go_sem, Nat.reduceAdd, Nat.reduceMul]; refine ⟨_, _, _, spec_l1Cur_pick.V g25, ?_⟩; simp (decide := true) only [go_sem, Nat.reduceAdd, Nat.reduceMul]; exact hK) ?_
  refine AL_block ?_
  refine AL_seq ?_
  refine rg0 [0, 2, 3, 4, 11, 12] [0, 24, 32, 56, 57, 58] (fun K hK => by simp (decide := true) only [go_sem, Nat.reduceAdd, Nat.reduceMul]; exact hK) ?_
  rcases ite_orp h with ⟨c26, h⟩ | ⟨c26, h⟩
  ·
   refine AL_then (by simp (decide := true) only [go_sem, Nat.reduceAdd, Nat.reduceMul, c26]) ?_
   obtain ⟨⟨t607, t608, t609, t610, t611⟩, g27, h⟩ := bind_or h
   dsimp only at h
   refine rg0 [2, 3] [0, 24, 32, 56, 57, 58] (fun K hK => by simp (decide := true) only [go_sem, Nat.reduceAdd, Nat.reduceMul, c26]; refine ⟨_, _, _, spec_l1Cur_anyGrid.V g27, ?_⟩; simp (decide := true) only [go_sem, Nat.reduceAdd, Nat.reduceMul, c26]; exact hK) ?_
   refine blockQ_n ?_
   refine AL_seq ?_
   refine rg0 [2] [0, 24, 56, 57, 58] (fun K hK => by simp (decide := true) only [go_sem, Nat.reduceAdd, Nat.reduceMul, c26]; exact hK) ?_
   replace h := Option.some.inj h
   obtain ⟨rfl, h1⟩ := Prod.mk.inj h
   obtain ⟨rfl, h2⟩ := Prod.mk.inj h1
   obtain ⟨rfl, h3⟩ := Prod.mk.inj h2
   obtain ⟨rfl, h4⟩ := Prod.mk.inj h3
   obtain ⟨rfl, h5⟩ := Prod.mk.inj h4
   obtain ⟨rfl, h6⟩ := Prod.mk.inj h5
   obtain ⟨rfl, rfl⟩ := Prod.mk.inj h6
   refine AL_ret (fun _ => rfl) ?_
   exact retF_mk rfl (by exact ⟨(by simp), trivial⟩) rfl (by exact ⟨rfl, rfl, rfl, rfl, rfl, rfl, trivial⟩) (by exact trivial) (by exact ⟨rfl, rfl⟩)
  ·
   refine AL_else (by simp (decide := true) only [go_sem, Nat.reduceAdd, Nat.reduceMul, c26]) ?_
   refine AL_seq ?_
   refine rg0 [0, 2, 3, 4, 11, 17] [0, 24, 32, 56, 57, 58] (fun K hK => by simp (decide := true) only [go_sem, Nat.reduceAdd, Nat.reduceMul, c26]; exact hK) ?_
   rcases ite_orp h with ⟨c28, h⟩ | ⟨c28, h⟩
   ·
    refine AL_then (by simp (decide := true) only [go_sem, Nat.reduceAdd, Nat.reduceMul, c26, c28]) ?_
    obtain ⟨⟨t612, t613, t614⟩, g29, h⟩ := bind_or h
    dsimp only at h
    obtain ⟨⟨t618, t619, t620⟩, g30, h⟩ := bind_or h
    dsimp only at h
    obtain ⟨c31, h⟩ := ite_lp h
    obtain ⟨c32, h⟩ := ite_lp h
    refine rg2 [2, 3] [0, 24, 32, 56, 57, 58] [] ⟨[20], [23, 26], [0]⟩ [] (fun K hK => by simp (decide := true) only [go_sem, Nat.reduceAdd, Nat.reduceMul, c26, c28, c31, c32]; refine ⟨_, _, _, spec_l1Cur_pick.V g29, ?_⟩; simp (decide := true) only [go_sem, Nat.reduceAdd, Nat.reduceMul, c26, c28, c31, c32]; refine ⟨_, _, _, spec_l1Cur_among.V g30, ?_⟩; simp (decide := true) only [go_sem, Nat.reduceAdd, Nat.reduceMul, c26, c28, c31, c32]; exact hK) ?_
    refine blockQ_n ?_
    refine AL_seq ?_
    refine rg0 [2] [0, 24, 56, 57, 58] (fun K hK => by simp (decide := true) only [go_sem, Nat.reduceAdd, Nat.reduceMul, c26, c28, c31, c32]; exact hK) ?_
    replace h := Option.some.inj h
    obtain ⟨rfl, h1⟩ := Prod.mk.inj h
    obtain ⟨rfl, h2⟩ := Prod.mk.inj h1
    obtain ⟨rfl, h3⟩ := Prod.mk.inj h2
    obtain ⟨rfl, h4⟩ := Prod.mk.inj h3
    obtain ⟨rfl, h5⟩ := Prod.mk.inj h4
    obtain ⟨rfl, h6⟩ := Prod.mk.inj h5
    obtain ⟨rfl, rfl⟩ := Prod.mk.inj h6
    refine AL_ret (fun _ => rfl) ?_
    exact retF_mk rfl (by exact ⟨(by simp), trivial⟩) rfl (by exact ⟨rfl, rfl, rfl, rfl, rfl, rfl, trivial⟩) (by exact trivial) (by exact ⟨rfl, rfl⟩)
   ·
    refine AL_else (by simp (decide := true) only [go_sem, Nat.reduceAdd, Nat.reduceMul, c26, c28]) ?_
    refine AL_seq ?_
    refine rg0 [0, 2, 3, 4, 11, 28] [0, 24, 32, 56, 57, 58] (fun K hK => by simp (decide := true) only [go_sem, Nat.reduceAdd, Nat.reduceMul, c26, c28]; exact hK) ?_
    rcases ite_orp h with ⟨c33, h⟩ | ⟨c33, h⟩
    ·
     refine AL_then (by simp (decide := true) only [go_sem, Nat.reduceAdd, Nat.reduceMul, c26, c28, c33]) ?_
     obtain ⟨⟨t622, t623, t624⟩, g34, h⟩ := bind_or h
     dsimp only at h
     obtain ⟨⟨t628, t629, t630⟩, g35, h⟩ := bind_or h
     dsimp only at h
     obtain ⟨c36, h⟩ := ite_lp h
     obtain ⟨c37, h⟩ := ite_lp h
     refine rg2 [2, 3] [0, 24, 32, 56, 57, 58] [] ⟨[31], [34, 37], [0]⟩ [] (fun K hK => by simp (decide := true) only [go_sem, Nat.reduceAdd, Nat.reduceMul, c26, c28, c33, c36, c37]; refine ⟨_, _, _, spec_l1Cur_pick.V g34, ?_⟩; simp (decide := true) only [go_sem, Nat.reduceAdd, Nat.reduceMul, c26, c28, c33, c36, c37]; refine ⟨_, _, _, spec_l1Cur_among.V g35, ?_⟩; simp (decide := true) only [go_sem, Nat.reduceAdd, Nat.reduceMul, c26, c28, c33, c36, c37]; exact hK) ?_
     refine blockQ_n ?_
     refine AL_seq ?_
     refine rg0 [2] [0, 24, 56, 57, 58] (fun K hK => by simp (decide := true) only [go_sem, Nat.reduceAdd, Nat.reduceMul, c26, c28, c33, c36, c37]; exact hK) ?_
     replace h := Option.some.inj h
     obtain ⟨rfl, h1⟩ := Prod.mk.inj h
     obtain ⟨rfl, h2⟩ := Prod.mk.inj h1
     obtain ⟨rfl, h3⟩ := Prod.mk.inj h2
     obtain ⟨rfl, h4⟩ := Prod.mk.inj h3
     obtain ⟨rfl, h5⟩ := Prod.mk.inj h4
     obtain ⟨rfl, h6⟩ := Prod.mk.inj h5
     obtain ⟨rfl, rfl⟩ := Prod.mk.inj h6
     refine AL_ret (fun _ => rfl) ?_
     exact retF_mk rfl (by exact ⟨(by simp), trivial⟩) rfl (by exact ⟨rfl, rfl, rfl, rfl, rfl, rfl, trivial⟩) (by exact trivial) (by exact ⟨rfl, rfl⟩)
    ·
     refine AL_else (by simp (decide := true) only [go_sem, Nat.reduceAdd, Nat.reduceMul, c26, c28, c33]) ?_
     refine AL_seq ?_
     refine rg0 [0, 2, 3, 4, 11, 39] [0, 24, 32, 56, 57, 58] (fun K hK => by simp (decide := true) only [go_sem, Nat.reduceAdd, Nat.reduceMul, c26, c28, c33]; exact hK) ?_
     rcases ite_orp h with ⟨c38, h⟩ | ⟨c38, h⟩
     ·
      refine AL_then (by simp (decide := true) only [go_sem, Nat.reduceAdd, Nat.reduceMul, c26, c28, c33, c38]) ?_
      obtain ⟨⟨t632, t633, t634⟩, g39, h⟩ := bind_or h
      dsimp only at h
      obtain ⟨⟨t638, t639, t640⟩, g40, h⟩ := bind_or h
      dsimp only at h
      obtain ⟨c41, h⟩ := ite_lp h
      obtain ⟨c42, h⟩ := ite_lp h
      refine rg2 [2, 3] [0, 24, 32, 56, 57, 58] [] ⟨[42], [45, 48], [0]⟩ [] (fun K hK => by simp (decide := true) only [go_sem, Nat.reduceAdd, Nat.reduceMul, c26, c28, c33, c38, c41, c42]; refine ⟨_, _, _, spec_l1Cur_pick.V g39, ?_⟩; simp (decide := true) only [go_sem, Nat.reduceAdd, Nat.reduceMul, c26, c28, c33, c38, c41, c42]; refine ⟨_, _, _, spec_l1Cur_among.V g40, ?_⟩; simp (decide := true) only [go_sem, Nat.reduceAdd, Nat.reduceMul, c26, c28, c33, c38, c41, c42]; exact hK) ?_
      refine blockQ_n ?_
      refine AL_seq ?_
      refine rg0 [2] [0, 24, 56, 57, 58] (fun K hK => by simp (decide := true) only [go_sem, Nat.reduceAdd, Nat.reduceMul, c26, c28, c33, c38, c41, c42]; exact hK) ?_
      replace h := Option.some.inj h
      obtain ⟨rfl, h1⟩ := Prod.mk.inj h
      obtain ⟨rfl, h2⟩ := Prod.mk.inj h1
      obtain ⟨rfl, h3⟩ := Prod.mk.inj h2
      obtain ⟨rfl, h4⟩ := Prod.mk.inj h3
      obtain ⟨rfl, h5⟩ := Prod.mk.inj h4
      obtain ⟨rfl, h6⟩ := Prod.mk.inj h5
      obtain ⟨rfl, rfl⟩ := Prod.mk.inj h6
      refine AL_ret (fun _ => rfl) ?_
      exact retF_mk rfl (by exact ⟨(by simp), trivial⟩) rfl (by exact ⟨rfl, rfl, rfl, rfl, rfl, rfl, trivial⟩) (by exact trivial) (by exact ⟨rfl, rfl⟩)
     ·
      refine AL_else (by simp (decide := true) only [go_sem, Nat.reduceAdd, Nat.reduceMul, c26, c28, c33, c38]) ?_
      refine AL_seq ?_
      refine rg0 [2, 3, 50] [0, 24, 32, 56, 57, 58] (fun K hK => by simp (decide := true) only [go_sem, Nat.reduceAdd, Nat.reduceMul, c26, c28, c33, c38]; exact hK) ?_
      rcases ite_orp h with ⟨c43, h⟩ | ⟨c43, h⟩
      ·
       refine AL_then (by simp (decide := true) only [go_sem, Nat.reduceAdd, Nat.reduceMul, c26, c28, c33, c38, c43]) ?_
       obtain ⟨c44, h⟩ := ite_l h
       have c44l := lim8 c44
       replace c44 := eq_true c44
       refine rg0 [2, 3] [0, 24, 32, 56, 57, 448] (fun K hK => by simp (decide := true) only [go_sem, Nat.reduceAdd, Nat.reduceMul, c26, c28, c33, c38, c43, c44l, c44]; exact hK) ?_
       refine blockQ_n ?_
       refine AL_seq ?_
       refine rg0 [2] [0, 24, 56, 57, 448] (fun K hK => by simp (decide := true) only [go_sem, Nat.reduceAdd, Nat.reduceMul, c26, c28, c33, c38, c43, c44l, c44]; exact hK) ?_
       replace h := Option.some.inj h
       obtain ⟨rfl, h1⟩ := Prod.mk.inj h
       obtain ⟨rfl, h2⟩ := Prod.mk.inj h1
       obtain ⟨rfl, h3⟩ := Prod.mk.inj h2
       obtain ⟨rfl, h4⟩ := Prod.mk.inj h3
       obtain ⟨rfl, h5⟩ := Prod.mk.inj h4
       obtain ⟨rfl, h6⟩ := Prod.mk.inj h5
       obtain ⟨rfl, rfl⟩ := Prod.mk.inj h6
       refine AL_ret (fun _ => rfl) ?_
       exact retF_mk rfl (by exact ⟨(by simp), trivial⟩) rfl (by exact ⟨rfl, rfl, rfl, rfl, rfl, rfl, trivial⟩) (by exact trivial) (by exact ⟨rfl, rfl⟩)
      ·
       refine AL_else (by simp (decide := true) only [go_sem, Nat.reduceAdd, Nat.reduceMul, c26, c28, c33, c38, c43]) ?_
       refine AL_skip ?_
       refine blockQ_n ?_
       refine AL_seq ?_
       refine rg0 [2] [0, 24, 56, 57, 58] (fun K hK => by simp (decide := true) only [go_sem, Nat.reduceAdd, Nat.reduceMul, c26, c28, c33, c38, c43]; exact hK) ?_
       replace h := Option.some.inj h
       obtain ⟨rfl, h1⟩ := Prod.mk.inj h
       obtain ⟨rfl, h2⟩ := Prod.mk.inj h1
       obtain ⟨rfl, h3⟩ := Prod.mk.inj h2
       obtain ⟨rfl, h4⟩ := Prod.mk.inj h3
       obtain ⟨rfl, h5⟩ := Prod.mk.inj h4
       obtain ⟨rfl, h6⟩ := Prod.mk.inj h5
       obtain ⟨rfl, rfl⟩ := Prod.mk.inj h6
       refine AL_ret (fun _ => rfl) ?_
       exact retF_mk rfl (by exact ⟨(by simp), trivial⟩) rfl (by exact ⟨rfl, rfl, rfl, rfl, rfl, rfl, trivial⟩) (by exact trivial) (by exact ⟨rfl, rfl⟩)
/-! spec_DrawChangedBlocks : 71 -/
set_option maxRecDepth 100000 in
set_option maxHeartbeats 4000000 in
theorem spec_DrawChangedBlocks.V {k : Nat} {l0 : List Int} {r1 : Int} {r2 : Int} {r3 : Int} {r4 : List Int} {r5 : List Int} {r6 : List Int} {r7 : Int} {r8 : Int} {r9 : Int} {r10 : List Int} {r11 : List Int} {r12 : List Int} (h : spec_DrawChangedBlocks.f k l0 = some (r1, r2, r3, r4, r5, r6, r7, r8, r9, r10, r11, r12)) : FnV E 71 [.sl false 1 (mp mkB l0)] none (.tup [.agg [.int .i64 r1, .int .i64 r2, .int .i64 r3, .sl true 1 (mp mkI r4), .sl true 1 (mp mkI r5), .sl true 1 (mp mkI r6)], .agg [.int .i64 r7, .int .i64 r8, .int .i64 r9, .sl true 1 (mp mkI r10), .sl true 1 (mp mkI r11), .sl true 1 (mp mkI r12)]]) [] none := by
 refine FnV_list E (rs := [.cell 2 27, .cell 3 27]) Try.func71 (by rfl) rfl Try.ntmps71 rfl [] (by simp) rfl (by simp) rfl (fun us => ?_)
 simp only [argsL, memL, wrapL, wrap1, Nat.reduceAdd]
 unfold spec_DrawChangedBlocks.f at h
 refine AL_seq ?_
 refine rg0 [0, 2, 3] [24, 32] (fun K hK => by simp (decide := true) only [go_sem, Nat.reduceAdd, Nat.reduceMul]; exact hK) ?_
 refine AL_seq ?_
 refine rg0 [2, 3, 4] [24, 32, 96] (fun K hK => by simp (decide := true) only [go_sem, Nat.reduceAdd, Nat.reduceMul]; exact hK) ?_
 refine AL_seq ?_
 obtain ⟨⟨t648, t649, t650, t651, t654, t657, t660, t661⟩, g1, h⟩ := bind_or h
 dsimp only at h
 refine rg0 [2, 3, 4, 5] [24, 32, 48, 96] (fun K hK => by simp (decide := true) only [go_sem, Nat.reduceAdd, Nat.reduceMul]; refine ⟨_, _, _, spec_l1Cur_anyModel.V g1, ?_⟩; simp (decide := true) only [go_sem, Nat.reduceAdd, Nat.reduceMul]; exact hK) ?_
 refine AL_seq ?_
 refine AL_seq ?_
 refine AL_cut (fun S => (∃ kk : Nat, ∃ x20 x646000 x646001 x646002 x647000 x647001 x647002 x663000 x663001 x663002 x663003 x663004 x663005 x648000 x648001 x648002, kk ≤ k ∧ spec_DrawChangedBlocks.j0 kk x20 x648000 x648001 x648002 x663000 x663001 x663002 x663003 x663004 x663005 = some (r1, r2, r3, r4, r5, r6, r7, r8, r9, r10, r11, r12) ∧ At [(2, .ptr 24 0 0), (3, .ptr 32 0 0), (4, .ptr 96 0 0), (5, .ptr 48 0 0), (20, .bool x20)] [(24, some (.box [.int .i64 x646000, .int .i64 x646001, .int .i64 x646002, .nil, .nil, .nil])), (32, some (.box [.int .i64 x647000, .int .i64 x647001, .int .i64 x647002, .nil, .nil, .nil])), (48, some (.box [.int .i64 x663000, .int .i64 x663001, .int .i64 x663002, .sl true 1 (mp mkI x663003), .sl true 1 (mp mkI x663004), .sl true 1 (mp mkI x663005)])), (96, some (.box [.sl false 1 (mp mkB x648000), .int .i64 x648001, .int .u64 x648002]))] S)) ?_ ?_
 ·
  obtain ⟨t663, g2, h⟩ := bind_or h
  rcases ite_orb h with ⟨c3, h⟩ | ⟨c3, h⟩
  ·
   obtain ⟨⟨t664, t665, t666⟩, g4, h⟩ := bind_or h
   dsimp only at h
   refine rg1 [2, 3, 4, 5, 20] [24, 32, 48, 96] [(3, 17)] (fun K hK => by simp (decide := true) only [go_sem, Nat.reduceAdd, Nat.reduceMul, c3]; refine ⟨_, _, _, spec_moGood.V g2, ?_⟩; simp (decide := true) only [go_sem, Nat.reduceAdd, Nat.reduceMul, c3]; refine ⟨_, _, _, spec_l1Cur_one.V g4, ?_⟩; simp (decide := true) only [go_sem, Nat.reduceAdd, Nat.reduceMul, c3]; exact hK) ?_
   refine AL_meet ?_
   exact ⟨_, _, _, _, _, _, _, _, _, _, _, _, _, _, _, _, _, by omega, h, At_keep [2, 3, 4, 5, 20] [24, 32, 48, 96]⟩
  ·
   refine rg1 [2, 3, 4, 5, 20] [24, 32, 48, 96] [(3, 17)] (fun K hK => by simp (decide := true) only [go_sem, Nat.reduceAdd, Nat.reduceMul, c3]; refine ⟨_, _, _, spec_moGood.V g2, ?_⟩; simp (decide := true) only [go_sem, Nat.reduceAdd, Nat.reduceMul, c3]; exact hK) ?_
   refine AL_meet ?_
   exact ⟨_, _, _, _, _, _, _, _, _, _, _, _, _, _, _, _, _, by omega, h, At_keep [2, 3, 4, 5, 20] [24, 32, 48, 96]⟩
 ·
  intro S hS
  obtain ⟨kk5, x20, x646000, x646001, x646002, x647000, x647001, x647002, x663000, x663001, x663002, x663003, x663004, x663005, x648000, x648001, x648002, hkq6, h, hS⟩ := hS
  rcases kk5 with _ | n7
  · (rw [spec_DrawChangedBlocks.j0] at h; cases h)
  rw [spec_DrawChangedBlocks.j0] at h
  refine AW_at hS ?_
  rcases ite_orb h with ⟨c8, h⟩ | ⟨c8, h⟩
  ·
   refine AL_then (by simp (decide := true) only [go_sem, Nat.reduceAdd, Nat.reduceMul, c8]) ?_
   refine AL_seq ?_
   obtain ⟨⟨t667, t668, t669, t670, t673, t676, t679, t680⟩, g9, h⟩ := bind_or h
   dsimp only at h
   refine rg2 [2, 3] [24, 32] [] ⟨[21], [23], [96]⟩ [] (fun K hK => by simp (decide := true) only [go_sem, Nat.reduceAdd, Nat.reduceMul, c8]; refine ⟨_, _, _, spec_l1Cur_anyModel.V g9, ?_⟩; simp (decide := true) only [go_sem, Nat.reduceAdd, Nat.reduceMul, c8]; exact hK) ?_
   replace h := Option.some.inj h
   obtain ⟨rfl, h1⟩ := Prod.mk.inj h
   obtain ⟨rfl, h2⟩ := Prod.mk.inj h1
   obtain ⟨rfl, h3⟩ := Prod.mk.inj h2
   obtain ⟨rfl, h4⟩ := Prod.mk.inj h3
   obtain ⟨rfl, h5⟩ := Prod.mk.inj h4
   obtain ⟨rfl, h6⟩ := Prod.mk.inj h5
   obtain ⟨rfl, h7⟩ := Prod.mk.inj h6
   obtain ⟨rfl, h8⟩ := Prod.mk.inj h7
   obtain ⟨rfl, h9⟩ := Prod.mk.inj h8
   obtain ⟨rfl, h10⟩ := Prod.mk.inj h9
   obtain ⟨rfl, rfl⟩ := Prod.mk.inj h10
   refine AL_ret (fun _ => rfl) ?_
   exact retF_mk rfl (by exact ⟨(by simp), (by simp), trivial⟩) rfl (by exact ⟨⟨rfl, rfl, rfl, rfl, rfl, rfl, trivial⟩, ⟨rfl, rfl, rfl, rfl, rfl, rfl, trivial⟩, trivial⟩) (by exact trivial) (by exact trivial)
  ·
   refine AL_else (by simp (decide := true) only [go_sem, Nat.reduceAdd, Nat.reduceMul, c8]) ?_
   refine AL_skip ?_
   refine AL_seq ?_
   obtain ⟨⟨t681, t684, t685⟩, g10, h⟩ := bind_or h
   dsimp only at h
   refine rg0 [2, 3, 5, 6] [24, 32, 48] (fun K hK => by simp (decide := true) only [go_sem, Nat.reduceAdd, Nat.reduceMul, c8]; refine ⟨_, _, _, spec_l1Cur_holes.V g10, ?_⟩; simp (decide := true) only [go_sem, Nat.reduceAdd, Nat.reduceMul, c8]; exact hK) ?_
   refine AL_seq ?_
   refine AL_seq ?_
   obtain ⟨⟨t686, t687, t688, t689, t692, t695, t698⟩, g11, h⟩ := bind_or h
   dsimp only at h
   refine rg0 [2, 3, 5, 7, 8] [24, 32, 48, 64] (fun K hK => by simp (decide := true) only [go_sem, Nat.reduceAdd, Nat.reduceMul, c8]; refine ⟨_, _, _, spec_UpdateModel.V g11, ?_⟩; simp (decide := true) only [go_sem, Nat.reduceAdd, Nat.reduceMul, c8]; exact hK) ?_
   refine AL_seq ?_
   refine rg0 [2, 3, 5, 7, 34] [24, 32, 48, 64] (fun K hK => by simp (decide := true) only [go_sem, Nat.reduceAdd, Nat.reduceMul, c8]; exact hK) ?_
   rcases ite_orb h with ⟨c12, h⟩ | ⟨c12, h⟩
   ·
    refine AL_then (by simp (decide := true) only [go_sem, Nat.reduceAdd, Nat.reduceMul, c8, c12]) ?_
    refine AL_seq ?_
    refine rg2 [2, 3] [24, 32] [] ⟨[36], [100002], [24]⟩ [] (fun K hK => by simp (decide := true) only [go_sem, Nat.reduceAdd, Nat.reduceMul, c8, c12]; exact hK) ?_
    replace h := Option.some.inj h
    obtain ⟨rfl, h1⟩ := Prod.mk.inj h
    obtain ⟨rfl, h2⟩ := Prod.mk.inj h1
    obtain ⟨rfl, h3⟩ := Prod.mk.inj h2
    obtain ⟨rfl, h4⟩ := Prod.mk.inj h3
    obtain ⟨rfl, h5⟩ := Prod.mk.inj h4
    obtain ⟨rfl, h6⟩ := Prod.mk.inj h5
    obtain ⟨rfl, h7⟩ := Prod.mk.inj h6
    obtain ⟨rfl, h8⟩ := Prod.mk.inj h7
    obtain ⟨rfl, h9⟩ := Prod.mk.inj h8
    obtain ⟨rfl, h10⟩ := Prod.mk.inj h9
    obtain ⟨rfl, rfl⟩ := Prod.mk.inj h10
    refine AL_ret (fun _ => rfl) ?_
    exact retF_mk rfl (by exact ⟨(by simp), (by simp), trivial⟩) rfl (by exact ⟨⟨rfl, rfl, rfl, rfl, rfl, rfl, trivial⟩, ⟨rfl, rfl, rfl, rfl, rfl, rfl, trivial⟩, trivial⟩) (by exact trivial) (by exact trivial)
   ·
    refine AL_else (by simp (decide := true) only [go_sem, Nat.reduceAdd, Nat.reduceMul, c8, c12]) ?_
    refine AL_skip ?_
    refine AL_seq ?_
    refine rg2 [2, 3] [24, 32] [] ⟨[38], [100002], [24]⟩ [] (fun K hK => by simp (decide := true) only [go_sem, Nat.reduceAdd, Nat.reduceMul, c8, c12]; exact hK) ?_
    replace h := Option.some.inj h
    obtain ⟨rfl, h1⟩ := Prod.mk.inj h
    obtain ⟨rfl, h2⟩ := Prod.mk.inj h1
    obtain ⟨rfl, h3⟩ := Prod.mk.inj h2
    obtain ⟨rfl, h4⟩ := Prod.mk.inj h3
    obtain ⟨rfl, h5⟩ := Prod.mk.inj h4
    obtain ⟨rfl, h6⟩ := Prod.mk.inj h5
    obtain ⟨rfl, h7⟩ := Prod.mk.inj h6
    obtain ⟨rfl, h8⟩ := Prod.mk.inj h7
    obtain ⟨rfl, h9⟩ := Prod.mk.inj h8
    obtain ⟨rfl, h10⟩ := Prod.mk.inj h9
    obtain ⟨rfl, rfl⟩ := Prod.mk.inj h10
    refine AL_ret (fun _ => rfl) ?_
    exact retF_mk rfl (by exact ⟨(by simp), (by simp), trivial⟩) rfl (by exact ⟨⟨rfl, rfl, rfl, rfl, rfl, rfl, trivial⟩, ⟨rfl, rfl, rfl, rfl, rfl, rfl, trivial⟩, trivial⟩) (by exact trivial) (by exact trivial)
/-! spec_DrawKindChanges : 62 -/
set_option maxRecDepth 100000 in
set_option maxHeartbeats 4000000 in
theorem spec_DrawKindChanges.V {k : Nat} {l0 : List Int} {r1 : Int} {r2 : Int} {r3 : Int} {r4 : List Int} {r5 : List Int} {r6 : List Int} {r7 : Int} {r8 : Int} {r9 : Int} {r10 : List Int} {r11 : List Int} {r12 : List Int} {r13 : Int} (h : spec_DrawKindChanges.f k l0 = some (r1, r2, r3, r4, r5, r6, r7, r8, r9, r10, r11, r12, r13)) : FnV E 62 [.sl false 1 (mp mkB l0)] none (.tup [.agg [.int .i64 r1, .int .i64 r2, .int .i64 r3, .sl true 1 (mp mkI r4), .sl true 1 (mp mkI r5), .sl true 1 (mp mkI r6)], .agg [.int .i64 r7, .int .i64 r8, .int .i64 r9, .sl true 1 (mp mkI r10), .sl true 1 (mp mkI r11), .sl true 1 (mp mkI r12)], .int .i64 r13]) [] none := by
 refine FnV_list E (rs := [.cell 2 27, .cell 3 27, .tmp 4]) Try.func62 (by rfl) rfl Try.ntmps62 rfl [] (by simp) rfl (by simp) rfl (fun us => ?_)
 simp only [argsL, memL, wrapL, wrap1, Nat.reduceAdd]
 unfold spec_DrawKindChanges.f at h
 refine AL_seq ?_
 refine rg0 [0, 2, 3] [24, 32] (fun K hK => by simp (decide := true) only [go_sem, Nat.reduceAdd, Nat.reduceMul]; exact hK) ?_
 refine AL_seq ?_
 refine rg0 [0, 2, 3, 5] [24, 32, 88] (fun K hK => by simp (decide := true) only [go_sem, Nat.reduceAdd, Nat.reduceMul]; exact hK) ?_
 refine AL_seq ?_
 obtain ⟨⟨t703, t704, t705, t706, t709, t712, t715, t716, t717, t718, t721, t724⟩, g1, h⟩ := bind_or h
 dsimp only at h
 refine rg0 [2, 3, 5, 6, 7] [24, 32, 56, 64, 88] (fun K hK => by simp (decide := true) only [go_sem, Nat.reduceAdd, Nat.reduceMul]; refine ⟨_, _, _, spec_DrawChangedBlocks.V g1, ?_⟩; simp (decide := true) only [go_sem, Nat.reduceAdd, Nat.reduceMul]; exact hK) ?_
 refine AL_seq ?_
 obtain ⟨⟨t732, t733, t734⟩, g2, h⟩ := bind_or h
 dsimp only at h
 refine rg2 [2, 3, 4] [24, 32] [] ⟨[16, 17], [20, 100002], [24, 88]⟩ [] (fun K hK => by simp (decide := true) only [go_sem, Nat.reduceAdd, Nat.reduceMul]; refine ⟨_, _, _, spec_l1Cur_among.V g2, ?_⟩; simp (decide := true) only [go_sem, Nat.reduceAdd, Nat.reduceMul]; exact hK) ?_
 replace h := Option.some.inj h
 obtain ⟨rfl, h1⟩ := Prod.mk.inj h
 obtain ⟨rfl, h2⟩ := Prod.mk.inj h1
 obtain ⟨rfl, h3⟩ := Prod.mk.inj h2
 obtain ⟨rfl, h4⟩ := Prod.mk.inj h3
 obtain ⟨rfl, h5⟩ := Prod.mk.inj h4
 obtain ⟨rfl, h6⟩ := Prod.mk.inj h5
 obtain ⟨rfl, h7⟩ := Prod.mk.inj h6
 obtain ⟨rfl, h8⟩ := Prod.mk.inj h7
 obtain ⟨rfl, h9⟩ := Prod.mk.inj h8
 obtain ⟨rfl, h10⟩ := Prod.mk.inj h9
 obtain ⟨rfl, h11⟩ := Prod.mk.inj h10
 obtain ⟨rfl, rfl⟩ := Prod.mk.inj h11
 refine AL_ret (fun _ => rfl) ?_
 exact retF_mk rfl (by exact ⟨(by simp), (by simp), trivial, trivial⟩) rfl (by exact ⟨⟨rfl, rfl, rfl, rfl, rfl, rfl, trivial⟩, ⟨rfl, rfl, rfl, rfl, rfl, rfl, trivial⟩, rfl, trivial⟩) (by exact trivial) (by exact trivial)
end Go.Proofs.Ytfakhgopbhnocaa.PFnEstimates
