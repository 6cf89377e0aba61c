/- Each function's run, shown to compute what its plain function says. -/
import Derived.Test.YtfakhgopbhnocaaRFnEstimates
import Derived.KernelRfl
set_option linter.unusedVariables false
set_option linter.unusedSimpArgs false
namespace Go.Proofs.Ytfakhgopbhnocaa.PFnEstimates
open Go Go.Proofs.YtfakhgopbhnocaaVM Go.Proofs.Ytfakhgopbhnocaa.VE Go.RowKit Go.Proofs.YtfakhgopbhnocaaW.PrintWords Go.Proofs.YtfakhgopbhnocaaW.PrintLast Go.Proofs.YtfakhgopbhnocaaW.PrintMore
attribute [local go_sem] runF_nil runF_cons kG_go kG_store kG_skip kG_pass kS_go kS_call kQ_go flagB_no inFl_some inFl_store hasB_nil hasB_hit hasB_miss flagB_eq clB_no wrB_no clB_yes wrB_store wrB_call opdL_load opdL_index opdL_len nm0_eq nmV_nil nmV_cons pt0_ptr pt0_int pt0_bool pt0_sl pt0_nil pt0_ref pt0_agg guardB_none guardB_some gL_some gB_true gB_false gB_skip look_hit look_miss tg_hit tg_miss bg_hit bg_miss ev_tmp ev_int ev_bool ev_nil ev_agg sQ_some stO_move stO_assign stO_pick stO_un stO_bin stO_field stO_load stO_index stO_extract stO_conv stO_box stO_alloc stO_len stO_call qUn_not qUn_neg qPick_true qPick_false qField_ptr qField_fat qLd_some qConv_some sB_some sA_some qLen_sl qLen_nil boxV_agg boxV_int boxV_bool boxV_nil boxV_sl boxV_ref qBin_add qBin_sub qBin_mul qBin_quo qBin_rem qBin_and qBin_or qBin_shr qBin_shl qBin_eql qBin_neq qBin_lss qBin_leq qBin_gtr qBin_geq qBin_beq qBin_bne qEx_tup keepT_cons keepB_nil keepB_cons keepT_nil qLoad_fat1 qLoad_fat2 qLoad_ptr ldB_box1 ld1_some ldB_box2 ldB_row ldR_1 ldR_2 unc_int unc_bool unc_nil unc_ref unc_sl unc_con_sl unc_con_nil rt_int rt_bool rt_nil rt_sl qIndex_sl ixT_some ixS_some qIndex_ref ixR_some ixR1_some argPtr_nil argPtr_ptr argPtr_int argPtr_bool argPtr_sl argPtr_ref argPtr_nl argPtr_agg memIn_none memIn_some mi1_box mi2_some viewL_int viewL_bool viewL_nil viewL_sl viewL_ref vwR_some cons2_some viewLs_nil viewLs_cons viewAs_nil viewAs_cons viewA_int viewA_bool viewA_nil viewA_sl viewA_ref viewA_agg agg1_some viewA_ptr sC_go sC2_some renT_int renT_bool renT_nil renT_sl renT_agg renT_tup renA_int renA_bool renA_nil renA_sl renA_agg renL_int renL_bool renL_nil renL_sl rowsD_nil memD_none memD_some md1_box mergeL_nil mergeL_int mergeL_bool mergeL_sl mergeL_nl stO_build sP_some sF_some fillV_nil fillV_cons fl1_go stO_nilCheck qNil_ptr stO_min qMin_int stO_max qMax_int stO_make sMe_some sM_some stO_slice sSe_some sS_own sS_fix rowsV_nil rowsV_cons rv1_some rowV_int rowV_bool rowV_nil rowV_sl rowV_agg stO_append sApp_new sApp_on qStore_eq qS2_some qS1_some qApp_eq qA0_some qA1_some qA2_nil qA2_ref stored1_ptr st1_box st1_row setL_nil setL_cons qA3_some absB_t absB_b0 absB_b1 absB_nil noBB_row noBB_box noTB_int noAB_int noLB_int killT_int killA_int killL_int noTB_bool noAB_bool noLB_bool killT_bool killA_bool killL_bool noTB_nil noAB_nil noLB_nil killT_nil killA_nil killL_nil noTB_und noAB_und noLB_und killT_und killA_und killL_und noTB_skip noAB_skip noLB_skip killT_skip killA_skip killL_skip noTB_sl noAB_sl noLB_sl killT_sl killA_sl killL_sl noTB_fat noAB_fat noLB_fat killT_fat killA_fat killL_fat noTB_ref noAB_ref noLB_ref killT_ref0 killT_ref killA_ref0 killA_ref killL_ref0 killL_ref noTB_ptr noAB_ptr noLB_ptr killT_ptr0 killT_ptr killA_ptr0 killA_ptr killL_ptr0 killL_ptr noTB_agg noAB_agg noTB_tup noLB_con_sl noLB_con_nil killT_agg killA_agg killT_tup killL_con_sl killL_con_nil killTL_nil killTL_cons killBL_nil killBL_none killBL_row killBL_box shut1_int shut1_bool shut1_nil shut1_sl scal_int scal_bool known1_int known1_bool known1_nil known1_sl known1_ref opdL_call nm0_func intsOf_nil intsOf_cons qBin_eqA qBin_neA eqA_eq eqA_ne nil_beq renT_ref renA_ref renL_ref rowsD_cons qLen_refR lenR_some tn_lt rowI_getn rowI_set nlit rowI_scal mp_nil rowI_cons rowI_len mkI_eq mkB_eq mp_length mp_app mp_ne rowI_one rowI_zero ibeq ibne true_and and_true and_self decide_true decide_false Bool.not_true Bool.not_false Bool.not_not List.length_map List.length_cons List.length_nil List.getElem?_cons_zero List.getElem?_cons_succ List.drop_zero List.drop_succ_cons List.take_succ_cons List.take_zero List.map_cons List.map_nil List.all_cons List.all_nil Bool.and_true Bool.true_and List.getD_cons_zero List.getD_cons_succ List.set_cons_zero List.set_cons_succ Option.isSome_none Option.isSome_some List.nil_append List.cons_append List.append_eq List.append_nil List.length_append cond_true cond_false ne_eq List.map_eq_nil_iff not_false_eq_true List.cons_ne_nil Bool.true_bne Bool.false_bne Bool.bne_true Bool.bne_false Bool.true_beq Bool.false_beq Int.zero_sub List.cons_beq_cons Option.map_some true_or or_true beq_self_eq_true Nat.zero_lt_succ ti_3 ti_5 ti_22 ti_24 ti_25 ti_27 ti_68 ti_127 ti_129 el_22 el_25 el_32 el_60 el_205 fo_24_0 fo_24_1 fo_24_2 fo_27_0 fo_27_1 fo_27_2 fo_27_3 fo_68_0 fo_68_1 fo_68_2 fo_68_3 fo_68_4 fo_129_0 fo_129_1 fo_129_2 bo_4 io_3 io_5 io_127 pl_24 pl_27 pl_68 pl_129 eqs_24 loud_6 loud_36 loud_38 loud_46 loud_50 loud_51 loud_52 loud_53 loud_56 loud_57 loud_58 loud_59 loud_60 loud_61 loud_62 loud_63 loud_64 loud_65 loud_66 loud_67 loud_68 loud_69 loud_70 loud_71 loud_96 loud_97 loud_100 loud_103 loud_105 loud_108 loud_109 loud_110 loud_111 loud_112 loud_118 loud_119 loud_120 loud_121 loud_122 loud_123 loud_124 loud_125 loud_127 loud_128 loud_129 loud_130 loud_131 loud_132 loud_133 loud_134 loud_135 loud_136 loud_137 loud_138 loud_139 loud_140 loud_141 loud_142 loud_143 loud_144 loud_145 loud_177 loud_178 loud_180 loud_183 loud_184 loud_185 loud_186 loud_187 loud_188 loud_189 loud_190 loud_191 loud_192 loud_193 loud_194 loud_195 i64w td_60 wl mx_rule mn_rule rowI_get rowB_get mkS68_eq rowS68_get rowS68_one rowS68_cons rowS68_len mkS24_eq rowS24_get rowS24_one rowS24_cons rowS24_len mkL_eq rowL_one rowL_cons rowL_len
/-! impl_IsGrid : 121 -/
set_option maxRecDepth 100000 in
set_option maxHeartbeats 4000000 in
theorem impl_IsGrid.V {a0_0 : Int} {a0_1 : Int} {a0_2 : Int} {r : Bool} (h : impl_IsGrid.f a0_0 a0_1 a0_2 = some r) : FnV E 121 [.agg [.int .i64 a0_0, .int .i64 a0_1, .int .i64 a0_2]] none (.bool r) [] none := by
 refine FnV_list E (rs := [.tmp 2]) Try.func121 (by rfl) rfl Try.ntmps121 rfl [] (by simp) rfl (by simp) rfl (fun us => ?_)
 simp only [argsL, memL, wrapL, wrap1, Nat.reduceAdd]
 unfold impl_IsGrid.f at h
 refine AL_seq ?_
 refine rg0 [1] [16] (fun K hK => by simp (decide := true) only [go_sem, Nat.reduceAdd, Nat.reduceMul]; exact hK) ?_
 refine AL_seq ?_
 rcases ite_orp h with ⟨c1, h⟩ | ⟨c1, h⟩
 ·
  rcases ite_orp h with ⟨c2, h⟩ | ⟨c2, h⟩
  ·
   rcases ite_orp h with ⟨c3, h⟩ | ⟨c3, h⟩
   ·
    rcases ite_orp h with ⟨c4, h⟩ | ⟨c4, h⟩
    ·
     rcases ite_orp h with ⟨c5, h⟩ | ⟨c5, h⟩
     ·
      rcases ite_orp h with ⟨c6, h⟩ | ⟨c6, h⟩
      ·
       refine rg1 [2] [] [(3, 6), (8, 11), (13, 16), (18, 21), (23, 26), (28, 31)] (fun K hK => by simp (decide := true) (maxSteps := 4000000) only [go_sem, Nat.reduceAdd, Nat.reduceMul, c1, c2, c3, c4, c5, c6]; exact hK) ?_
       obtain rfl := Option.some.inj h
       refine AL_ret (fun _ => rfl) ?_
       exact retF_mk rfl (by exact ⟨trivial, trivial⟩) rfl (by exact rfl) (by exact trivial) (by exact trivial)
      ·
       refine rg1 [2] [] [(3, 6), (8, 11), (13, 16), (18, 21), (23, 26), (28, 31)] (fun K hK => by simp (decide := true) (maxSteps := 4000000) only [go_sem, Nat.reduceAdd, Nat.reduceMul, c1, c2, c3, c4, c5, c6]; exact hK) ?_
       obtain rfl := Option.some.inj h
       refine AL_ret (fun _ => rfl) ?_
       exact retF_mk rfl (by exact ⟨trivial, trivial⟩) rfl (by exact rfl) (by exact trivial) (by exact trivial)
     ·
      refine rg1 [2] [] [(3, 6), (8, 11), (13, 16), (18, 21), (23, 26), (28, 31)] (fun K hK => by simp (decide := true) (maxSteps := 4000000) only [go_sem, Nat.reduceAdd, Nat.reduceMul, c1, c2, c3, c4, c5]; exact hK) ?_
      obtain rfl := Option.some.inj h
      refine AL_ret (fun _ => rfl) ?_
      exact retF_mk rfl (by exact ⟨trivial, trivial⟩) rfl (by exact rfl) (by exact trivial) (by exact trivial)
    ·
     refine rg1 [2] [] [(3, 6), (8, 11), (13, 16), (18, 21), (23, 26), (28, 31)] (fun K hK => by simp (decide := true) (maxSteps := 4000000) only [go_sem, Nat.reduceAdd, Nat.reduceMul, c1, c2, c3, c4]; exact hK) ?_
     obtain rfl := Option.some.inj h
     refine AL_ret (fun _ => rfl) ?_
     exact retF_mk rfl (by exact ⟨trivial, trivial⟩) rfl (by exact rfl) (by exact trivial) (by exact trivial)
   ·
    refine rg1 [2] [] [(3, 6), (8, 11), (13, 16), (18, 21), (23, 26), (28, 31)] (fun K hK => by simp (decide := true) (maxSteps := 4000000) only [go_sem, Nat.reduceAdd, Nat.reduceMul, c1, c2, c3]; exact hK) ?_
    obtain rfl := Option.some.inj h
    refine AL_ret (fun _ => rfl) ?_
    exact retF_mk rfl (by exact ⟨trivial, trivial⟩) rfl (by exact rfl) (by exact trivial) (by exact trivial)
  ·
   refine rg1 [2] [] [(3, 6), (8, 11), (13, 16), (18, 21), (23, 26), (28, 31)] (fun K hK => by simp (decide := true) (maxSteps := 4000000) only [go_sem, Nat.reduceAdd, Nat.reduceMul, c1, c2]; exact hK) ?_
   obtain rfl := Option.some.inj h
   refine AL_ret (fun _ => rfl) ?_
   exact retF_mk rfl (by exact ⟨trivial, trivial⟩) rfl (by exact rfl) (by exact trivial) (by exact trivial)
 ·
  refine rg1 [2] [] [(3, 6), (8, 11), (13, 16), (18, 21), (23, 26), (28, 31)] (fun K hK => by simp (decide := true) (maxSteps := 4000000) only [go_sem, Nat.reduceAdd, Nat.reduceMul, c1]; exact hK) ?_
  obtain rfl := Option.some.inj h
  refine AL_ret (fun _ => rfl) ?_
  exact retF_mk rfl (by exact ⟨trivial, trivial⟩) rfl (by exact rfl) (by exact trivial) (by exact trivial)
/-! impl_blocksOf : 122 -/
set_option maxRecDepth 100000 in
set_option maxHeartbeats 4000000 in
theorem impl_blocksOf.V {a0_0 : Int} {a0_1 : Int} {a0_2 : Int} {r : Int} (h : impl_blocksOf.f a0_0 a0_1 a0_2 = some r) : FnV E 122 [.agg [.int .i64 a0_0, .int .i64 a0_1, .int .i64 a0_2]] none (.int .i64 r) [] none := by
 refine FnV_list E (rs := [.tmp 2]) Try.func122 (by rfl) rfl Try.ntmps122 rfl [] (by simp) rfl (by simp) rfl (fun us => ?_)
 simp only [argsL, memL, wrapL, wrap1, Nat.reduceAdd]
 unfold impl_blocksOf.f at h
 refine AL_seq ?_
 refine rg0 [1] [16] (fun K hK => by simp (decide := true) only [go_sem, Nat.reduceAdd, Nat.reduceMul]; exact hK) ?_
 refine AL_seq ?_
 refine rg0 [2] [] (fun K hK => by simp (decide := true) only [go_sem, Nat.reduceAdd, Nat.reduceMul]; exact hK) ?_
 obtain rfl := Option.some.inj h
 refine AL_ret (fun _ => rfl) ?_
 exact retF_mk rfl (by exact ⟨trivial, trivial⟩) rfl (by exact rfl) (by exact trivial) (by exact trivial)
/-! impl_IsModel : 36 -/
set_option maxRecDepth 100000 in
set_option maxHeartbeats 4000000 in
theorem impl_IsModel.V {k : Nat} {a0_0 : Int} {a0_1 : Int} {a0_2 : Int} {l0_3 : List Int} {l0_4 : List Int} {l0_5 : List Int} {r : Bool} (h : impl_IsModel.f k a0_0 a0_1 a0_2 l0_3 l0_4 l0_5 = some r) : FnV E 36 [.agg [.int .i64 a0_0, .int .i64 a0_1, .int .i64 a0_2, .sl false 1 (mp mkI l0_3), .sl false 1 (mp mkI l0_4), .sl false 1 (mp mkI l0_5)]] none (.bool r) [] none := by
 refine FnV_list E (rs := [.tmp 2]) Try.func36 (by rfl) rfl Try.ntmps36 rfl [] (by simp) rfl (by simp) rfl (fun us => ?_)
 simp only [argsL, memL, wrapL, wrap1, Nat.reduceAdd]
 unfold impl_IsModel.f at h
 refine AL_seq ?_
 refine rg0 [1] [16] (fun K hK => by simp (decide := true) only [go_sem, Nat.reduceAdd, Nat.reduceMul]; exact hK) ?_
 refine AL_seq ?_
 refine AL_seq ?_
 obtain ⟨t104, g1, h⟩ := bind_or h
 refine rg0 [1, 8] [16] (fun K hK => by simp (decide := true) only [go_sem, Nat.reduceAdd, Nat.reduceMul]; refine ⟨_, _, _, impl_IsGrid.V g1, ?_⟩; simp (decide := true) only [go_sem, Nat.reduceAdd, Nat.reduceMul]; exact hK) ?_
 rcases ite_orb h with ⟨c2, h⟩ | ⟨c2, h⟩
 ·
  refine AL_else (by simp (decide := true) only [go_sem, Nat.reduceAdd, Nat.reduceMul, c2]) ?_
  refine AL_skip ?_
  refine AL_seq ?_
  obtain ⟨t105, g3, h⟩ := bind_or h
  refine rg0 [1, 3] [16] (fun K hK => by simp (decide := true) only [go_sem, Nat.reduceAdd, Nat.reduceMul, c2]; refine ⟨_, _, _, impl_blocksOf.V g3, ?_⟩; simp (decide := true) only [go_sem, Nat.reduceAdd, Nat.reduceMul, c2]; exact hK) ?_
  refine AL_seq ?_
  refine AL_seq ?_
  refine AL_cut (fun S => (∃ kk : Nat, ∃ x3 x30 x104000 x104001 x104002 x104003 x104004 x104005, kk ≤ k ∧ impl_IsModel.j0 kk x3 x30 x104000 x104001 x104002 x104003 x104004 x104005 = some r ∧ At [(1, .ptr 16 0 0), (3, .int .i64 x3), (30, .bool x30)] [(16, some (.box [.int .i64 x104000, .int .i64 x104001, .int .i64 x104002, .sl false 1 (mp mkI x104003), .sl false 1 (mp mkI x104004), .sl false 1 (mp mkI x104005)]))] S)) ?_ ?_
  ·
   rcases ite_orp h with ⟨c4, h⟩ | ⟨c4, h⟩
   ·
    rcases ite_orp h with ⟨c5, h⟩ | ⟨c5, h⟩
    ·
     refine rg1 [1, 3, 30] [16] [(5, 17), (12, 24)] (fun K hK => by simp (decide := true) (maxSteps := 4000000) only [go_sem, Nat.reduceAdd, Nat.reduceMul, c2, c4, c5]; exact hK) ?_
     refine AL_meet ?_
     exact ⟨_, _, _, _, _, _, _, _, _, by omega, h, At_keep [1, 3, 30] [16]⟩
    ·
     refine rg1 [1, 3, 30] [16] [(5, 17), (12, 24)] (fun K hK => by simp (decide := true) (maxSteps := 4000000) only [go_sem, Nat.reduceAdd, Nat.reduceMul, c2, c4, c5]; exact hK) ?_
     refine AL_meet ?_
     exact ⟨_, _, _, _, _, _, _, _, _, by omega, h, At_keep [1, 3, 30] [16]⟩
   ·
    refine rg1 [1, 3, 30] [16] [(5, 17), (12, 24)] (fun K hK => by simp (decide := true) (maxSteps := 4000000) only [go_sem, Nat.reduceAdd, Nat.reduceMul, c2, c4]; exact hK) ?_
    refine AL_meet ?_
    exact ⟨_, _, _, _, _, _, _, _, _, by omega, h, At_keep [1, 3, 30] [16]⟩
  ·
   intro S hS
   obtain ⟨kk6, x3, x30, x104000, x104001, x104002, x104003, x104004, x104005, hkq7, h, hS⟩ := hS
   rcases kk6 with _ | n8
   · (rw [impl_IsModel.j0] at h; cases h)
   rw [impl_IsModel.j0] at h
   refine AW_at hS ?_
   rcases ite_orb h with ⟨c9, h⟩ | ⟨c9, h⟩
   ·
    refine AL_then (by simp (decide := true) only [go_sem, Nat.reduceAdd, Nat.reduceMul, c9]) ?_
    refine AL_seq ?_
    refine rg0 [2] [] (fun K hK => by simp (decide := true) only [go_sem, Nat.reduceAdd, Nat.reduceMul, c9]; exact hK) ?_
    obtain rfl := Option.some.inj h
    refine AL_ret (fun _ => rfl) ?_
    exact retF_mk rfl (by exact ⟨trivial, trivial⟩) rfl (by exact rfl) (by exact trivial) (by exact trivial)
   ·
    refine AL_else (by simp (decide := true) only [go_sem, Nat.reduceAdd, Nat.reduceMul, c9]) ?_
    refine AL_skip ?_
    refine AL_seq ?_
    refine AL_seq ?_
    refine rg0 [1, 31, 32] [16] (fun K hK => by simp (decide := true) only [go_sem, Nat.reduceAdd, Nat.reduceMul, c9]; exact hK) ?_
    refine AL_block ?_
    refine AL_loop (n := n8) (fun n S => (∃ x31 x32 x104000 x104001 x104002 x104003 x104004 x104005, n ≤ n8 ∧ impl_IsModel.l0 n x31 x32 x104000 x104001 x104002 x104003 x104004 x104005 = some r ∧ At [(1, .ptr 16 0 0), (31, .int .i64 x31), (32, .int .i64 x32)] [(16, some (.box [.int .i64 x104000, .int .i64 x104001, .int .i64 x104002, .sl false 1 (mp mkI x104003), .sl false 1 (mp mkI x104004), .sl false 1 (mp mkI x104005)]))] S)) ?_ ?_
    · exact ⟨_, _, _, _, _, _, _, _, by omega, h, At_keep [1, 31, 32] [16]⟩
    ·
     intro n S hS
     obtain ⟨x31, x32, x104000, x104001, x104002, x104003, x104004, x104005, hkq10, h, hS⟩ := hS
     rcases n with _ | n11
     · (rw [impl_IsModel.l0] at h; cases h)
     rw [impl_IsModel.l0] at h
     refine AW_at hS ?_
     refine AL_seq ?_
     refine rg0 [1, 31, 32, 33] [16] (fun K hK => by simp (decide := true) only [go_sem, Nat.reduceAdd, Nat.reduceMul]; exact hK) ?_
     refine AL_seq ?_
     rcases ite_orp h with ⟨c12, h⟩ | ⟨c12, h⟩
     ·
      refine AL_then (by simp (decide := true) only [go_sem, Nat.reduceAdd, Nat.reduceMul, c12]) ?_
      refine AL_skip ?_
      refine AL_seq ?_
      refine AL_block ?_
      refine AL_seq ?_
      refine rg0 [1, 4, 31, 32] [16] (fun K hK => by simp (decide := true) only [go_sem, Nat.reduceAdd, Nat.reduceMul, c12]; exact hK) ?_
      refine AL_seq ?_
      obtain ⟨c13, h⟩ := ite_lp h
      obtain ⟨c14, h⟩ := ite_lp h
      rcases ite_orp h with ⟨c15, h⟩ | ⟨c15, h⟩
      ·
       refine rg1 [1, 31, 32, 80] [16] [(6, 41), (14, 49), (22, 57), (30, 65), (38, 73)] (fun K hK => by simp (decide := true) (maxSteps := 4000000) only [go_sem, Nat.reduceAdd, Nat.reduceMul, c12, c13, c14, c15]; exact hK) ?_
       refine AL_then (by simp (decide := true) only [go_sem, Nat.reduceAdd, Nat.reduceMul, c12, c13, c14, c15]) ?_
       refine AL_seq ?_
       refine rg0 [2] [] (fun K hK => by simp (decide := true) only [go_sem, Nat.reduceAdd, Nat.reduceMul, c12, c13, c14, c15]; exact hK) ?_
       obtain rfl := Option.some.inj h
       refine AL_ret (fun _ => rfl) ?_
       exact retF_mk rfl (by exact ⟨trivial, trivial⟩) rfl (by exact rfl) (by exact trivial) (by exact trivial)
      ·
       rcases ite_orp h with ⟨c16, h⟩ | ⟨c16, h⟩
       ·
        refine rg1 [1, 31, 32, 80] [16] [(6, 41), (14, 49), (22, 57), (30, 65), (38, 73)] (fun K hK => by simp (decide := true) (maxSteps := 4000000) only [go_sem, Nat.reduceAdd, Nat.reduceMul, c12, c13, c14, c15, c16]; exact hK) ?_
        refine AL_then (by simp (decide := true) only [go_sem, Nat.reduceAdd, Nat.reduceMul, c12, c13, c14, c15, c16]) ?_
        refine AL_seq ?_
        refine rg0 [2] [] (fun K hK => by simp (decide := true) only [go_sem, Nat.reduceAdd, Nat.reduceMul, c12, c13, c14, c15, c16]; exact hK) ?_
        obtain rfl := Option.some.inj h
        refine AL_ret (fun _ => rfl) ?_
        exact retF_mk rfl (by exact ⟨trivial, trivial⟩) rfl (by exact rfl) (by exact trivial) (by exact trivial)
       ·
        obtain ⟨c17, h⟩ := ite_lp h
        rcases ite_orp h with ⟨c18, h⟩ | ⟨c18, h⟩
        ·
         refine rg1 [1, 31, 32, 80] [16] [(6, 41), (14, 49), (22, 57), (30, 65), (38, 73)] (fun K hK => by simp (decide := true) (maxSteps := 4000000) only [go_sem, Nat.reduceAdd, Nat.reduceMul, c12, c13, c14, c15, c16, c17, c18]; exact hK) ?_
         refine AL_then (by simp (decide := true) only [go_sem, Nat.reduceAdd, Nat.reduceMul, c12, c13, c14, c15, c16, c17, c18]) ?_
         refine AL_seq ?_
         refine rg0 [2] [] (fun K hK => by simp (decide := true) only [go_sem, Nat.reduceAdd, Nat.reduceMul, c12, c13, c14, c15, c16, c17, c18]; exact hK) ?_
         obtain rfl := Option.some.inj h
         refine AL_ret (fun _ => rfl) ?_
         exact retF_mk rfl (by exact ⟨trivial, trivial⟩) rfl (by exact rfl) (by exact trivial) (by exact trivial)
        ·
         rcases ite_orp h with ⟨c19, h⟩ | ⟨c19, h⟩
         ·
          refine rg1 [1, 31, 32, 80] [16] [(6, 41), (14, 49), (22, 57), (30, 65), (38, 73)] (fun K hK => by simp (decide := true) (maxSteps := 4000000) only [go_sem, Nat.reduceAdd, Nat.reduceMul, c12, c13, c14, c15, c16, c17, c18, c19]; exact hK) ?_
          refine AL_then (by simp (decide := true) only [go_sem, Nat.reduceAdd, Nat.reduceMul, c12, c13, c14, c15, c16, c17, c18, c19]) ?_
          refine AL_seq ?_
          refine rg0 [2] [] (fun K hK => by simp (decide := true) only [go_sem, Nat.reduceAdd, Nat.reduceMul, c12, c13, c14, c15, c16, c17, c18, c19]; exact hK) ?_
          obtain rfl := Option.some.inj h
          refine AL_ret (fun _ => rfl) ?_
          exact retF_mk rfl (by exact ⟨trivial, trivial⟩) rfl (by exact rfl) (by exact trivial) (by exact trivial)
         ·
          obtain ⟨c20, h⟩ := ite_lp h
          rcases ite_orp h with ⟨c21, h⟩ | ⟨c21, h⟩
          ·
           refine rg1 [1, 31, 32, 80] [16] [(6, 41), (14, 49), (22, 57), (30, 65), (38, 73)] (fun K hK => by simp (decide := true) (maxSteps := 4000000) only [go_sem, Nat.reduceAdd, Nat.reduceMul, c12, c13, c14, c15, c16, c17, c18, c19, c20, c21]; exact hK) ?_
           refine AL_then (by simp (decide := true) only [go_sem, Nat.reduceAdd, Nat.reduceMul, c12, c13, c14, c15, c16, c17, c18, c19, c20, c21]) ?_
           refine AL_seq ?_
           refine rg0 [2] [] (fun K hK => by simp (decide := true) only [go_sem, Nat.reduceAdd, Nat.reduceMul, c12, c13, c14, c15, c16, c17, c18, c19, c20, c21]; exact hK) ?_
           obtain rfl := Option.some.inj h
           refine AL_ret (fun _ => rfl) ?_
           exact retF_mk rfl (by exact ⟨trivial, trivial⟩) rfl (by exact rfl) (by exact trivial) (by exact trivial)
          ·
           refine rg1 [1, 31, 32, 80] [16] [(6, 41), (14, 49), (22, 57), (30, 65), (38, 73)] (fun K hK => by simp (decide := true) (maxSteps := 4000000) only [go_sem, Nat.reduceAdd, Nat.reduceMul, c12, c13, c14, c15, c16, c17, c18, c19, c20, c21]; exact hK) ?_
           rcases ite_orp h with ⟨c22, h⟩ | ⟨c22, h⟩
           ·
            refine AL_then (by simp (decide := true) only [go_sem, Nat.reduceAdd, Nat.reduceMul, c12, c13, c14, c15, c16, c17, c18, c19, c20, c21, c22]) ?_
            refine AL_seq ?_
            refine rg0 [2] [] (fun K hK => by simp (decide := true) only [go_sem, Nat.reduceAdd, Nat.reduceMul, c12, c13, c14, c15, c16, c17, c18, c19, c20, c21, c22]; exact hK) ?_
            obtain rfl := Option.some.inj h
            refine AL_ret (fun _ => rfl) ?_
            exact retF_mk rfl (by exact ⟨trivial, trivial⟩) rfl (by exact rfl) (by exact trivial) (by exact trivial)
           ·
            refine AL_else (by simp (decide := true) only [go_sem, Nat.reduceAdd, Nat.reduceMul, c12, c13, c14, c15, c16, c17, c18, c19, c20, c21, c22]) ?_
            refine AL_skip ?_
            refine blockQ_n ?_
            refine rg0 [1, 31, 32] [16] (fun K hK => by simp (decide := true) only [go_sem, Nat.reduceAdd, Nat.reduceMul, c12, c13, c14, c15, c16, c17, c18, c19, c20, c21, c22]; exact hK) ?_
            refine AL_again (m := n11) (by omega) ?_
            exact ⟨_, _, _, _, _, _, _, _, by omega, h, At_keep [1, 31, 32] [16]⟩
     ·
      refine AL_else (by simp (decide := true) only [go_sem, Nat.reduceAdd, Nat.reduceMul, c12]) ?_
      refine AL_exit ?_
      repeat first | refine thenQ_x ?_ | refine blockQ_miss (by decide) ?_
      refine blockQ_hit ?_
      refine AL_seq ?_
      refine rg0 [2] [] (fun K hK => by simp (decide := true) only [go_sem, Nat.reduceAdd, Nat.reduceMul, c12]; exact hK) ?_
      obtain rfl := Option.some.inj h
      refine AL_ret (fun _ => rfl) ?_
      exact retF_mk rfl (by exact ⟨trivial, trivial⟩) rfl (by exact rfl) (by exact trivial) (by exact trivial)
 ·
  refine AL_then (by simp (decide := true) only [go_sem, Nat.reduceAdd, Nat.reduceMul, c2]) ?_
  refine AL_seq ?_
  refine rg0 [2] [] (fun K hK => by simp (decide := true) only [go_sem, Nat.reduceAdd, Nat.reduceMul, c2]; exact hK) ?_
  obtain rfl := Option.some.inj h
  refine AL_ret (fun _ => rfl) ?_
  exact retF_mk rfl (by exact ⟨trivial, trivial⟩) rfl (by exact rfl) (by exact trivial) (by exact trivial)
/-! laws_big : 38 -/
set_option maxRecDepth 100000 in
set_option maxHeartbeats 4000000 in
theorem laws_big.V {l0 : List Int} {l1 : List Int} {r : Bool} (h : laws_big.f l0 l1 = some r) : FnV E 38 [.sl false 1 (mp mkB l0), .sl false 1 (mp mkB l1)] none (.bool r) [] none := by
 refine FnV_list E (rs := [.tmp 4]) Try.func38 (by rfl) rfl Try.ntmps38 rfl [] (by simp) rfl (by simp) rfl (fun us => ?_)
 simp only [argsL, memL, wrapL, wrap1, Nat.reduceAdd]
 unfold laws_big.f at h
 refine AL_seq ?_
 refine rg0 [0, 1] [] (fun K hK => by simp (decide := true) only [go_sem, Nat.reduceAdd, Nat.reduceMul]; exact hK) ?_
 refine AL_seq ?_
 rcases ite_orp h with ⟨c1, h⟩ | ⟨c1, h⟩
 ·
  refine rg1 [4] [] [(3, 8)] (fun K hK => by simp (decide := true) (maxSteps := 4000000) only [go_sem, Nat.reduceAdd, Nat.reduceMul, c1]; exact hK) ?_
  obtain rfl := Option.some.inj h
  refine AL_ret (fun _ => rfl) ?_
  exact retF_mk rfl (by exact ⟨trivial, trivial⟩) rfl (by exact rfl) (by exact trivial) (by exact trivial)
 ·
  refine rg1 [4] [] [(3, 8)] (fun K hK => by simp (decide := true) (maxSteps := 4000000) only [go_sem, Nat.reduceAdd, Nat.reduceMul, c1]; exact hK) ?_
  obtain rfl := Option.some.inj h
  refine AL_ret (fun _ => rfl) ?_
  exact retF_mk rfl (by exact ⟨trivial, trivial⟩) rfl (by exact rfl) (by exact trivial) (by exact trivial)
/-! laws_sameInts : 46 -/
set_option maxRecDepth 100000 in
set_option maxHeartbeats 4000000 in
theorem laws_sameInts.V {k : Nat} {l0 : List Int} {l1 : List Int} {r : Bool} (h : laws_sameInts.f k l0 l1 = some r) : FnV E 46 [.sl false 1 (mp mkI l0), .sl false 1 (mp mkI l1)] none (.bool r) [] none := by
 refine FnV_list E (rs := [.tmp 4]) Try.func46 (by rfl) rfl Try.ntmps46 rfl [] (by simp) rfl (by simp) rfl (fun us => ?_)
 simp only [argsL, memL, wrapL, wrap1, Nat.reduceAdd]
 unfold laws_sameInts.f at h
 refine AL_seq ?_
 refine rg0 [0, 1] [] (fun K hK => by simp (decide := true) only [go_sem, Nat.reduceAdd, Nat.reduceMul]; exact hK) ?_
 refine AL_seq ?_
 refine AL_seq ?_
 refine rg0 [0, 1, 10] [] (fun K hK => by simp (decide := true) only [go_sem, Nat.reduceAdd, Nat.reduceMul]; exact hK) ?_
 rcases ite_orp h with ⟨c1, h⟩ | ⟨c1, h⟩
 ·
  refine AL_else (by simp (decide := true) only [go_sem, Nat.reduceAdd, Nat.reduceMul, c1]) ?_
  refine AL_skip ?_
  refine AL_seq ?_
  refine AL_seq ?_
  refine rg0 [0, 1, 12, 13] [] (fun K hK => by simp (decide := true) only [go_sem, Nat.reduceAdd, Nat.reduceMul, c1]; exact hK) ?_
  refine AL_block ?_
  refine AL_loop (n := k) (fun n S => (∃ x0 x1 x12 x13, n ≤ k ∧ laws_sameInts.l0 n x0 x1 x12 x13 = some r ∧ At [(0, .sl false 1 (mp mkI x0)), (1, .sl false 1 (mp mkI x1)), (12, .int .i64 x12), (13, .int .i64 x13)] [] S)) ?_ ?_
  · exact ⟨_, _, _, _, by omega, h, At_keep [0, 1, 12, 13] []⟩
  ·
   intro n S hS
   obtain ⟨x0, x1, x12, x13, hkq2, h, hS⟩ := hS
   rcases n with _ | n3
   · (rw [laws_sameInts.l0] at h; cases h)
   rw [laws_sameInts.l0] at h
   refine AW_at hS ?_
   refine AL_seq ?_
   refine rg0 [0, 1, 12, 13, 14] [] (fun K hK => by simp (decide := true) only [go_sem, Nat.reduceAdd, Nat.reduceMul]; exact hK) ?_
   refine AL_seq ?_
   rcases ite_orp h with ⟨c4, h⟩ | ⟨c4, h⟩
   ·
    refine AL_then (by simp (decide := true) only [go_sem, Nat.reduceAdd, Nat.reduceMul, c4]) ?_
    refine AL_skip ?_
    refine AL_seq ?_
    refine AL_block ?_
    refine AL_seq ?_
    refine rg0 [0, 1, 5, 12, 13] [] (fun K hK => by simp (decide := true) only [go_sem, Nat.reduceAdd, Nat.reduceMul, c4]; exact hK) ?_
    refine AL_seq ?_
    obtain ⟨c5, h⟩ := ite_lp h
    obtain ⟨c6, h⟩ := ite_lp h
    obtain ⟨c7, h⟩ := ite_lp h
    refine rg0 [0, 1, 12, 13, 24] [] (fun K hK => by simp (decide := true) only [go_sem, Nat.reduceAdd, Nat.reduceMul, c4, c5, c6, c7]; exact hK) ?_
    rcases ite_orp h with ⟨c8, h⟩ | ⟨c8, h⟩
    ·
     refine AL_else (by simp (decide := true) only [go_sem, Nat.reduceAdd, Nat.reduceMul, c4, c5, c6, c7, c8]) ?_
     refine AL_skip ?_
     refine blockQ_n ?_
     refine rg0 [0, 1, 12, 13] [] (fun K hK => by simp (decide := true) only [go_sem, Nat.reduceAdd, Nat.reduceMul, c4, c5, c6, c7, c8]; exact hK) ?_
     refine AL_again (m := n3) (by omega) ?_
     exact ⟨_, _, _, _, by omega, h, At_keep [0, 1, 12, 13] []⟩
    ·
     refine AL_then (by simp (decide := true) only [go_sem, Nat.reduceAdd, Nat.reduceMul, c4, c5, c6, c7, c8]) ?_
     refine AL_seq ?_
     refine rg0 [4] [] (fun K hK => by simp (decide := true) only [go_sem, Nat.reduceAdd, Nat.reduceMul, c4, c5, c6, c7, c8]; exact hK) ?_
     obtain rfl := Option.some.inj h
     refine AL_ret (fun _ => rfl) ?_
     exact retF_mk rfl (by exact ⟨trivial, trivial⟩) rfl (by exact rfl) (by exact trivial) (by exact trivial)
   ·
    refine AL_else (by simp (decide := true) only [go_sem, Nat.reduceAdd, Nat.reduceMul, c4]) ?_
    refine AL_exit ?_
    repeat first | refine thenQ_x ?_ | refine blockQ_miss (by decide) ?_
    refine blockQ_hit ?_
    refine AL_seq ?_
    refine rg0 [4] [] (fun K hK => by simp (decide := true) only [go_sem, Nat.reduceAdd, Nat.reduceMul, c4]; exact hK) ?_
    obtain rfl := Option.some.inj h
    refine AL_ret (fun _ => rfl) ?_
    exact retF_mk rfl (by exact ⟨trivial, trivial⟩) rfl (by exact rfl) (by exact trivial) (by exact trivial)
 ·
  refine AL_then (by simp (decide := true) only [go_sem, Nat.reduceAdd, Nat.reduceMul, c1]) ?_
  refine AL_seq ?_
  refine rg0 [4] [] (fun K hK => by simp (decide := true) only [go_sem, Nat.reduceAdd, Nat.reduceMul, c1]; exact hK) ?_
  obtain rfl := Option.some.inj h
  refine AL_ret (fun _ => rfl) ?_
  exact retF_mk rfl (by exact ⟨trivial, trivial⟩) rfl (by exact rfl) (by exact trivial) (by exact trivial)
/-! laws_pSameModel : 51 -/
set_option maxRecDepth 100000 in
set_option maxHeartbeats 4000000 in
theorem laws_pSameModel.V {k : Nat} {a0_0 : Int} {a0_1 : Int} {a0_2 : Int} {l0_3 : List Int} {l0_4 : List Int} {l0_5 : List Int} {a1_0 : Int} {a1_1 : Int} {a1_2 : Int} {l1_3 : List Int} {l1_4 : List Int} {l1_5 : List Int} {r : Bool} (h : laws_pSameModel.f k a0_0 a0_1 a0_2 l0_3 l0_4 l0_5 a1_0 a1_1 a1_2 l1_3 l1_4 l1_5 = some r) : FnV E 51 [.agg [.int .i64 a0_0, .int .i64 a0_1, .int .i64 a0_2, .sl false 1 (mp mkI l0_3), .sl false 1 (mp mkI l0_4), .sl false 1 (mp mkI l0_5)], .agg [.int .i64 a1_0, .int .i64 a1_1, .int .i64 a1_2, .sl false 1 (mp mkI l1_3), .sl false 1 (mp mkI l1_4), .sl false 1 (mp mkI l1_5)]] none (.bool r) [] none := by
 refine FnV_list E (rs := [.tmp 4]) Try.func51 (by rfl) rfl Try.ntmps51 rfl [] (by simp) rfl (by simp) rfl (fun us => ?_)
 simp only [argsL, memL, wrapL, wrap1, Nat.reduceAdd]
 unfold laws_pSameModel.f at h
 refine AL_seq ?_
 refine rg0 [2, 3] [24, 32] (fun K hK => by simp (decide := true) only [go_sem, Nat.reduceAdd, Nat.reduceMul]; exact hK) ?_
 refine AL_seq ?_
 rcases ite_orb h with ⟨c1, h⟩ | ⟨c1, h⟩
 ·
  try simp only [ibeq, ibne, Bool.true_bne, Bool.false_bne, Bool.bne_true, Bool.bne_false, Bool.true_beq, Bool.false_beq, Bool.not_eq_true', Bool.not_eq_false'] at c1
  obtain ⟨t116, g2, h⟩ := bind_or h
  rcases ite_orb h with ⟨c3, h⟩ | ⟨c3, h⟩
  ·
   obtain ⟨t117, g4, h⟩ := bind_or h
   rcases ite_orb h with ⟨c5, h⟩ | ⟨c5, h⟩
   ·
    obtain ⟨t118, g6, h⟩ := bind_or h
    refine rg1 [4] [] [(5, 10), (12, 17), (19, 24)] (fun K hK => by simp (decide := true) (maxSteps := 4000000) only [go_sem, Nat.reduceAdd, Nat.reduceMul, c1, c3, c5]; refine ⟨_, _, _, laws_sameInts.V g2, ?_⟩; simp (decide := true) (maxSteps := 4000000) only [go_sem, Nat.reduceAdd, Nat.reduceMul, c1, c3, c5]; refine ⟨_, _, _, laws_sameInts.V g4, ?_⟩; simp (decide := true) (maxSteps := 4000000) only [go_sem, Nat.reduceAdd, Nat.reduceMul, c1, c3, c5]; refine ⟨_, _, _, laws_sameInts.V g6, ?_⟩; simp (decide := true) (maxSteps := 4000000) only [go_sem, Nat.reduceAdd, Nat.reduceMul, c1, c3, c5]; exact hK) ?_
    obtain rfl := Option.some.inj h
    refine AL_ret (fun _ => rfl) ?_
    exact retF_mk rfl (by exact ⟨trivial, trivial⟩) rfl (by exact rfl) (by exact trivial) (by exact trivial)
   ·
    refine rg1 [4] [] [(5, 10), (12, 17), (19, 24)] (fun K hK => by simp (decide := true) (maxSteps := 4000000) only [go_sem, Nat.reduceAdd, Nat.reduceMul, c1, c3, c5]; refine ⟨_, _, _, laws_sameInts.V g2, ?_⟩; simp (decide := true) (maxSteps := 4000000) only [go_sem, Nat.reduceAdd, Nat.reduceMul, c1, c3, c5]; refine ⟨_, _, _, laws_sameInts.V g4, ?_⟩; simp (decide := true) (maxSteps := 4000000) only [go_sem, Nat.reduceAdd, Nat.reduceMul, c1, c3, c5]; exact hK) ?_
    obtain rfl := Option.some.inj h
    refine AL_ret (fun _ => rfl) ?_
    exact retF_mk rfl (by exact ⟨trivial, trivial⟩) rfl (by exact rfl) (by exact trivial) (by exact trivial)
  ·
   refine rg1 [4] [] [(5, 10), (12, 17), (19, 24)] (fun K hK => by simp (decide := true) (maxSteps := 4000000) only [go_sem, Nat.reduceAdd, Nat.reduceMul, c1, c3]; refine ⟨_, _, _, laws_sameInts.V g2, ?_⟩; simp (decide := true) (maxSteps := 4000000) only [go_sem, Nat.reduceAdd, Nat.reduceMul, c1, c3]; exact hK) ?_
   obtain rfl := Option.some.inj h
   refine AL_ret (fun _ => rfl) ?_
   exact retF_mk rfl (by exact ⟨trivial, trivial⟩) rfl (by exact rfl) (by exact trivial) (by exact trivial)
 ·
  try simp only [ibeq, ibne, Bool.true_bne, Bool.false_bne, Bool.bne_true, Bool.bne_false, Bool.true_beq, Bool.false_beq, Bool.not_eq_true', Bool.not_eq_false'] at c1
  refine rg1 [4] [] [(5, 10), (12, 17), (19, 24)] (fun K hK => by simp (decide := true) (maxSteps := 4000000) only [go_sem, Nat.reduceAdd, Nat.reduceMul, c1]; exact hK) ?_
  obtain rfl := Option.some.inj h
  refine AL_ret (fun _ => rfl) ?_
  exact retF_mk rfl (by exact ⟨trivial, trivial⟩) rfl (by exact rfl) (by exact trivial) (by exact trivial)
/-! impl_areTwins : 97 -/
set_option maxRecDepth 100000 in
set_option maxHeartbeats 4000000 in
theorem impl_areTwins.V {k : Nat} {a0_0 : Int} {a0_1 : Int} {a0_2 : Int} {l0_3 : List Int} {l0_4 : List Int} {l0_5 : List Int} {a1_0 : Int} {a1_1 : Int} {a1_2 : Int} {l1_3 : List Int} {l1_4 : List Int} {l1_5 : List Int} {r : Bool} (h : impl_areTwins.f k a0_0 a0_1 a0_2 l0_3 l0_4 l0_5 a1_0 a1_1 a1_2 l1_3 l1_4 l1_5 = some r) : FnV E 97 [.agg [.int .i64 a0_0, .int .i64 a0_1, .int .i64 a0_2, .sl false 1 (mp mkI l0_3), .sl false 1 (mp mkI l0_4), .sl false 1 (mp mkI l0_5)], .agg [.int .i64 a1_0, .int .i64 a1_1, .int .i64 a1_2, .sl false 1 (mp mkI l1_3), .sl false 1 (mp mkI l1_4), .sl false 1 (mp mkI l1_5)]] none (.bool r) [] none := by
 refine FnV_list E (rs := [.tmp 4]) Try.func97 (by rfl) rfl Try.ntmps97 rfl [] (by simp) rfl (by simp) rfl (fun us => ?_)
 simp only [argsL, memL, wrapL, wrap1, Nat.reduceAdd]
 unfold impl_areTwins.f at h
 refine AL_seq ?_
 refine rg0 [2, 3] [24, 32] (fun K hK => by simp (decide := true) only [go_sem, Nat.reduceAdd, Nat.reduceMul]; exact hK) ?_
 refine AL_seq ?_
 obtain ⟨t121, g1, h⟩ := bind_or h
 rcases ite_orb h with ⟨c2, h⟩ | ⟨c2, h⟩
 ·
  obtain ⟨t122, g3, h⟩ := bind_or h
  rcases ite_orb h with ⟨c4, h⟩ | ⟨c4, h⟩
  ·
   refine rg1 [4] [] [(2, 7), (6, 11)] (fun K hK => by simp (decide := true) (maxSteps := 4000000) only [go_sem, Nat.reduceAdd, Nat.reduceMul, c2, c4]; refine ⟨_, _, _, impl_IsModel.V g1, ?_⟩; simp (decide := true) (maxSteps := 4000000) only [go_sem, Nat.reduceAdd, Nat.reduceMul, c2, c4]; refine ⟨_, _, _, impl_IsModel.V g3, ?_⟩; simp (decide := true) (maxSteps := 4000000) only [go_sem, Nat.reduceAdd, Nat.reduceMul, c2, c4]; exact hK) ?_
   obtain rfl := Option.some.inj h
   refine AL_ret (fun _ => rfl) ?_
   exact retF_mk rfl (by exact ⟨trivial, trivial⟩) rfl (by exact rfl) (by exact trivial) (by exact trivial)
  ·
   refine rg1 [4] [] [(2, 7), (6, 11)] (fun K hK => by simp (decide := true) (maxSteps := 4000000) only [go_sem, Nat.reduceAdd, Nat.reduceMul, c2, c4]; refine ⟨_, _, _, impl_IsModel.V g1, ?_⟩; simp (decide := true) (maxSteps := 4000000) only [go_sem, Nat.reduceAdd, Nat.reduceMul, c2, c4]; refine ⟨_, _, _, impl_IsModel.V g3, ?_⟩; simp (decide := true) (maxSteps := 4000000) only [go_sem, Nat.reduceAdd, Nat.reduceMul, c2, c4]; exact hK) ?_
   obtain rfl := Option.some.inj h
   refine AL_ret (fun _ => rfl) ?_
   exact retF_mk rfl (by exact ⟨trivial, trivial⟩) rfl (by exact rfl) (by exact trivial) (by exact trivial)
 ·
  refine rg1 [4] [] [(2, 7), (6, 11)] (fun K hK => by simp (decide := true) (maxSteps := 4000000) only [go_sem, Nat.reduceAdd, Nat.reduceMul, c2]; refine ⟨_, _, _, impl_IsModel.V g1, ?_⟩; simp (decide := true) (maxSteps := 4000000) only [go_sem, Nat.reduceAdd, Nat.reduceMul, c2]; exact hK) ?_
  obtain rfl := Option.some.inj h
  refine AL_ret (fun _ => rfl) ?_
  exact retF_mk rfl (by exact ⟨trivial, trivial⟩) rfl (by exact rfl) (by exact trivial) (by exact trivial)
/-! impl_ChangedBlocks : 52 -/
set_option maxRecDepth 100000 in
set_option maxHeartbeats 4000000 in
theorem impl_ChangedBlocks.V {k : Nat} {a0_0 : Int} {a0_1 : Int} {a0_2 : Int} {l0_3 : List Int} {l0_4 : List Int} {l0_5 : List Int} {a1_0 : Int} {a1_1 : Int} {a1_2 : Int} {l1_3 : List Int} {l1_4 : List Int} {l1_5 : List Int} {r1 : List Int} {r2 : Bool} (h : impl_ChangedBlocks.f k a0_0 a0_1 a0_2 l0_3 l0_4 l0_5 a1_0 a1_1 a1_2 l1_3 l1_4 l1_5 = some (r1, r2)) : FnV E 52 [.agg [.int .i64 a0_0, .int .i64 a0_1, .int .i64 a0_2, .sl false 1 (mp mkI l0_3), .sl false 1 (mp mkI l0_4), .sl false 1 (mp mkI l0_5)], .agg [.int .i64 a1_0, .int .i64 a1_1, .int .i64 a1_2, .sl false 1 (mp mkI l1_3), .sl false 1 (mp mkI l1_4), .sl false 1 (mp mkI l1_5)]] none (.tup [.sl true 1 (mp mkI r1), .bool r2]) [] none := by
 refine FnV_list E (rs := [.tmp 4, .tmp 5]) Try.func52 (by rfl) rfl Try.ntmps52 rfl [] (by simp) rfl (by simp) rfl (fun us => ?_)
 simp only [argsL, memL, wrapL, wrap1, Nat.reduceAdd]
 unfold impl_ChangedBlocks.f at h
 refine AL_seq ?_
 refine rg0 [2, 3] [24, 32] (fun K hK => by simp (decide := true) only [go_sem, Nat.reduceAdd, Nat.reduceMul]; exact hK) ?_
 refine AL_seq ?_
 refine AL_seq ?_
 obtain ⟨t125, g1, h⟩ := bind_or h
 refine rg0 [2, 3, 11] [24, 32] (fun K hK => by simp (decide := true) only [go_sem, Nat.reduceAdd, Nat.reduceMul]; refine ⟨_, _, _, impl_areTwins.V g1, ?_⟩; simp (decide := true) only [go_sem, Nat.reduceAdd, Nat.reduceMul]; exact hK) ?_
 rcases ite_orb h with ⟨c2, h⟩ | ⟨c2, h⟩
 ·
  refine AL_else (by simp (decide := true) only [go_sem, Nat.reduceAdd, Nat.reduceMul, c2]) ?_
  refine AL_skip ?_
  refine AL_seq ?_
  refine rg2 [2, 3, 6] [24, 32, 104] [12] ⟨[], [], []⟩ [] (fun K hK => by simp (decide := true) only [go_sem, Nat.reduceAdd, Nat.reduceMul, c2]; exact hK) ?_
  refine AL_seq ?_
  refine AL_seq ?_
  refine rg0 [2, 3, 6, 15, 16] [24, 32, 104] (fun K hK => by simp (decide := true) only [go_sem, Nat.reduceAdd, Nat.reduceMul, c2]; exact hK) ?_
  refine AL_block ?_
  refine AL_loop (n := k) (fun n S => (∃ x15 x16 x124000 x124001 x124002 x124003 x124004 x124005 x125000 x125001 x125002 x125003 x125004 x125005 x6, n ≤ k ∧ impl_ChangedBlocks.l0 n x6 x15 x16 x124000 x124001 x124002 x124003 x124004 x124005 x125000 x125001 x125002 x125003 x125004 x125005 = some (r1, r2) ∧ At [(2, .ptr 24 0 0), (3, .ptr 32 0 0), (6, .ref 104), (15, .int .i64 x15), (16, .int .i64 x16)] [(24, some (.box [.int .i64 x124000, .int .i64 x124001, .int .i64 x124002, .sl false 1 (mp mkI x124003), .sl false 1 (mp mkI x124004), .sl false 1 (mp mkI x124005)])), (32, some (.box [.int .i64 x125000, .int .i64 x125001, .int .i64 x125002, .sl false 1 (mp mkI x125003), .sl false 1 (mp mkI x125004), .sl false 1 (mp mkI x125005)])), (104, some (.row 3 1 (mp mkI x6)))] S) ∨ (∃ x15 x16 x124000 x124001 x124002 x124003 x124004 x124005 x125000 x125001 x125002 x125003 x125004 x125005 x6, n ≤ k ∧ impl_ChangedBlocks.l0 n x6 x15 x16 x124000 x124001 x124002 x124003 x124004 x124005 x125000 x125001 x125002 x125003 x125004 x125005 = some (r1, r2) ∧ At [(2, .ptr 24 0 0), (3, .ptr 32 0 0), (6, .ref 480), (15, .int .i64 x15), (16, .int .i64 x16)] [(24, some (.box [.int .i64 x124000, .int .i64 x124001, .int .i64 x124002, .sl false 1 (mp mkI x124003), .sl false 1 (mp mkI x124004), .sl false 1 (mp mkI x124005)])), (32, some (.box [.int .i64 x125000, .int .i64 x125001, .int .i64 x125002, .sl false 1 (mp mkI x125003), .sl false 1 (mp mkI x125004), .sl false 1 (mp mkI x125005)])), (480, some (.row 3 1 (mp mkI x6)))] S)) ?_ ?_
  · exact .inl ⟨_, _, _, _, _, _, _, _, _, _, _, _, _, _, _, by omega, h, At_keep [2, 3, 6, 15, 16] [24, 32, 104]⟩
  ·
   intro n S hS
   rcases hS with hS | hS
   ·
    obtain ⟨x15, x16, x124000, x124001, x124002, x124003, x124004, x124005, x125000, x125001, x125002, x125003, x125004, x125005, x6, hkq3, h, hS⟩ := hS
    rcases n with _ | n4
    · (rw [impl_ChangedBlocks.l0] at h; cases h)
    rw [impl_ChangedBlocks.l0] at h
    refine AW_at hS ?_
    refine AL_seq ?_
    refine rg0 [2, 3, 6, 15, 16, 17] [24, 32, 104] (fun K hK => by simp (decide := true) only [go_sem, Nat.reduceAdd, Nat.reduceMul]; exact hK) ?_
    refine AL_seq ?_
    rcases ite_orp h with ⟨c5, h⟩ | ⟨c5, h⟩
    ·
     refine AL_then (by simp (decide := true) only [go_sem, Nat.reduceAdd, Nat.reduceMul, c5]) ?_
     refine AL_skip ?_
     refine AL_seq ?_
     refine AL_block ?_
     refine AL_seq ?_
     refine rg0 [2, 3, 6, 7, 15, 16] [24, 32, 104] (fun K hK => by simp (decide := true) only [go_sem, Nat.reduceAdd, Nat.reduceMul, c5]; exact hK) ?_
     refine AL_seq ?_
     obtain ⟨c6, h⟩ := ite_lp h
     obtain ⟨c7, h⟩ := ite_lp h
     obtain ⟨c8, h⟩ := ite_lp h
     rcases ite_orp h with ⟨c9, h⟩ | ⟨c9, h⟩
     ·
      obtain ⟨c10, h⟩ := ite_lp h
      obtain ⟨c11, h⟩ := ite_lp h
      rcases ite_orp h with ⟨c12, h⟩ | ⟨c12, h⟩
      ·
       obtain ⟨c13, h⟩ := ite_lp h
       obtain ⟨c14, h⟩ := ite_lp h
       refine rg1 [2, 3, 6, 7, 15, 16, 55] [24, 32, 104] [(11, 30), (24, 43)] (fun K hK => by simp (decide := true) (maxSteps := 4000000) only [go_sem, Nat.reduceAdd, Nat.reduceMul, c5, c6, c7, c8, c9, c10, c11, c12, c13, c14]; exact hK) ?_
       rcases ite_orp h with ⟨c15, h⟩ | ⟨c15, h⟩
       ·
        refine AL_else (by simp (decide := true) only [go_sem, Nat.reduceAdd, Nat.reduceMul, c5, c6, c7, c8, c9, c10, c11, c12, c13, c14, c15]) ?_
        refine AL_skip ?_
        refine blockQ_n ?_
        refine rg0 [2, 3, 6, 15, 16] [24, 32, 104] (fun K hK => by simp (decide := true) only [go_sem, Nat.reduceAdd, Nat.reduceMul, c5, c6, c7, c8, c9, c10, c11, c12, c13, c14, c15]; exact hK) ?_
        refine AL_again (m := n4) (by omega) ?_
        exact .inl ⟨_, _, _, _, _, _, _, _, _, _, _, _, _, _, _, by omega, h, At_keep [2, 3, 6, 15, 16] [24, 32, 104]⟩
       ·
        refine AL_then (by simp (decide := true) only [go_sem, Nat.reduceAdd, Nat.reduceMul, c5, c6, c7, c8, c9, c10, c11, c12, c13, c14, c15]) ?_
        obtain ⟨c16, h⟩ := ite_l h
        have c16l := lim8 c16
        replace c16 := eq_true c16
        refine rg0 [2, 3, 6, 15, 16] [24, 32, 480] (fun K hK => by simp (decide := true) only [go_sem, Nat.reduceAdd, Nat.reduceMul, c5, c6, c7, c8, c9, c10, c11, c12, c13, c14, c15, c16l, c16]; exact hK) ?_
        refine blockQ_n ?_
        refine rg0 [2, 3, 6, 15, 16] [24, 32, 480] (fun K hK => by simp (decide := true) only [go_sem, Nat.reduceAdd, Nat.reduceMul, c5, c6, c7, c8, c9, c10, c11, c12, c13, c14, c15, c16l, c16]; exact hK) ?_
        refine AL_again (m := n4) (by omega) ?_
        exact .inr (⟨_, _, _, _, _, _, _, _, _, _, _, _, _, _, _, by omega, h, At_keep [2, 3, 6, 15, 16] [24, 32, 480]⟩)
      ·
       refine rg1 [2, 3, 6, 7, 15, 16, 55] [24, 32, 104] [(11, 30), (24, 43)] (fun K hK => by simp (decide := true) (maxSteps := 4000000) only [go_sem, Nat.reduceAdd, Nat.reduceMul, c5, c6, c7, c8, c9, c10, c11, c12]; exact hK) ?_
       refine AL_then (by simp (decide := true) only [go_sem, Nat.reduceAdd, Nat.reduceMul, c5, c6, c7, c8, c9, c10, c11, c12]) ?_
       obtain ⟨c17, h⟩ := ite_l h
       have c17l := lim8 c17
       replace c17 := eq_true c17
       refine rg0 [2, 3, 6, 15, 16] [24, 32, 480] (fun K hK => by simp (decide := true) only [go_sem, Nat.reduceAdd, Nat.reduceMul, c5, c6, c7, c8, c9, c10, c11, c12, c17l, c17]; exact hK) ?_
       refine blockQ_n ?_
       refine rg0 [2, 3, 6, 15, 16] [24, 32, 480] (fun K hK => by simp (decide := true) only [go_sem, Nat.reduceAdd, Nat.reduceMul, c5, c6, c7, c8, c9, c10, c11, c12, c17l, c17]; exact hK) ?_
       refine AL_again (m := n4) (by omega) ?_
       exact .inr (⟨_, _, _, _, _, _, _, _, _, _, _, _, _, _, _, by omega, h, At_keep [2, 3, 6, 15, 16] [24, 32, 480]⟩)
     ·
      refine rg1 [2, 3, 6, 7, 15, 16, 55] [24, 32, 104] [(11, 30), (24, 43)] (fun K hK => by simp (decide := true) (maxSteps := 4000000) only [go_sem, Nat.reduceAdd, Nat.reduceMul, c5, c6, c7, c8, c9]; exact hK) ?_
      refine AL_then (by simp (decide := true) only [go_sem, Nat.reduceAdd, Nat.reduceMul, c5, c6, c7, c8, c9]) ?_
      obtain ⟨c18, h⟩ := ite_l h
      have c18l := lim8 c18
      replace c18 := eq_true c18
      refine rg0 [2, 3, 6, 15, 16] [24, 32, 480] (fun K hK => by simp (decide := true) only [go_sem, Nat.reduceAdd, Nat.reduceMul, c5, c6, c7, c8, c9, c18l, c18]; exact hK) ?_
      refine blockQ_n ?_
      refine rg0 [2, 3, 6, 15, 16] [24, 32, 480] (fun K hK => by simp (decide := true) only [go_sem, Nat.reduceAdd, Nat.reduceMul, c5, c6, c7, c8, c9, c18l, c18]; exact hK) ?_
      refine AL_again (m := n4) (by omega) ?_
      exact .inr (⟨_, _, _, _, _, _, _, _, _, _, _, _, _, _, _, by omega, h, At_keep [2, 3, 6, 15, 16] [24, 32, 480]⟩)
    ·
     refine AL_else (by simp (decide := true) only [go_sem, Nat.reduceAdd, Nat.reduceMul, c5]) ?_
     refine AL_exit ?_
     repeat first | refine thenQ_x ?_ | refine blockQ_miss (by decide) ?_
     refine blockQ_hit ?_
     refine AL_seq ?_
     refine rg0 [4, 5] [104] (fun K hK => by simp (decide := true) only [go_sem, Nat.reduceAdd, Nat.reduceMul, c5]; exact hK) ?_
     replace h := Option.some.inj h
     obtain ⟨rfl, rfl⟩ := Prod.mk.inj h
     refine AL_ret (fun _ => rfl) ?_
     exact retF_mk rfl (by exact ⟨trivial, trivial, trivial⟩) rfl (by exact ⟨rfl, rfl, trivial⟩) (by exact trivial) (by exact trivial)
   ·
    obtain ⟨x15, x16, x124000, x124001, x124002, x124003, x124004, x124005, x125000, x125001, x125002, x125003, x125004, x125005, x6, hkq19, h, hS⟩ := hS
    rcases n with _ | n20
    · (rw [impl_ChangedBlocks.l0] at h; cases h)
    rw [impl_ChangedBlocks.l0] at h
    refine AW_at hS ?_
    refine AL_seq ?_
    refine rg0 [2, 3, 6, 15, 16, 17] [24, 32, 480] (fun K hK => by simp (decide := true) only [go_sem, Nat.reduceAdd, Nat.reduceMul]; exact hK) ?_
    refine AL_seq ?_
    rcases ite_orp h with ⟨c21, h⟩ | ⟨c21, h⟩
    ·
     refine AL_then (by simp (decide := true) only [go_sem, Nat.reduceAdd, Nat.reduceMul, c21]) ?_
     refine AL_skip ?_
     refine AL_seq ?_
     refine AL_block ?_
     refine AL_seq ?_
     refine rg0 [2, 3, 6, 7, 15, 16] [24, 32, 480] (fun K hK => by simp (decide := true) only [go_sem, Nat.reduceAdd, Nat.reduceMul, c21]; exact hK) ?_
     refine AL_seq ?_
     obtain ⟨c22, h⟩ := ite_lp h
     obtain ⟨c23, h⟩ := ite_lp h
     obtain ⟨c24, h⟩ := ite_lp h
     rcases ite_orp h with ⟨c25, h⟩ | ⟨c25, h⟩
     ·
      obtain ⟨c26, h⟩ := ite_lp h
      obtain ⟨c27, h⟩ := ite_lp h
      rcases ite_orp h with ⟨c28, h⟩ | ⟨c28, h⟩
      ·
       obtain ⟨c29, h⟩ := ite_lp h
       obtain ⟨c30, h⟩ := ite_lp h
       refine rg1 [2, 3, 6, 7, 15, 16, 55] [24, 32, 480] [(11, 30), (24, 43)] (fun K hK => by simp (decide := true) (maxSteps := 4000000) only [go_sem, Nat.reduceAdd, Nat.reduceMul, c21, c22, c23, c24, c25, c26, c27, c28, c29, c30]; exact hK) ?_
       rcases ite_orp h with ⟨c31, h⟩ | ⟨c31, h⟩
       ·
        refine AL_else (by simp (decide := true) only [go_sem, Nat.reduceAdd, Nat.reduceMul, c21, c22, c23, c24, c25, c26, c27, c28, c29, c30, c31]) ?_
        refine AL_skip ?_
        refine blockQ_n ?_
        refine rg0 [2, 3, 6, 15, 16] [24, 32, 480] (fun K hK => by simp (decide := true) only [go_sem, Nat.reduceAdd, Nat.reduceMul, c21, c22, c23, c24, c25, c26, c27, c28, c29, c30, c31]; exact hK) ?_
        refine AL_again (m := n20) (by omega) ?_
        exact .inr (⟨_, _, _, _, _, _, _, _, _, _, _, _, _, _, _, by omega, h, At_keep [2, 3, 6, 15, 16] [24, 32, 480]⟩)
       ·
        refine AL_then (by simp (decide := true) only [go_sem, Nat.reduceAdd, Nat.reduceMul, c21, c22, c23, c24, c25, c26, c27, c28, c29, c30, c31]) ?_
        obtain ⟨c32, h⟩ := ite_l h
        have c32l := lim8 c32
        replace c32 := eq_true c32
        refine rg0 [2, 3, 6, 15, 16] [24, 32, 480] (fun K hK => by simp (decide := true) only [go_sem, Nat.reduceAdd, Nat.reduceMul, c21, c22, c23, c24, c25, c26, c27, c28, c29, c30, c31, c32l, c32]; exact hK) ?_
        refine blockQ_n ?_
        refine rg0 [2, 3, 6, 15, 16] [24, 32, 480] (fun K hK => by simp (decide := true) only [go_sem, Nat.reduceAdd, Nat.reduceMul, c21, c22, c23, c24, c25, c26, c27, c28, c29, c30, c31, c32l, c32]; exact hK) ?_
        refine AL_again (m := n20) (by omega) ?_
        exact .inr (⟨_, _, _, _, _, _, _, _, _, _, _, _, _, _, _, by omega, h, At_keep [2, 3, 6, 15, 16] [24, 32, 480]⟩)
      ·
       refine rg1 [2, 3, 6, 7, 15, 16, 55] [24, 32, 480] [(11, 30), (24, 43)] (fun K hK => by simp (decide := true) (maxSteps := 4000000) only [go_sem, Nat.reduceAdd, Nat.reduceMul, c21, c22, c23, c24, c25, c26, c27, c28]; exact hK) ?_
       refine AL_then (by simp (decide := true) only [go_sem, Nat.reduceAdd, Nat.reduceMul, c21, c22, c23, c24, c25, c26, c27, c28]) ?_
       obtain ⟨c33, h⟩ := ite_l h
       have c33l := lim8 c33
       replace c33 := eq_true c33
       refine rg0 [2, 3, 6, 15, 16] [24, 32, 480] (fun K hK => by simp (decide := true) only [go_sem, Nat.reduceAdd, Nat.reduceMul, c21, c22, c23, c24, c25, c26, c27, c28, c33l, c33]; exact hK) ?_
       refine blockQ_n ?_
       refine rg0 [2, 3, 6, 15, 16] [24, 32, 480] (fun K hK => by simp (decide := true) only [go_sem, Nat.reduceAdd, Nat.reduceMul, c21, c22, c23, c24, c25, c26, c27, c28, c33l, c33]; exact hK) ?_
       refine AL_again (m := n20) (by omega) ?_
       exact .inr (⟨_, _, _, _, _, _, _, _, _, _, _, _, _, _, _, by omega, h, At_keep [2, 3, 6, 15, 16] [24, 32, 480]⟩)
     ·
      refine rg1 [2, 3, 6, 7, 15, 16, 55] [24, 32, 480] [(11, 30), (24, 43)] (fun K hK => by simp (decide := true) (maxSteps := 4000000) only [go_sem, Nat.reduceAdd, Nat.reduceMul, c21, c22, c23, c24, c25]; exact hK) ?_
      refine AL_then (by simp (decide := true) only [go_sem, Nat.reduceAdd, Nat.reduceMul, c21, c22, c23, c24, c25]) ?_
      obtain ⟨c34, h⟩ := ite_l h
      have c34l := lim8 c34
      replace c34 := eq_true c34
      refine rg0 [2, 3, 6, 15, 16] [24, 32, 480] (fun K hK => by simp (decide := true) only [go_sem, Nat.reduceAdd, Nat.reduceMul, c21, c22, c23, c24, c25, c34l, c34]; exact hK) ?_
      refine blockQ_n ?_
      refine rg0 [2, 3, 6, 15, 16] [24, 32, 480] (fun K hK => by simp (decide := true) only [go_sem, Nat.reduceAdd, Nat.reduceMul, c21, c22, c23, c24, c25, c34l, c34]; exact hK) ?_
      refine AL_again (m := n20) (by omega) ?_
      exact .inr (⟨_, _, _, _, _, _, _, _, _, _, _, _, _, _, _, by omega, h, At_keep [2, 3, 6, 15, 16] [24, 32, 480]⟩)
    ·
     refine AL_else (by simp (decide := true) only [go_sem, Nat.reduceAdd, Nat.reduceMul, c21]) ?_
     refine AL_exit ?_
     repeat first | refine thenQ_x ?_ | refine blockQ_miss (by decide) ?_
     refine blockQ_hit ?_
     refine AL_seq ?_
     refine rg0 [4, 5] [480] (fun K hK => by simp (decide := true) only [go_sem, Nat.reduceAdd, Nat.reduceMul, c21]; exact hK) ?_
     replace h := Option.some.inj h
     obtain ⟨rfl, rfl⟩ := Prod.mk.inj h
     refine AL_ret (fun _ => rfl) ?_
     exact retF_mk rfl (by exact ⟨trivial, trivial, trivial⟩) rfl (by exact ⟨rfl, rfl, trivial⟩) (by exact trivial) (by exact trivial)
 ·
  refine AL_then (by simp (decide := true) only [go_sem, Nat.reduceAdd, Nat.reduceMul, c2]) ?_
  refine AL_seq ?_
  refine rg0 [4, 5] [] (fun K hK => by simp (decide := true) only [go_sem, Nat.reduceAdd, Nat.reduceMul, c2]; exact hK) ?_
  replace h := Option.some.inj h
  obtain ⟨rfl, rfl⟩ := Prod.mk.inj h
  refine AL_ret (fun _ => rfl) ?_
  exact retF_mk rfl (by exact ⟨trivial, trivial, trivial⟩) rfl (by exact ⟨rfl, rfl, trivial⟩) (by exact trivial) (by exact trivial)
/-! spec_l1In : 103 -/
set_option maxRecDepth 100000 in
set_option maxHeartbeats 4000000 in
theorem spec_l1In.V {a0 : Int} {a1 : Int} {a2 : Int} {r : Bool} (h : spec_l1In.f a0 a1 a2 = some r) : FnV E 103 [.int .i64 a0, .int .i64 a1, .int .i64 a2] none (.bool r) [] none := by
 refine FnV_list E (rs := [.tmp 6]) Try.func103 (by rfl) rfl Try.ntmps103 rfl [] (by simp) rfl (by simp) rfl (fun us => ?_)
 simp only [argsL, memL, wrapL, wrap1, Nat.reduceAdd]
 unfold spec_l1In.f at h
 refine AL_seq ?_
 refine rg0 [0, 1, 2] [] (fun K hK => by simp (decide := true) only [go_sem, Nat.reduceAdd, Nat.reduceMul]; exact hK) ?_
 refine AL_seq ?_
 rcases ite_orp h with ⟨c1, h⟩ | ⟨c1, h⟩
 ·
  refine rg1 [6] [] [(3, 10)] (fun K hK => by simp (decide := true) only [go_sem, Nat.reduceAdd, Nat.reduceMul, c1]; exact hK) ?_
  obtain rfl := Option.some.inj h
  refine AL_ret (fun _ => rfl) ?_
  exact retF_mk rfl (by exact ⟨trivial, trivial⟩) rfl (by exact rfl) (by exact trivial) (by exact trivial)
 ·
  refine rg1 [6] [] [(3, 10)] (fun K hK => by simp (decide := true) only [go_sem, Nat.reduceAdd, Nat.reduceMul, c1]; exact hK) ?_
  obtain rfl := Option.some.inj h
  refine AL_ret (fun _ => rfl) ?_
  exact retF_mk rfl (by exact ⟨trivial, trivial⟩) rfl (by exact rfl) (by exact trivial) (by exact trivial)
/-! spec_grGood : 131 -/
set_option maxRecDepth 100000 in
set_option maxHeartbeats 4000000 in
theorem spec_grGood.V {a0_0 : Int} {a0_1 : Int} {a0_2 : Int} {r : Bool} (h : spec_grGood.f a0_0 a0_1 a0_2 = some r) : FnV E 131 [.agg [.int .i64 a0_0, .int .i64 a0_1, .int .i64 a0_2]] none (.bool r) [] none := by
 refine FnV_list E (rs := [.tmp 2]) Try.func131 (by rfl) rfl Try.ntmps131 rfl [] (by simp) rfl (by simp) rfl (fun us => ?_)
 simp only [argsL, memL, wrapL, wrap1, Nat.reduceAdd]
 unfold spec_grGood.f at h
 refine AL_seq ?_
 refine rg0 [1] [16] (fun K hK => by simp (decide := true) only [go_sem, Nat.reduceAdd, Nat.reduceMul]; exact hK) ?_
 refine AL_seq ?_
 obtain ⟨t145, g1, h⟩ := bind_or h
 rcases ite_orb h with ⟨c2, h⟩ | ⟨c2, h⟩
 ·
  obtain ⟨t146, g3, h⟩ := bind_or h
  rcases ite_orb h with ⟨c4, h⟩ | ⟨c4, h⟩
  ·
   obtain ⟨t147, g5, h⟩ := bind_or h
   rcases ite_orb h with ⟨c6, h⟩ | ⟨c6, h⟩
   ·
    refine rg1 [2] [] [(3, 6), (8, 11), (13, 16)] (fun K hK => by simp (decide := true) (maxSteps := 4000000) only [go_sem, Nat.reduceAdd, Nat.reduceMul, c2, c4, c6]; refine ⟨_, _, _, spec_l1In.V g1, ?_⟩; simp (decide := true) (maxSteps := 4000000) only [go_sem, Nat.reduceAdd, Nat.reduceMul, c2, c4, c6]; refine ⟨_, _, _, spec_l1In.V g3, ?_⟩; simp (decide := true) (maxSteps := 4000000) only [go_sem, Nat.reduceAdd, Nat.reduceMul, c2, c4, c6]; refine ⟨_, _, _, spec_l1In.V g5, ?_⟩; simp (decide := true) (maxSteps := 4000000) only [go_sem, Nat.reduceAdd, Nat.reduceMul, c2, c4, c6]; exact hK) ?_
    obtain rfl := Option.some.inj h
    refine AL_ret (fun _ => rfl) ?_
    exact retF_mk rfl (by exact ⟨trivial, trivial⟩) rfl (by exact rfl) (by exact trivial) (by exact trivial)
   ·
    refine rg1 [2] [] [(3, 6), (8, 11), (13, 16)] (fun K hK => by simp (decide := true) (maxSteps := 4000000) only [go_sem, Nat.reduceAdd, Nat.reduceMul, c2, c4, c6]; refine ⟨_, _, _, spec_l1In.V g1, ?_⟩; simp (decide := true) (maxSteps := 4000000) only [go_sem, Nat.reduceAdd, Nat.reduceMul, c2, c4, c6]; refine ⟨_, _, _, spec_l1In.V g3, ?_⟩; simp (decide := true) (maxSteps := 4000000) only [go_sem, Nat.reduceAdd, Nat.reduceMul, c2, c4, c6]; refine ⟨_, _, _, spec_l1In.V g5, ?_⟩; simp (decide := true) (maxSteps := 4000000) only [go_sem, Nat.reduceAdd, Nat.reduceMul, c2, c4, c6]; exact hK) ?_
    obtain rfl := Option.some.inj h
    refine AL_ret (fun _ => rfl) ?_
    exact retF_mk rfl (by exact ⟨trivial, trivial⟩) rfl (by exact rfl) (by exact trivial) (by exact trivial)
  ·
   refine rg1 [2] [] [(3, 6), (8, 11), (13, 16)] (fun K hK => by simp (decide := true) (maxSteps := 4000000) only [go_sem, Nat.reduceAdd, Nat.reduceMul, c2, c4]; refine ⟨_, _, _, spec_l1In.V g1, ?_⟩; simp (decide := true) (maxSteps := 4000000) only [go_sem, Nat.reduceAdd, Nat.reduceMul, c2, c4]; refine ⟨_, _, _, spec_l1In.V g3, ?_⟩; simp (decide := true) (maxSteps := 4000000) only [go_sem, Nat.reduceAdd, Nat.reduceMul, c2, c4]; exact hK) ?_
   obtain rfl := Option.some.inj h
   refine AL_ret (fun _ => rfl) ?_
   exact retF_mk rfl (by exact ⟨trivial, trivial⟩) rfl (by exact rfl) (by exact trivial) (by exact trivial)
 ·
  refine rg1 [2] [] [(3, 6), (8, 11), (13, 16)] (fun K hK => by simp (decide := true) (maxSteps := 4000000) only [go_sem, Nat.reduceAdd, Nat.reduceMul, c2]; refine ⟨_, _, _, spec_l1In.V g1, ?_⟩; simp (decide := true) (maxSteps := 4000000) only [go_sem, Nat.reduceAdd, Nat.reduceMul, c2]; exact hK) ?_
  obtain rfl := Option.some.inj h
  refine AL_ret (fun _ => rfl) ?_
  exact retF_mk rfl (by exact ⟨trivial, trivial⟩) rfl (by exact rfl) (by exact trivial) (by exact trivial)
/-! spec_grCount : 180 -/
set_option maxRecDepth 100000 in
set_option maxHeartbeats 4000000 in
theorem spec_grCount.V {a0_0 : Int} {a0_1 : Int} {a0_2 : Int} {r : Int} (h : spec_grCount.f a0_0 a0_1 a0_2 = some r) : FnV E 180 [.agg [.int .i64 a0_0, .int .i64 a0_1, .int .i64 a0_2]] none (.int .i64 r) [] none := by
 refine FnV_list E (rs := [.tmp 2]) Try.func180 (by rfl) rfl Try.ntmps180 rfl [] (by simp) rfl (by simp) rfl (fun us => ?_)
 simp only [argsL, memL, wrapL, wrap1, Nat.reduceAdd]
 unfold spec_grCount.f at h
 refine AL_seq ?_
 refine rg0 [1] [16] (fun K hK => by simp (decide := true) only [go_sem, Nat.reduceAdd, Nat.reduceMul]; exact hK) ?_
 refine AL_seq ?_
 refine rg0 [2] [] (fun K hK => by simp (decide := true) only [go_sem, Nat.reduceAdd, Nat.reduceMul]; exact hK) ?_
 obtain rfl := Option.some.inj h
 refine AL_ret (fun _ => rfl) ?_
 exact retF_mk rfl (by exact ⟨trivial, trivial⟩) rfl (by exact rfl) (by exact trivial) (by exact trivial)
/-! spec_l1All : 184 -/
set_option maxRecDepth 100000 in
set_option maxHeartbeats 4000000 in
theorem spec_l1All.V {k : Nat} {l0 : List Int} {a1 : Int} {a2 : Int} {r : Bool} (h : spec_l1All.f k l0 a1 a2 = some r) : FnV E 184 [.sl false 1 (mp mkI l0), .int .i64 a1, .int .i64 a2] none (.bool r) [] none := by
 refine FnV_list E (rs := [.tmp 6]) Try.func184 (by rfl) rfl Try.ntmps184 rfl [] (by simp) rfl (by simp) rfl (fun us => ?_)
 simp only [argsL, memL, wrapL, wrap1, Nat.reduceAdd]
 unfold spec_l1All.f at h
 refine AL_seq ?_
 refine rg0 [0, 1, 2] [] (fun K hK => by simp (decide := true) only [go_sem, Nat.reduceAdd, Nat.reduceMul]; exact hK) ?_
 refine AL_seq ?_
 refine AL_seq ?_
 refine rg0 [1, 2, 9, 10, 11] [] (fun K hK => by simp (decide := true) only [go_sem, Nat.reduceAdd, Nat.reduceMul]; exact hK) ?_
 refine AL_block ?_
 refine AL_loop (n := k) (fun n S => (∃ x1 x2 x9 x10 x11, n ≤ k ∧ spec_l1All.l0 n x1 x2 x9 x10 x11 = some r ∧ At [(1, .int .i64 x1), (2, .int .i64 x2), (9, .sl false 1 (mp mkI x9)), (10, .int .i64 x10), (11, .int .i64 x11)] [] S)) ?_ ?_
 · exact ⟨_, _, _, _, _, by omega, h, At_keep [1, 2, 9, 10, 11] []⟩
 ·
  intro n S hS
  obtain ⟨x1, x2, x9, x10, x11, hkq1, h, hS⟩ := hS
  rcases n with _ | n2
  · (rw [spec_l1All.l0] at h; cases h)
  rw [spec_l1All.l0] at h
  refine AW_at hS ?_
  refine AL_seq ?_
  refine rg0 [1, 2, 9, 10, 11, 12] [] (fun K hK => by simp (decide := true) only [go_sem, Nat.reduceAdd, Nat.reduceMul]; exact hK) ?_
  refine AL_seq ?_
  rcases ite_orp h with ⟨c3, h⟩ | ⟨c3, h⟩
  ·
   refine AL_then (by simp (decide := true) only [go_sem, Nat.reduceAdd, Nat.reduceMul, c3]) ?_
   refine AL_skip ?_
   refine AL_seq ?_
   refine AL_block ?_
   refine AL_seq ?_
   obtain ⟨c4, h⟩ := ite_lp h
   obtain ⟨c5, h⟩ := ite_lp h
   refine rg0 [1, 2, 8, 9, 10, 11] [] (fun K hK => by simp (decide := true) only [go_sem, Nat.reduceAdd, Nat.reduceMul, c3, c4, c5]; exact hK) ?_
   refine AL_seq ?_
   obtain ⟨t150, g6, h⟩ := bind_or h
   refine rg0 [1, 2, 9, 10, 11, 19] [] (fun K hK => by simp (decide := true) only [go_sem, Nat.reduceAdd, Nat.reduceMul, c3, c4, c5]; refine ⟨_, _, _, spec_l1In.V g6, ?_⟩; simp (decide := true) only [go_sem, Nat.reduceAdd, Nat.reduceMul, c3, c4, c5]; exact hK) ?_
   rcases ite_orb h with ⟨c7, h⟩ | ⟨c7, h⟩
   ·
    refine AL_else (by simp (decide := true) only [go_sem, Nat.reduceAdd, Nat.reduceMul, c3, c4, c5, c7]) ?_
    refine AL_skip ?_
    refine blockQ_n ?_
    refine rg0 [1, 2, 9, 10, 11] [] (fun K hK => by simp (decide := true) only [go_sem, Nat.reduceAdd, Nat.reduceMul, c3, c4, c5, c7]; exact hK) ?_
    refine AL_again (m := n2) (by omega) ?_
    exact ⟨_, _, _, _, _, by omega, h, At_keep [1, 2, 9, 10, 11] []⟩
   ·
    refine AL_then (by simp (decide := true) only [go_sem, Nat.reduceAdd, Nat.reduceMul, c3, c4, c5, c7]) ?_
    refine AL_seq ?_
    refine rg0 [6] [] (fun K hK => by simp (decide := true) only [go_sem, Nat.reduceAdd, Nat.reduceMul, c3, c4, c5, c7]; exact hK) ?_
    obtain rfl := Option.some.inj h
    refine AL_ret (fun _ => rfl) ?_
    exact retF_mk rfl (by exact ⟨trivial, trivial⟩) rfl (by exact rfl) (by exact trivial) (by exact trivial)
  ·
   refine AL_else (by simp (decide := true) only [go_sem, Nat.reduceAdd, Nat.reduceMul, c3]) ?_
   refine AL_exit ?_
   repeat first | refine thenQ_x ?_ | refine blockQ_miss (by decide) ?_
   refine blockQ_hit ?_
   refine AL_seq ?_
   refine rg0 [6] [] (fun K hK => by simp (decide := true) only [go_sem, Nat.reduceAdd, Nat.reduceMul, c3]; exact hK) ?_
   obtain rfl := Option.some.inj h
   refine AL_ret (fun _ => rfl) ?_
   exact retF_mk rfl (by exact ⟨trivial, trivial⟩) rfl (by exact rfl) (by exact trivial) (by exact trivial)
/-! spec_moGood : 112 -/
set_option maxRecDepth 100000 in
set_option maxHeartbeats 4000000 in
theorem spec_moGood.V {k : Nat} {a0_0 : Int} {a0_1 : Int} {a0_2 : Int} {l0_3 : List Int} {l0_4 : List Int} {l0_5 : List Int} {r : Bool} (h : spec_moGood.f k a0_0 a0_1 a0_2 l0_3 l0_4 l0_5 = some r) : FnV E 112 [.agg [.int .i64 a0_0, .int .i64 a0_1, .int .i64 a0_2, .sl false 1 (mp mkI l0_3), .sl false 1 (mp mkI l0_4), .sl false 1 (mp mkI l0_5)]] none (.bool r) [] none := by
 refine FnV_list E (rs := [.tmp 2]) Try.func112 (by rfl) rfl Try.ntmps112 rfl [] (by simp) rfl (by simp) rfl (fun us => ?_)
 simp only [argsL, memL, wrapL, wrap1, Nat.reduceAdd]
 unfold spec_moGood.f at h
 refine AL_seq ?_
 refine rg0 [1] [16] (fun K hK => by simp (decide := true) only [go_sem, Nat.reduceAdd, Nat.reduceMul]; exact hK) ?_
 refine AL_seq ?_
 refine AL_seq ?_
 obtain ⟨t152, g1, h⟩ := bind_or h
 refine rg0 [1, 7] [16] (fun K hK => by simp (decide := true) only [go_sem, Nat.reduceAdd, Nat.reduceMul]; refine ⟨_, _, _, spec_grGood.V g1, ?_⟩; simp (decide := true) only [go_sem, Nat.reduceAdd, Nat.reduceMul]; exact hK) ?_
 rcases ite_orb h with ⟨c2, h⟩ | ⟨c2, h⟩
 ·
  refine AL_else (by simp (decide := true) only [go_sem, Nat.reduceAdd, Nat.reduceMul, c2]) ?_
  refine AL_skip ?_
  refine AL_seq ?_
  obtain ⟨t153, g3, h⟩ := bind_or h
  refine rg0 [1, 3] [16] (fun K hK => by simp (decide := true) only [go_sem, Nat.reduceAdd, Nat.reduceMul, c2]; refine ⟨_, _, _, spec_grCount.V g3, ?_⟩; simp (decide := true) only [go_sem, Nat.reduceAdd, Nat.reduceMul, c2]; exact hK) ?_
  refine AL_seq ?_
  rcases ite_orp h with ⟨c4, h⟩ | ⟨c4, h⟩
  ·
   rcases ite_orp h with ⟨c5, h⟩ | ⟨c5, h⟩
   ·
    rcases ite_orp h with ⟨c6, h⟩ | ⟨c6, h⟩
    ·
     obtain ⟨t154, g7, h⟩ := bind_or h
     rcases ite_orb h with ⟨c8, h⟩ | ⟨c8, h⟩
     ·
      obtain ⟨t155, g9, h⟩ := bind_or h
      rcases ite_orb h with ⟨c10, h⟩ | ⟨c10, h⟩
      ·
       obtain ⟨t156, g11, h⟩ := bind_or h
       refine rg1 [2] [] [(5, 16), (12, 23), (19, 30), (24, 35), (29, 40)] (fun K hK => by simp (decide := true) (maxSteps := 4000000) only [go_sem, Nat.reduceAdd, Nat.reduceMul, c2, c4, c5, c6, c8, c10]; refine ⟨_, _, _, spec_l1All.V g7, ?_⟩; simp (decide := true) (maxSteps := 4000000) only [go_sem, Nat.reduceAdd, Nat.reduceMul, c2, c4, c5, c6, c8, c10]; refine ⟨_, _, _, spec_l1All.V g9, ?_⟩; simp (decide := true) (maxSteps := 4000000) only [go_sem, Nat.reduceAdd, Nat.reduceMul, c2, c4, c5, c6, c8, c10]; refine ⟨_, _, _, spec_l1All.V g11, ?_⟩; simp (decide := true) (maxSteps := 4000000) only [go_sem, Nat.reduceAdd, Nat.reduceMul, c2, c4, c5, c6, c8, c10]; exact hK) ?_
       obtain rfl := Option.some.inj h
       refine AL_ret (fun _ => rfl) ?_
       exact retF_mk rfl (by exact ⟨trivial, trivial⟩) rfl (by exact rfl) (by exact trivial) (by exact trivial)
      ·
       refine rg1 [2] [] [(5, 16), (12, 23), (19, 30), (24, 35), (29, 40)] (fun K hK => by simp (decide := true) (maxSteps := 4000000) only [go_sem, Nat.reduceAdd, Nat.reduceMul, c2, c4, c5, c6, c8, c10]; refine ⟨_, _, _, spec_l1All.V g7, ?_⟩; simp (decide := true) (maxSteps := 4000000) only [go_sem, Nat.reduceAdd, Nat.reduceMul, c2, c4, c5, c6, c8, c10]; refine ⟨_, _, _, spec_l1All.V g9, ?_⟩; simp (decide := true) (maxSteps := 4000000) only [go_sem, Nat.reduceAdd, Nat.reduceMul, c2, c4, c5, c6, c8, c10]; exact hK) ?_
       obtain rfl := Option.some.inj h
       refine AL_ret (fun _ => rfl) ?_
       exact retF_mk rfl (by exact ⟨trivial, trivial⟩) rfl (by exact rfl) (by exact trivial) (by exact trivial)
     ·
      refine rg1 [2] [] [(5, 16), (12, 23), (19, 30), (24, 35), (29, 40)] (fun K hK => by simp (decide := true) (maxSteps := 4000000) only [go_sem, Nat.reduceAdd, Nat.reduceMul, c2, c4, c5, c6, c8]; refine ⟨_, _, _, spec_l1All.V g7, ?_⟩; simp (decide := true) (maxSteps := 4000000) only [go_sem, Nat.reduceAdd, Nat.reduceMul, c2, c4, c5, c6, c8]; exact hK) ?_
      obtain rfl := Option.some.inj h
      refine AL_ret (fun _ => rfl) ?_
      exact retF_mk rfl (by exact ⟨trivial, trivial⟩) rfl (by exact rfl) (by exact trivial) (by exact trivial)
    ·
     refine rg1 [2] [] [(5, 16), (12, 23), (19, 30), (24, 35), (29, 40)] (fun K hK => by simp (decide := true) (maxSteps := 4000000) only [go_sem, Nat.reduceAdd, Nat.reduceMul, c2, c4, c5, c6]; exact hK) ?_
     obtain rfl := Option.some.inj h
     refine AL_ret (fun _ => rfl) ?_
     exact retF_mk rfl (by exact ⟨trivial, trivial⟩) rfl (by exact rfl) (by exact trivial) (by exact trivial)
   ·
    refine rg1 [2] [] [(5, 16), (12, 23), (19, 30), (24, 35), (29, 40)] (fun K hK => by simp (decide := true) (maxSteps := 4000000) only [go_sem, Nat.reduceAdd, Nat.reduceMul, c2, c4, c5]; exact hK) ?_
    obtain rfl := Option.some.inj h
    refine AL_ret (fun _ => rfl) ?_
    exact retF_mk rfl (by exact ⟨trivial, trivial⟩) rfl (by exact rfl) (by exact trivial) (by exact trivial)
  ·
   refine rg1 [2] [] [(5, 16), (12, 23), (19, 30), (24, 35), (29, 40)] (fun K hK => by simp (decide := true) (maxSteps := 4000000) only [go_sem, Nat.reduceAdd, Nat.reduceMul, c2, c4]; exact hK) ?_
   obtain rfl := Option.some.inj h
   refine AL_ret (fun _ => rfl) ?_
   exact retF_mk rfl (by exact ⟨trivial, trivial⟩) rfl (by exact rfl) (by exact trivial) (by exact trivial)
 ·
  refine AL_then (by simp (decide := true) only [go_sem, Nat.reduceAdd, Nat.reduceMul, c2]) ?_
  refine AL_seq ?_
  refine rg0 [2] [] (fun K hK => by simp (decide := true) only [go_sem, Nat.reduceAdd, Nat.reduceMul, c2]; exact hK) ?_
  obtain rfl := Option.some.inj h
  refine AL_ret (fun _ => rfl) ?_
  exact retF_mk rfl (by exact ⟨trivial, trivial⟩) rfl (by exact rfl) (by exact trivial) (by exact trivial)
/-! spec_bhTwo : 135 -/
set_option maxRecDepth 100000 in
set_option maxHeartbeats 4000000 in
theorem spec_bhTwo.V {k : Nat} {a0_0 : Int} {a0_1 : Int} {a0_2 : Int} {l0_3 : List Int} {l0_4 : List Int} {l0_5 : List Int} {a1_0 : Int} {a1_1 : Int} {a1_2 : Int} {l1_3 : List Int} {l1_4 : List Int} {l1_5 : List Int} {r : Bool} (h : spec_bhTwo.f k a0_0 a0_1 a0_2 l0_3 l0_4 l0_5 a1_0 a1_1 a1_2 l1_3 l1_4 l1_5 = some r) : FnV E 135 [.agg [.int .i64 a0_0, .int .i64 a0_1, .int .i64 a0_2, .sl false 1 (mp mkI l0_3), .sl false 1 (mp mkI l0_4), .sl false 1 (mp mkI l0_5)], .agg [.int .i64 a1_0, .int .i64 a1_1, .int .i64 a1_2, .sl false 1 (mp mkI l1_3), .sl false 1 (mp mkI l1_4), .sl false 1 (mp mkI l1_5)]] none (.bool r) [] none := by
 refine FnV_list E (rs := [.tmp 4]) Try.func135 (by rfl) rfl Try.ntmps135 rfl [] (by simp) rfl (by simp) rfl (fun us => ?_)
 simp only [argsL, memL, wrapL, wrap1, Nat.reduceAdd]
 unfold spec_bhTwo.f at h
 refine AL_seq ?_
 refine rg0 [2, 3] [24, 32] (fun K hK => by simp (decide := true) only [go_sem, Nat.reduceAdd, Nat.reduceMul]; exact hK) ?_
 refine AL_seq ?_
 obtain ⟨t159, g1, h⟩ := bind_or h
 rcases ite_orb h with ⟨c2, h⟩ | ⟨c2, h⟩
 ·
  obtain ⟨t160, g3, h⟩ := bind_or h
  rcases ite_orb h with ⟨c4, h⟩ | ⟨c4, h⟩
  ·
   refine rg1 [4] [] [(2, 7), (6, 11)] (fun K hK => by simp (decide := true) (maxSteps := 4000000) only [go_sem, Nat.reduceAdd, Nat.reduceMul, c2, c4]; refine ⟨_, _, _, spec_moGood.V g1, ?_⟩; simp (decide := true) (maxSteps := 4000000) only [go_sem, Nat.reduceAdd, Nat.reduceMul, c2, c4]; refine ⟨_, _, _, spec_moGood.V g3, ?_⟩; simp (decide := true) (maxSteps := 4000000) only [go_sem, Nat.reduceAdd, Nat.reduceMul, c2, c4]; exact hK) ?_
   obtain rfl := Option.some.inj h
   refine AL_ret (fun _ => rfl) ?_
   exact retF_mk rfl (by exact ⟨trivial, trivial⟩) rfl (by exact rfl) (by exact trivial) (by exact trivial)
  ·
   refine rg1 [4] [] [(2, 7), (6, 11)] (fun K hK => by simp (decide := true) (maxSteps := 4000000) only [go_sem, Nat.reduceAdd, Nat.reduceMul, c2, c4]; refine ⟨_, _, _, spec_moGood.V g1, ?_⟩; simp (decide := true) (maxSteps := 4000000) only [go_sem, Nat.reduceAdd, Nat.reduceMul, c2, c4]; refine ⟨_, _, _, spec_moGood.V g3, ?_⟩; simp (decide := true) (maxSteps := 4000000) only [go_sem, Nat.reduceAdd, Nat.reduceMul, c2, c4]; exact hK) ?_
   obtain rfl := Option.some.inj h
   refine AL_ret (fun _ => rfl) ?_
   exact retF_mk rfl (by exact ⟨trivial, trivial⟩) rfl (by exact rfl) (by exact trivial) (by exact trivial)
 ·
  refine rg1 [4] [] [(2, 7), (6, 11)] (fun K hK => by simp (decide := true) (maxSteps := 4000000) only [go_sem, Nat.reduceAdd, Nat.reduceMul, c2]; refine ⟨_, _, _, spec_moGood.V g1, ?_⟩; simp (decide := true) (maxSteps := 4000000) only [go_sem, Nat.reduceAdd, Nat.reduceMul, c2]; exact hK) ?_
  obtain rfl := Option.some.inj h
  refine AL_ret (fun _ => rfl) ?_
  exact retF_mk rfl (by exact ⟨trivial, trivial⟩) rfl (by exact rfl) (by exact trivial) (by exact trivial)
/-! spec_ChangedBlocks : 53 -/
set_option maxRecDepth 100000 in
set_option maxHeartbeats 4000000 in
theorem spec_ChangedBlocks.V {k : Nat} {a0_0 : Int} {a0_1 : Int} {a0_2 : Int} {l0_3 : List Int} {l0_4 : List Int} {l0_5 : List Int} {a1_0 : Int} {a1_1 : Int} {a1_2 : Int} {l1_3 : List Int} {l1_4 : List Int} {l1_5 : List Int} {r1 : List Int} {r2 : Bool} (h : spec_ChangedBlocks.f k a0_0 a0_1 a0_2 l0_3 l0_4 l0_5 a1_0 a1_1 a1_2 l1_3 l1_4 l1_5 = some (r1, r2)) : FnV E 53 [.agg [.int .i64 a0_0, .int .i64 a0_1, .int .i64 a0_2, .sl false 1 (mp mkI l0_3), .sl false 1 (mp mkI l0_4), .sl false 1 (mp mkI l0_5)], .agg [.int .i64 a1_0, .int .i64 a1_1, .int .i64 a1_2, .sl false 1 (mp mkI l1_3), .sl false 1 (mp mkI l1_4), .sl false 1 (mp mkI l1_5)]] none (.tup [.sl true 1 (mp mkI r1), .bool r2]) [] none := by
 refine FnV_list E (rs := [.tmp 4, .tmp 5]) Try.func53 (by rfl) rfl Try.ntmps53 rfl [] (by simp) rfl (by simp) rfl (fun us => ?_)
 simp only [argsL, memL, wrapL, wrap1, Nat.reduceAdd]
 unfold spec_ChangedBlocks.f at h
 refine AL_seq ?_
 refine rg0 [2, 3] [24, 32] (fun K hK => by simp (decide := true) only [go_sem, Nat.reduceAdd, Nat.reduceMul]; exact hK) ?_
 refine AL_seq ?_
 refine AL_seq ?_
 obtain ⟨t163, g1, h⟩ := bind_or h
 refine rg0 [2, 3, 11] [24, 32] (fun K hK => by simp (decide := true) only [go_sem, Nat.reduceAdd, Nat.reduceMul]; refine ⟨_, _, _, spec_bhTwo.V g1, ?_⟩; simp (decide := true) only [go_sem, Nat.reduceAdd, Nat.reduceMul]; exact hK) ?_
 rcases ite_orb h with ⟨c2, h⟩ | ⟨c2, h⟩
 ·
  refine AL_else (by simp (decide := true) only [go_sem, Nat.reduceAdd, Nat.reduceMul, c2]) ?_
  refine AL_skip ?_
  refine AL_seq ?_
  refine rg0 [2, 3, 6] [24, 32] (fun K hK => by simp (decide := true) only [go_sem, Nat.reduceAdd, Nat.reduceMul, c2]; exact hK) ?_
  refine AL_seq ?_
  refine AL_seq ?_
  refine rg0 [2, 3, 6, 14, 15] [24, 32] (fun K hK => by simp (decide := true) only [go_sem, Nat.reduceAdd, Nat.reduceMul, c2]; exact hK) ?_
  refine AL_block ?_
  refine AL_loop (n := k) (fun n S => (∃ x14 x15 x162000 x162001 x162002 x162003 x162004 x162005 x163000 x163001 x163002 x163003 x163004 x163005, n ≤ k ∧ spec_ChangedBlocks.l0 n ([] : List Int) x14 x15 x162000 x162001 x162002 x162003 x162004 x162005 x163000 x163001 x163002 x163003 x163004 x163005 = some (r1, r2) ∧ At [(2, .ptr 24 0 0), (3, .ptr 32 0 0), (6, .nil), (14, .int .i64 x14), (15, .int .i64 x15)] [(24, some (.box [.int .i64 x162000, .int .i64 x162001, .int .i64 x162002, .sl false 1 (mp mkI x162003), .sl false 1 (mp mkI x162004), .sl false 1 (mp mkI x162005)])), (32, some (.box [.int .i64 x163000, .int .i64 x163001, .int .i64 x163002, .sl false 1 (mp mkI x163003), .sl false 1 (mp mkI x163004), .sl false 1 (mp mkI x163005)]))] S) ∨ (∃ x14 x15 x162000 x162001 x162002 x162003 x162004 x162005 x163000 x163001 x163002 x163003 x163004 x163005 x6, n ≤ k ∧ spec_ChangedBlocks.l0 n x6 x14 x15 x162000 x162001 x162002 x162003 x162004 x162005 x163000 x163001 x163002 x163003 x163004 x163005 = some (r1, r2) ∧ At [(2, .ptr 24 0 0), (3, .ptr 32 0 0), (6, .ref 472), (14, .int .i64 x14), (15, .int .i64 x15)] [(24, some (.box [.int .i64 x162000, .int .i64 x162001, .int .i64 x162002, .sl false 1 (mp mkI x162003), .sl false 1 (mp mkI x162004), .sl false 1 (mp mkI x162005)])), (32, some (.box [.int .i64 x163000, .int .i64 x163001, .int .i64 x163002, .sl false 1 (mp mkI x163003), .sl false 1 (mp mkI x163004), .sl false 1 (mp mkI x163005)])), (472, some (.row 3 1 (mp mkI x6)))] S)) ?_ ?_
  · exact .inl ⟨_, _, _, _, _, _, _, _, _, _, _, _, _, _, by omega, h, At_keep [2, 3, 6, 14, 15] [24, 32]⟩
  ·
   intro n S hS
   rcases hS with hS | hS
   ·
    obtain ⟨x14, x15, x162000, x162001, x162002, x162003, x162004, x162005, x163000, x163001, x163002, x163003, x163004, x163005, hkq3, h, hS⟩ := hS
    rcases n with _ | n4
    · (rw [spec_ChangedBlocks.l0] at h; cases h)
    rw [spec_ChangedBlocks.l0] at h
    refine AW_at hS ?_
    refine AL_seq ?_
    refine rg0 [2, 3, 6, 14, 15, 16] [24, 32] (fun K hK => by simp (decide := true) only [go_sem, Nat.reduceAdd, Nat.reduceMul]; exact hK) ?_
    refine AL_seq ?_
    rcases ite_orp h with ⟨c5, h⟩ | ⟨c5, h⟩
    ·
     refine AL_then (by simp (decide := true) only [go_sem, Nat.reduceAdd, Nat.reduceMul, c5]) ?_
     refine AL_skip ?_
     refine AL_seq ?_
     refine AL_block ?_
     refine AL_seq ?_
     refine rg0 [2, 3, 6, 7, 14, 15] [24, 32] (fun K hK => by simp (decide := true) only [go_sem, Nat.reduceAdd, Nat.reduceMul, c5]; exact hK) ?_
     refine AL_seq ?_
     obtain ⟨c6, h⟩ := ite_lp h
     obtain ⟨c7, h⟩ := ite_lp h
     obtain ⟨c8, h⟩ := ite_lp h
     rcases ite_orp h with ⟨c9, h⟩ | ⟨c9, h⟩
     ·
      obtain ⟨c10, h⟩ := ite_lp h
      obtain ⟨c11, h⟩ := ite_lp h
      rcases ite_orp h with ⟨c12, h⟩ | ⟨c12, h⟩
      ·
       obtain ⟨c13, h⟩ := ite_lp h
       obtain ⟨c14, h⟩ := ite_lp h
       refine rg1 [2, 3, 6, 7, 14, 15, 54] [24, 32] [(11, 29), (24, 42)] (fun K hK => by simp (decide := true) (maxSteps := 4000000) only [go_sem, Nat.reduceAdd, Nat.reduceMul, c5, c6, c7, c8, c9, c10, c11, c12, c13, c14]; exact hK) ?_
       rcases ite_orp h with ⟨c15, h⟩ | ⟨c15, h⟩
       ·
        refine AL_else (by simp (decide := true) only [go_sem, Nat.reduceAdd, Nat.reduceMul, c5, c6, c7, c8, c9, c10, c11, c12, c13, c14, c15]) ?_
        refine AL_skip ?_
        refine blockQ_n ?_
        refine rg0 [2, 3, 6, 14, 15] [24, 32] (fun K hK => by simp (decide := true) only [go_sem, Nat.reduceAdd, Nat.reduceMul, c5, c6, c7, c8, c9, c10, c11, c12, c13, c14, c15]; exact hK) ?_
        refine AL_again (m := n4) (by omega) ?_
        exact .inl ⟨_, _, _, _, _, _, _, _, _, _, _, _, _, _, by omega, h, At_keep [2, 3, 6, 14, 15] [24, 32]⟩
       ·
        refine AL_then (by simp (decide := true) only [go_sem, Nat.reduceAdd, Nat.reduceMul, c5, c6, c7, c8, c9, c10, c11, c12, c13, c14, c15]) ?_
        obtain ⟨c16, h⟩ := ite_l h
        have c16l := lim8 c16
        replace c16 := eq_true c16
        refine rg0 [2, 3, 6, 14, 15] [24, 32, 472] (fun K hK => by simp (decide := true) only [go_sem, Nat.reduceAdd, Nat.reduceMul, c5, c6, c7, c8, c9, c10, c11, c12, c13, c14, c15, c16l, c16]; exact hK) ?_
        refine blockQ_n ?_
        refine rg0 [2, 3, 6, 14, 15] [24, 32, 472] (fun K hK => by simp (decide := true) only [go_sem, Nat.reduceAdd, Nat.reduceMul, c5, c6, c7, c8, c9, c10, c11, c12, c13, c14, c15, c16l, c16]; exact hK) ?_
        refine AL_again (m := n4) (by omega) ?_
        exact .inr (⟨_, _, _, _, _, _, _, _, _, _, _, _, _, _, _, by omega, h, At_keep [2, 3, 6, 14, 15] [24, 32, 472]⟩)
      ·
       refine rg1 [2, 3, 6, 7, 14, 15, 54] [24, 32] [(11, 29), (24, 42)] (fun K hK => by simp (decide := true) (maxSteps := 4000000) only [go_sem, Nat.reduceAdd, Nat.reduceMul, c5, c6, c7, c8, c9, c10, c11, c12]; exact hK) ?_
       refine AL_then (by simp (decide := true) only [go_sem, Nat.reduceAdd, Nat.reduceMul, c5, c6, c7, c8, c9, c10, c11, c12]) ?_
       obtain ⟨c17, h⟩ := ite_l h
       have c17l := lim8 c17
       replace c17 := eq_true c17
       refine rg0 [2, 3, 6, 14, 15] [24, 32, 472] (fun K hK => by simp (decide := true) only [go_sem, Nat.reduceAdd, Nat.reduceMul, c5, c6, c7, c8, c9, c10, c11, c12, c17l, c17]; exact hK) ?_
       refine blockQ_n ?_
       refine rg0 [2, 3, 6, 14, 15] [24, 32, 472] (fun K hK => by simp (decide := true) only [go_sem, Nat.reduceAdd, Nat.reduceMul, c5, c6, c7, c8, c9, c10, c11, c12, c17l, c17]; exact hK) ?_
       refine AL_again (m := n4) (by omega) ?_
       exact .inr (⟨_, _, _, _, _, _, _, _, _, _, _, _, _, _, _, by omega, h, At_keep [2, 3, 6, 14, 15] [24, 32, 472]⟩)
     ·
      refine rg1 [2, 3, 6, 7, 14, 15, 54] [24, 32] [(11, 29), (24, 42)] (fun K hK => by simp (decide := true) (maxSteps := 4000000) only [go_sem, Nat.reduceAdd, Nat.reduceMul, c5, c6, c7, c8, c9]; exact hK) ?_
      refine AL_then (by simp (decide := true) only [go_sem, Nat.reduceAdd, Nat.reduceMul, c5, c6, c7, c8, c9]) ?_
      obtain ⟨c18, h⟩ := ite_l h
      have c18l := lim8 c18
      replace c18 := eq_true c18
      refine rg0 [2, 3, 6, 14, 15] [24, 32, 472] (fun K hK => by simp (decide := true) only [go_sem, Nat.reduceAdd, Nat.reduceMul, c5, c6, c7, c8, c9, c18l, c18]; exact hK) ?_
      refine blockQ_n ?_
      refine rg0 [2, 3, 6, 14, 15] [24, 32, 472] (fun K hK => by simp (decide := true) only [go_sem, Nat.reduceAdd, Nat.reduceMul, c5, c6, c7, c8, c9, c18l, c18]; exact hK) ?_
      refine AL_again (m := n4) (by omega) ?_
      exact .inr (⟨_, _, _, _, _, _, _, _, _, _, _, _, _, _, _, by omega, h, At_keep [2, 3, 6, 14, 15] [24, 32, 472]⟩)
    ·
     refine AL_else (by simp (decide := true) only [go_sem, Nat.reduceAdd, Nat.reduceMul, c5]) ?_
     refine AL_exit ?_
     repeat first | refine thenQ_x ?_ | refine blockQ_miss (by decide) ?_
     refine blockQ_hit ?_
     refine AL_seq ?_
     refine rg0 [4, 5] [] (fun K hK => by simp (decide := true) only [go_sem, Nat.reduceAdd, Nat.reduceMul, c5]; exact hK) ?_
     replace h := Option.some.inj h
     obtain ⟨rfl, rfl⟩ := Prod.mk.inj h
     refine AL_ret (fun _ => rfl) ?_
     exact retF_mk rfl (by exact ⟨trivial, trivial, trivial⟩) rfl (by exact ⟨rfl, rfl, trivial⟩) (by exact trivial) (by exact trivial)
   ·
    obtain ⟨x14, x15, x162000, x162001, x162002, x162003, x162004, x162005, x163000, x163001, x163002, x163003, x163004, x163005, x6, hkq19, h, hS⟩ := hS
    rcases n with _ | n20
    · (rw [spec_ChangedBlocks.l0] at h; cases h)
    rw [spec_ChangedBlocks.l0] at h
    refine AW_at hS ?_
    refine AL_seq ?_
    refine rg0 [2, 3, 6, 14, 15, 16] [24, 32, 472] (fun K hK => by simp (decide := true) only [go_sem, Nat.reduceAdd, Nat.reduceMul]; exact hK) ?_
    refine AL_seq ?_
    rcases ite_orp h with ⟨c21, h⟩ | ⟨c21, h⟩
    ·
     refine AL_then (by simp (decide := true) only [go_sem, Nat.reduceAdd, Nat.reduceMul, c21]) ?_
     refine AL_skip ?_
     refine AL_seq ?_
     refine AL_block ?_
     refine AL_seq ?_
     refine rg0 [2, 3, 6, 7, 14, 15] [24, 32, 472] (fun K hK => by simp (decide := true) only [go_sem, Nat.reduceAdd, Nat.reduceMul, c21]; exact hK) ?_
     refine AL_seq ?_
     obtain ⟨c22, h⟩ := ite_lp h
     obtain ⟨c23, h⟩ := ite_lp h
     obtain ⟨c24, h⟩ := ite_lp h
     rcases ite_orp h with ⟨c25, h⟩ | ⟨c25, h⟩
     ·
      obtain ⟨c26, h⟩ := ite_lp h
      obtain ⟨c27, h⟩ := ite_lp h
      rcases ite_orp h with ⟨c28, h⟩ | ⟨c28, h⟩
      ·
       obtain ⟨c29, h⟩ := ite_lp h
       obtain ⟨c30, h⟩ := ite_lp h
       refine rg1 [2, 3, 6, 7, 14, 15, 54] [24, 32, 472] [(11, 29), (24, 42)] (fun K hK => by simp (decide := true) (maxSteps := 4000000) only [go_sem, Nat.reduceAdd, Nat.reduceMul, c21, c22, c23, c24, c25, c26, c27, c28, c29, c30]; exact hK) ?_
       rcases ite_orp h with ⟨c31, h⟩ | ⟨c31, h⟩
       ·
        refine AL_else (by simp (decide := true) only [go_sem, Nat.reduceAdd, Nat.reduceMul, c21, c22, c23, c24, c25, c26, c27, c28, c29, c30, c31]) ?_
        refine AL_skip ?_
        refine blockQ_n ?_
        refine rg0 [2, 3, 6, 14, 15] [24, 32, 472] (fun K hK => by simp (decide := true) only [go_sem, Nat.reduceAdd, Nat.reduceMul, c21, c22, c23, c24, c25, c26, c27, c28, c29, c30, c31]; exact hK) ?_
        refine AL_again (m := n20) (by omega) ?_
        exact .inr (⟨_, _, _, _, _, _, _, _, _, _, _, _, _, _, _, by omega, h, At_keep [2, 3, 6, 14, 15] [24, 32, 472]⟩)
       ·
        refine AL_then (by simp (decide := true) only [go_sem, Nat.reduceAdd, Nat.reduceMul, c21, c22, c23, c24, c25, c26, c27, c28, c29, c30, c31]) ?_
        obtain ⟨c32, h⟩ := ite_l h
        have c32l := lim8 c32
        replace c32 := eq_true c32
        refine rg0 [2, 3, 6, 14, 15] [24, 32, 472] (fun K hK => by simp (decide := true) only [go_sem, Nat.reduceAdd, Nat.reduceMul, c21, c22, c23, c24, c25, c26, c27, c28, c29, c30, c31, c32l, c32]; exact hK) ?_
        refine blockQ_n ?_
        refine rg0 [2, 3, 6, 14, 15] [24, 32, 472] (fun K hK => by simp (decide := true) only [go_sem, Nat.reduceAdd, Nat.reduceMul, c21, c22, c23, c24, c25, c26, c27, c28, c29, c30, c31, c32l, c32]; exact hK) ?_
        refine AL_again (m := n20) (by omega) ?_
        exact .inr (⟨_, _, _, _, _, _, _, _, _, _, _, _, _, _, _, by omega, h, At_keep [2, 3, 6, 14, 15] [24, 32, 472]⟩)
      ·
       refine rg1 [2, 3, 6, 7, 14, 15, 54] [24, 32, 472] [(11, 29), (24, 42)] (fun K hK => by simp (decide := true) (maxSteps := 4000000) only [go_sem, Nat.reduceAdd, Nat.reduceMul, c21, c22, c23, c24, c25, c26, c27, c28]; exact hK) ?_
       refine AL_then (by simp (decide := true) only [go_sem, Nat.reduceAdd, Nat.reduceMul, c21, c22, c23, c24, c25, c26, c27, c28]) ?_
       obtain ⟨c33, h⟩ := ite_l h
       have c33l := lim8 c33
       replace c33 := eq_true c33
       refine rg0 [2, 3, 6, 14, 15] [24, 32, 472] (fun K hK => by simp (decide := true) only [go_sem, Nat.reduceAdd, Nat.reduceMul, c21, c22, c23, c24, c25, c26, c27, c28, c33l, c33]; exact hK) ?_
       refine blockQ_n ?_
       refine rg0 [2, 3, 6, 14, 15] [24, 32, 472] (fun K hK => by simp (decide := true) only [go_sem, Nat.reduceAdd, Nat.reduceMul, c21, c22, c23, c24, c25, c26, c27, c28, c33l, c33]; exact hK) ?_
       refine AL_again (m := n20) (by omega) ?_
       exact .inr (⟨_, _, _, _, _, _, _, _, _, _, _, _, _, _, _, by omega, h, At_keep [2, 3, 6, 14, 15] [24, 32, 472]⟩)
     ·
      refine rg1 [2, 3, 6, 7, 14, 15, 54] [24, 32, 472] [(11, 29), (24, 42)] (fun K hK => by simp (decide := true) (maxSteps := 4000000) only [go_sem, Nat.reduceAdd, Nat.reduceMul, c21, c22, c23, c24, c25]; exact hK) ?_
      refine AL_then (by simp (decide := true) only [go_sem, Nat.reduceAdd, Nat.reduceMul, c21, c22, c23, c24, c25]) ?_
      obtain ⟨c34, h⟩ := ite_l h
      have c34l := lim8 c34
      replace c34 := eq_true c34
      refine rg0 [2, 3, 6, 14, 15] [24, 32, 472] (fun K hK => by simp (decide := true) only [go_sem, Nat.reduceAdd, Nat.reduceMul, c21, c22, c23, c24, c25, c34l, c34]; exact hK) ?_
      refine blockQ_n ?_
      refine rg0 [2, 3, 6, 14, 15] [24, 32, 472] (fun K hK => by simp (decide := true) only [go_sem, Nat.reduceAdd, Nat.reduceMul, c21, c22, c23, c24, c25, c34l, c34]; exact hK) ?_
      refine AL_again (m := n20) (by omega) ?_
      exact .inr (⟨_, _, _, _, _, _, _, _, _, _, _, _, _, _, _, by omega, h, At_keep [2, 3, 6, 14, 15] [24, 32, 472]⟩)
    ·
     refine AL_else (by simp (decide := true) only [go_sem, Nat.reduceAdd, Nat.reduceMul, c21]) ?_
     refine AL_exit ?_
     repeat first | refine thenQ_x ?_ | refine blockQ_miss (by decide) ?_
     refine blockQ_hit ?_
     refine AL_seq ?_
     refine rg0 [4, 5] [472] (fun K hK => by simp (decide := true) only [go_sem, Nat.reduceAdd, Nat.reduceMul, c21]; exact hK) ?_
     replace h := Option.some.inj h
     obtain ⟨rfl, rfl⟩ := Prod.mk.inj h
     refine AL_ret (fun _ => rfl) ?_
     exact retF_mk rfl (by exact ⟨trivial, trivial, trivial⟩) rfl (by exact ⟨rfl, rfl, trivial⟩) (by exact trivial) (by exact trivial)
 ·
  refine AL_then (by simp (decide := true) only [go_sem, Nat.reduceAdd, Nat.reduceMul, c2]) ?_
  refine AL_seq ?_
  refine rg0 [4, 5] [] (fun K hK => by simp (decide := true) only [go_sem, Nat.reduceAdd, Nat.reduceMul, c2]; exact hK) ?_
  replace h := Option.some.inj h
  obtain ⟨rfl, rfl⟩ := Prod.mk.inj h
  refine AL_ret (fun _ => rfl) ?_
  exact retF_mk rfl (by exact ⟨trivial, trivial, trivial⟩) rfl (by exact ⟨rfl, rfl, trivial⟩) (by exact trivial) (by exact trivial)
/-! spec_l1Cur_next : 178 -/
set_option maxRecDepth 100000 in
set_option maxHeartbeats 4000000 in
theorem spec_l1Cur_next.V {s0_0 : List Int} {s0_1 : Int} {s0_2 : Int} {r1 : Int} {r2 : Int} {r3 : Int} (h : spec_l1Cur_next.f s0_0 s0_1 s0_2 = some (r1, r2, r3)) : FnV E 178 [.ptr 0 0 0] (some [.sl false 1 (mp mkB s0_0), .int .i64 s0_1, .int .u64 s0_2]) (.int .i64 r1) [] (some [.sl false 1 (mp mkB s0_0), .int .i64 r2, .int .u64 r3]) := by
 refine FnV_list E (rs := [.tmp 2]) Try.func178 (by rfl) rfl Try.ntmps178 rfl [] (by simp) rfl (by simp) rfl (fun us => ?_)
 simp only [argsL, memL, wrapL, wrap1, Nat.reduceAdd]
 unfold spec_l1Cur_next.f at h
 refine AL_seq ?_
 refine rg0 [0] [0] (fun K hK => by simp (decide := true) only [go_sem, Nat.reduceAdd, Nat.reduceMul]; exact hK) ?_
 refine AL_seq ?_
 refine rg0 [0, 3] [0] (fun K hK => by simp (decide := true) only [go_sem, Nat.reduceAdd, Nat.reduceMul]; exact hK) ?_
 refine AL_seq ?_
 refine AL_seq ?_
 refine rg0 [0, 3, 13] [0] (fun K hK => by simp (decide := true) only [go_sem, Nat.reduceAdd, Nat.reduceMul]; exact hK) ?_
 rcases ite_orp h with ⟨c1, h⟩ | ⟨c1, h⟩
 ·
  refine AL_then (by simp (decide := true) only [go_sem, Nat.reduceAdd, Nat.reduceMul, c1]) ?_
  obtain ⟨c2, h⟩ := ite_lp h
  refine rg0 [0, 3] [0] (fun K hK => by simp (decide := true) (maxSteps := 4000000) only [go_sem, Nat.reduceAdd, Nat.reduceMul, c1, c2]; exact hK) ?_
  refine AL_seq ?_
  refine rg0 [0, 3] [0] (fun K hK => by simp (decide := true) only [go_sem, Nat.reduceAdd, Nat.reduceMul, c1, c2]; exact hK) ?_
  refine AL_seq ?_
  refine rg0 [0, 3] [0] (fun K hK => by simp (decide := true) (maxSteps := 4000000) only [go_sem, Nat.reduceAdd, Nat.reduceMul, c1, c2]; exact hK) ?_
  refine AL_seq ?_
  refine AL_seq ?_
  refine rg0 [0, 3, 53] [0] (fun K hK => by simp (decide := true) only [go_sem, Nat.reduceAdd, Nat.reduceMul, c1, c2]; exact hK) ?_
  rcases ite_orp h with ⟨c3, h⟩ | ⟨c3, h⟩
  ·
   refine AL_then (by simp (decide := true) only [go_sem, Nat.reduceAdd, Nat.reduceMul, c1, c2, c3]) ?_
   refine AL_seq ?_
   refine rg0 [2] [0] (fun K hK => by simp (decide := true) only [go_sem, Nat.reduceAdd, Nat.reduceMul, c1, c2, c3]; exact hK) ?_
   replace h := Option.some.inj h
   obtain ⟨rfl, h1⟩ := Prod.mk.inj h
   obtain ⟨rfl, rfl⟩ := Prod.mk.inj h1
   refine AL_ret (fun _ => rfl) ?_
   exact retF_mk rfl (by exact ⟨trivial, trivial⟩) rfl (by exact rfl) (by exact trivial) (by exact ⟨rfl, rfl⟩)
  ·
   refine AL_else (by simp (decide := true) only [go_sem, Nat.reduceAdd, Nat.reduceMul, c1, c2, c3]) ?_
   refine AL_skip ?_
   refine AL_seq ?_
   refine rg0 [2] [0] (fun K hK => by simp (decide := true) only [go_sem, Nat.reduceAdd, Nat.reduceMul, c1, c2, c3]; exact hK) ?_
   replace h := Option.some.inj h
   obtain ⟨rfl, h1⟩ := Prod.mk.inj h
   obtain ⟨rfl, rfl⟩ := Prod.mk.inj h1
   refine AL_ret (fun _ => rfl) ?_
   exact retF_mk rfl (by exact ⟨trivial, trivial⟩) rfl (by exact rfl) (by exact trivial) (by exact ⟨rfl, rfl⟩)
 ·
  refine AL_else (by simp (decide := true) only [go_sem, Nat.reduceAdd, Nat.reduceMul, c1]) ?_
  refine AL_skip ?_
  refine AL_seq ?_
  refine rg0 [0, 3] [0] (fun K hK => by simp (decide := true) only [go_sem, Nat.reduceAdd, Nat.reduceMul, c1]; exact hK) ?_
  refine AL_seq ?_
  refine rg0 [0, 3] [0] (fun K hK => by simp (decide := true) (maxSteps := 4000000) only [go_sem, Nat.reduceAdd, Nat.reduceMul, c1]; exact hK) ?_
  refine AL_seq ?_
  refine AL_seq ?_
  refine rg0 [0, 3, 53] [0] (fun K hK => by simp (decide := true) only [go_sem, Nat.reduceAdd, Nat.reduceMul, c1]; exact hK) ?_
  rcases ite_orp h with ⟨c4, h⟩ | ⟨c4, h⟩
  ·
   refine AL_then (by simp (decide := true) only [go_sem, Nat.reduceAdd, Nat.reduceMul, c1, c4]) ?_
   refine AL_seq ?_
   refine rg0 [2] [0] (fun K hK => by simp (decide := true) only [go_sem, Nat.reduceAdd, Nat.reduceMul, c1, c4]; exact hK) ?_
   replace h := Option.some.inj h
   obtain ⟨rfl, h1⟩ := Prod.mk.inj h
   obtain ⟨rfl, rfl⟩ := Prod.mk.inj h1
   refine AL_ret (fun _ => rfl) ?_
   exact retF_mk rfl (by exact ⟨trivial, trivial⟩) rfl (by exact rfl) (by exact trivial) (by exact ⟨rfl, rfl⟩)
  ·
   refine AL_else (by simp (decide := true) only [go_sem, Nat.reduceAdd, Nat.reduceMul, c1, c4]) ?_
   refine AL_skip ?_
   refine AL_seq ?_
   refine rg0 [2] [0] (fun K hK => by simp (decide := true) only [go_sem, Nat.reduceAdd, Nat.reduceMul, c1, c4]; exact hK) ?_
   replace h := Option.some.inj h
   obtain ⟨rfl, h1⟩ := Prod.mk.inj h
   obtain ⟨rfl, rfl⟩ := Prod.mk.inj h1
   refine AL_ret (fun _ => rfl) ?_
   exact retF_mk rfl (by exact ⟨trivial, trivial⟩) rfl (by exact rfl) (by exact trivial) (by exact ⟨rfl, rfl⟩)
/-! spec_l1Cur_pick : 96 -/
set_option maxRecDepth 100000 in
set_option maxHeartbeats 4000000 in
theorem spec_l1Cur_pick.V {s0_0 : List Int} {s0_1 : Int} {s0_2 : Int} {a1 : Int} {r1 : Int} {r2 : Int} {r3 : Int} (h : spec_l1Cur_pick.f s0_0 s0_1 s0_2 a1 = some (r1, r2, r3)) : FnV E 96 [.ptr 0 0 0, .int .i64 a1] (some [.sl false 1 (mp mkB s0_0), .int .i64 s0_1, .int .u64 s0_2]) (.int .i64 r1) [] (some [.sl false 1 (mp mkB s0_0), .int .i64 r2, .int .u64 r3]) := by
 refine FnV_list E (rs := [.tmp 4]) Try.func96 (by rfl) rfl Try.ntmps96 rfl [] (by simp) rfl (by simp) rfl (fun us => ?_)
 simp only [argsL, memL, wrapL, wrap1, Nat.reduceAdd]
 unfold spec_l1Cur_pick.f at h
 refine AL_seq ?_
 refine rg0 [0, 1] [0] (fun K hK => by simp (decide := true) only [go_sem, Nat.reduceAdd, Nat.reduceMul]; exact hK) ?_
 refine AL_seq ?_
 refine AL_seq ?_
 refine rg0 [0, 1, 7] [0] (fun K hK => by simp (decide := true) only [go_sem, Nat.reduceAdd, Nat.reduceMul]; exact hK) ?_
 rcases ite_orp h with ⟨c1, h⟩ | ⟨c1, h⟩
 ·
  refine AL_then (by simp (decide := true) only [go_sem, Nat.reduceAdd, Nat.reduceMul, c1]) ?_
  refine AL_seq ?_
  refine rg0 [4] [0] (fun K hK => by simp (decide := true) only [go_sem, Nat.reduceAdd, Nat.reduceMul, c1]; exact hK) ?_
  replace h := Option.some.inj h
  obtain ⟨rfl, h1⟩ := Prod.mk.inj h
  obtain ⟨rfl, rfl⟩ := Prod.mk.inj h1
  refine AL_ret (fun _ => rfl) ?_
  exact retF_mk rfl (by exact ⟨trivial, trivial⟩) rfl (by exact rfl) (by exact trivial) (by exact ⟨rfl, rfl⟩)
 ·
  refine AL_else (by simp (decide := true) only [go_sem, Nat.reduceAdd, Nat.reduceMul, c1]) ?_
  refine AL_skip ?_
  refine AL_seq ?_
  obtain ⟨⟨t180, t181, t182⟩, g2, h⟩ := bind_or h
  dsimp only at h
  refine rg0 [0, 1, 5] [0] (fun K hK => by simp (decide := true) only [go_sem, Nat.reduceAdd, Nat.reduceMul, c1]; refine ⟨_, _, _, spec_l1Cur_next.V g2, ?_⟩; simp (decide := true) only [go_sem, Nat.reduceAdd, Nat.reduceMul, c1]; exact hK) ?_
  refine AL_seq ?_
  refine AL_seq ?_
  refine rg0 [0, 1, 5, 11] [0] (fun K hK => by simp (decide := true) only [go_sem, Nat.reduceAdd, Nat.reduceMul, c1]; exact hK) ?_
  rcases ite_orp h with ⟨c3, h⟩ | ⟨c3, h⟩
  ·
   refine AL_then (by simp (decide := true) only [go_sem, Nat.reduceAdd, Nat.reduceMul, c1, c3]) ?_
   obtain ⟨⟨t183, t184, t185⟩, g4, h⟩ := bind_or h
   dsimp only at h
   refine rg0 [1, 5] [0] (fun K hK => by simp (decide := true) only [go_sem, Nat.reduceAdd, Nat.reduceMul, c1, c3]; refine ⟨_, _, _, spec_l1Cur_next.V g4, ?_⟩; simp (decide := true) only [go_sem, Nat.reduceAdd, Nat.reduceMul, c1, c3]; exact hK) ?_
   refine AL_seq ?_
   obtain ⟨c5, h⟩ := ite_rp h
   refine rg0 [4] [0] (fun K hK => by simp (decide := true) only [go_sem, Nat.reduceAdd, Nat.reduceMul, c1, c3, c5]; exact hK) ?_
   replace h := Option.some.inj h
   obtain ⟨rfl, h1⟩ := Prod.mk.inj h
   obtain ⟨rfl, rfl⟩ := Prod.mk.inj h1
   refine AL_ret (fun _ => rfl) ?_
   exact retF_mk rfl (by exact ⟨trivial, trivial⟩) rfl (by exact rfl) (by exact trivial) (by exact ⟨rfl, rfl⟩)
  ·
   refine AL_else (by simp (decide := true) only [go_sem, Nat.reduceAdd, Nat.reduceMul, c1, c3]) ?_
   refine AL_skip ?_
   refine AL_seq ?_
   obtain ⟨c6, h⟩ := ite_rp h
   refine rg0 [4] [0] (fun K hK => by simp (decide := true) only [go_sem, Nat.reduceAdd, Nat.reduceMul, c1, c3, c6]; exact hK) ?_
   replace h := Option.some.inj h
   obtain ⟨rfl, h1⟩ := Prod.mk.inj h
   obtain ⟨rfl, rfl⟩ := Prod.mk.inj h1
   refine AL_ret (fun _ => rfl) ?_
   exact retF_mk rfl (by exact ⟨trivial, trivial⟩) rfl (by exact rfl) (by exact trivial) (by exact ⟨rfl, rfl⟩)
/-! spec_l1Cur_among : 111 -/
set_option maxRecDepth 100000 in
set_option maxHeartbeats 4000000 in
theorem spec_l1Cur_among.V {s0_0 : List Int} {s0_1 : Int} {s0_2 : Int} {l1 : List Int} {r1 : Int} {r2 : Int} {r3 : Int} (h : spec_l1Cur_among.f s0_0 s0_1 s0_2 l1 = some (r1, r2, r3)) : FnV E 111 [.ptr 0 0 0, .sl false 1 (mp mkI l1)] (some [.sl false 1 (mp mkB s0_0), .int .i64 s0_1, .int .u64 s0_2]) (.int .i64 r1) [] (some [.sl false 1 (mp mkB s0_0), .int .i64 r2, .int .u64 r3]) := by
 refine FnV_list E (rs := [.tmp 4]) Try.func111 (by rfl) rfl Try.ntmps111 rfl [] (by simp) rfl (by simp) rfl (fun us => ?_)
 simp only [argsL, memL, wrapL, wrap1, Nat.reduceAdd]
 unfold spec_l1Cur_among.f at h
 refine AL_seq ?_
 refine rg0 [0, 1] [0] (fun K hK => by simp (decide := true) only [go_sem, Nat.reduceAdd, Nat.reduceMul]; exact hK) ?_
 refine AL_seq ?_
 obtain ⟨⟨t186, t187, t188⟩, g1, h⟩ := bind_or h
 dsimp only at h
 obtain ⟨c2, h⟩ := ite_lp h
 obtain ⟨c3, h⟩ := ite_lp h
 refine rg0 [4] [0] (fun K hK => by simp (decide := true) only [go_sem, Nat.reduceAdd, Nat.reduceMul, c2, c3]; refine ⟨_, _, _, spec_l1Cur_pick.V g1, ?_⟩; simp (decide := true) only [go_sem, Nat.reduceAdd, Nat.reduceMul, c2, c3]; exact hK) ?_
 replace h := Option.some.inj h
 obtain ⟨rfl, h1⟩ := Prod.mk.inj h
 obtain ⟨rfl, rfl⟩ := Prod.mk.inj h1
 refine AL_ret (fun _ => rfl) ?_
 exact retF_mk rfl (by exact ⟨trivial, trivial⟩) rfl (by exact rfl) (by exact trivial) (by exact ⟨rfl, rfl⟩)
/-! spec_bhHole : 138 -/
set_option maxRecDepth 100000 in
set_option maxHeartbeats 4000000 in
theorem spec_bhHole.V {a0_0 : Int} {a0_1 : Int} {a0_2 : Int} {a1_0 : Int} {a1_1 : Int} {a1_2 : Int} {a1_3 : Int} {a1_4 : Int} {r : Bool} (h : spec_bhHole.f a0_0 a0_1 a0_2 a1_0 a1_1 a1_2 a1_3 a1_4 = some r) : FnV E 138 [.agg [.int .i64 a0_0, .int .i64 a0_1, .int .i64 a0_2], .agg [.int .i64 a1_0, .int .i64 a1_1, .int .i64 a1_2, .int .i64 a1_3, .int .i64 a1_4]] none (.bool r) [] none := by
 refine FnV_list E (rs := [.tmp 4]) Try.func138 (by rfl) rfl Try.ntmps138 rfl [] (by simp) rfl (by simp) rfl (fun us => ?_)
 simp only [argsL, memL, wrapL, wrap1, Nat.reduceAdd]
 unfold spec_bhHole.f at h
 refine AL_seq ?_
 refine rg0 [2, 3] [24, 32] (fun K hK => by simp (decide := true) only [go_sem, Nat.reduceAdd, Nat.reduceMul]; exact hK) ?_
 refine AL_seq ?_
 obtain ⟨t192, g1, h⟩ := bind_or h
 rcases ite_orb h with ⟨c2, h⟩ | ⟨c2, h⟩
 ·
  obtain ⟨t193, g3, h⟩ := bind_or h
  rcases ite_orb h with ⟨c4, h⟩ | ⟨c4, h⟩
  ·
   obtain ⟨t194, g5, h⟩ := bind_or h
   rcases ite_orb h with ⟨c6, h⟩ | ⟨c6, h⟩
   ·
    obtain ⟨t195, g7, h⟩ := bind_or h
    rcases ite_orb h with ⟨c8, h⟩ | ⟨c8, h⟩
    ·
     obtain ⟨t196, g9, h⟩ := bind_or h
     refine rg1 [4] [] [(7, 12), (16, 21), (25, 30), (30, 35)] (fun K hK => by simp (decide := true) (maxSteps := 4000000) only [go_sem, Nat.reduceAdd, Nat.reduceMul, c2, c4, c6, c8]; refine ⟨_, _, _, spec_l1In.V g1, ?_⟩; simp (decide := true) (maxSteps := 4000000) only [go_sem, Nat.reduceAdd, Nat.reduceMul, c2, c4, c6, c8]; refine ⟨_, _, _, spec_l1In.V g3, ?_⟩; simp (decide := true) (maxSteps := 4000000) only [go_sem, Nat.reduceAdd, Nat.reduceMul, c2, c4, c6, c8]; refine ⟨_, _, _, spec_l1In.V g5, ?_⟩; simp (decide := true) (maxSteps := 4000000) only [go_sem, Nat.reduceAdd, Nat.reduceMul, c2, c4, c6, c8]; refine ⟨_, _, _, spec_l1In.V g7, ?_⟩; simp (decide := true) (maxSteps := 4000000) only [go_sem, Nat.reduceAdd, Nat.reduceMul, c2, c4, c6, c8]; refine ⟨_, _, _, spec_l1In.V g9, ?_⟩; simp (decide := true) (maxSteps := 4000000) only [go_sem, Nat.reduceAdd, Nat.reduceMul, c2, c4, c6, c8]; exact hK) ?_
     obtain rfl := Option.some.inj h
     refine AL_ret (fun _ => rfl) ?_
     exact retF_mk rfl (by exact ⟨trivial, trivial⟩) rfl (by exact rfl) (by exact trivial) (by exact trivial)
    ·
     refine rg1 [4] [] [(7, 12), (16, 21), (25, 30), (30, 35)] (fun K hK => by simp (decide := true) (maxSteps := 4000000) only [go_sem, Nat.reduceAdd, Nat.reduceMul, c2, c4, c6, c8]; refine ⟨_, _, _, spec_l1In.V g1, ?_⟩; simp (decide := true) (maxSteps := 4000000) only [go_sem, Nat.reduceAdd, Nat.reduceMul, c2, c4, c6, c8]; refine ⟨_, _, _, spec_l1In.V g3, ?_⟩; simp (decide := true) (maxSteps := 4000000) only [go_sem, Nat.reduceAdd, Nat.reduceMul, c2, c4, c6, c8]; refine ⟨_, _, _, spec_l1In.V g5, ?_⟩; simp (decide := true) (maxSteps := 4000000) only [go_sem, Nat.reduceAdd, Nat.reduceMul, c2, c4, c6, c8]; refine ⟨_, _, _, spec_l1In.V g7, ?_⟩; simp (decide := true) (maxSteps := 4000000) only [go_sem, Nat.reduceAdd, Nat.reduceMul, c2, c4, c6, c8]; exact hK) ?_
     obtain rfl := Option.some.inj h
     refine AL_ret (fun _ => rfl) ?_
     exact retF_mk rfl (by exact ⟨trivial, trivial⟩) rfl (by exact rfl) (by exact trivial) (by exact trivial)
   ·
    refine rg1 [4] [] [(7, 12), (16, 21), (25, 30), (30, 35)] (fun K hK => by simp (decide := true) (maxSteps := 4000000) only [go_sem, Nat.reduceAdd, Nat.reduceMul, c2, c4, c6]; refine ⟨_, _, _, spec_l1In.V g1, ?_⟩; simp (decide := true) (maxSteps := 4000000) only [go_sem, Nat.reduceAdd, Nat.reduceMul, c2, c4, c6]; refine ⟨_, _, _, spec_l1In.V g3, ?_⟩; simp (decide := true) (maxSteps := 4000000) only [go_sem, Nat.reduceAdd, Nat.reduceMul, c2, c4, c6]; refine ⟨_, _, _, spec_l1In.V g5, ?_⟩; simp (decide := true) (maxSteps := 4000000) only [go_sem, Nat.reduceAdd, Nat.reduceMul, c2, c4, c6]; exact hK) ?_
    obtain rfl := Option.some.inj h
    refine AL_ret (fun _ => rfl) ?_
    exact retF_mk rfl (by exact ⟨trivial, trivial⟩) rfl (by exact rfl) (by exact trivial) (by exact trivial)
  ·
   refine rg1 [4] [] [(7, 12), (16, 21), (25, 30), (30, 35)] (fun K hK => by simp (decide := true) (maxSteps := 4000000) only [go_sem, Nat.reduceAdd, Nat.reduceMul, c2, c4]; refine ⟨_, _, _, spec_l1In.V g1, ?_⟩; simp (decide := true) (maxSteps := 4000000) only [go_sem, Nat.reduceAdd, Nat.reduceMul, c2, c4]; refine ⟨_, _, _, spec_l1In.V g3, ?_⟩; simp (decide := true) (maxSteps := 4000000) only [go_sem, Nat.reduceAdd, Nat.reduceMul, c2, c4]; exact hK) ?_
   obtain rfl := Option.some.inj h
   refine AL_ret (fun _ => rfl) ?_
   exact retF_mk rfl (by exact ⟨trivial, trivial⟩) rfl (by exact rfl) (by exact trivial) (by exact trivial)
 ·
  refine rg1 [4] [] [(7, 12), (16, 21), (25, 30), (30, 35)] (fun K hK => by simp (decide := true) (maxSteps := 4000000) only [go_sem, Nat.reduceAdd, Nat.reduceMul, c2]; refine ⟨_, _, _, spec_l1In.V g1, ?_⟩; simp (decide := true) (maxSteps := 4000000) only [go_sem, Nat.reduceAdd, Nat.reduceMul, c2]; exact hK) ?_
  obtain rfl := Option.some.inj h
  refine AL_ret (fun _ => rfl) ?_
  exact retF_mk rfl (by exact ⟨trivial, trivial⟩) rfl (by exact rfl) (by exact trivial) (by exact trivial)
/-! spec_bhList : 132 -/
set_option maxRecDepth 100000 in
set_option maxHeartbeats 4000000 in
theorem spec_bhList.V {k : Nat} {a0_0 : Int} {a0_1 : Int} {a0_2 : Int} {l1 : List (S68)} {r : Bool} (h : spec_bhList.f k a0_0 a0_1 a0_2 l1 = some r) : FnV E 132 [.agg [.int .i64 a0_0, .int .i64 a0_1, .int .i64 a0_2], .sl false 5 (mp mkS68 l1)] none (.bool r) [] none := by
 refine FnV_list E (rs := [.tmp 4]) Try.func132 (by rfl) rfl Try.ntmps132 rfl [] (by simp) rfl (by simp) rfl (fun us => ?_)
 simp only [argsL, memL, wrapL, wrap1, Nat.reduceAdd]
 unfold spec_bhList.f at h
 refine AL_seq ?_
 refine rg0 [1, 2] [24] (fun K hK => by simp (decide := true) only [go_sem, Nat.reduceAdd, Nat.reduceMul]; exact hK) ?_
 refine AL_seq ?_
 refine AL_seq ?_
 refine rg0 [1, 2, 7, 8, 9] [24] (fun K hK => by simp (decide := true) only [go_sem, Nat.reduceAdd, Nat.reduceMul]; exact hK) ?_
 refine AL_block ?_
 refine AL_loop (n := k) (fun n S => (∃ x1 x7 x8 x9 x198000 x198001 x198002, n ≤ k ∧ spec_bhList.l0 n x1 x7 x8 x9 x198000 x198001 x198002 = some r ∧ At [(1, .sl false 5 (mp mkS68 x1)), (2, .ptr 24 0 0), (7, .sl false 5 (mp mkS68 x7)), (8, .int .i64 x8), (9, .int .i64 x9)] [(24, some (.box [.int .i64 x198000, .int .i64 x198001, .int .i64 x198002]))] S)) ?_ ?_
 · exact ⟨_, _, _, _, _, _, _, by omega, h, At_keep [1, 2, 7, 8, 9] [24]⟩
 ·
  intro n S hS
  obtain ⟨x1, x7, x8, x9, x198000, x198001, x198002, hkq1, h, hS⟩ := hS
  rcases n with _ | n2
  · (rw [spec_bhList.l0] at h; cases h)
  rw [spec_bhList.l0] at h
  refine AW_at hS ?_
  refine AL_seq ?_
  refine rg0 [1, 2, 7, 8, 9, 10] [24] (fun K hK => by simp (decide := true) only [go_sem, Nat.reduceAdd, Nat.reduceMul]; exact hK) ?_
  refine AL_seq ?_
  rcases ite_orp h with ⟨c3, h⟩ | ⟨c3, h⟩
  ·
   refine AL_then (by simp (decide := true) only [go_sem, Nat.reduceAdd, Nat.reduceMul, c3]) ?_
   refine AL_skip ?_
   refine AL_seq ?_
   refine AL_block ?_
   refine AL_seq ?_
   obtain ⟨c4, h⟩ := ite_lp h
   obtain ⟨c5, h⟩ := ite_lp h
   refine rg0 [1, 2, 6, 7, 8, 9] [24, 56] (fun K hK => by simp (decide := true) only [go_sem, Nat.reduceAdd, Nat.reduceMul, c3, c4, c5]; exact hK) ?_
   refine AL_seq ?_
   obtain ⟨t200, g6, h⟩ := bind_or h
   refine rg0 [1, 2, 7, 8, 9, 16] [24] (fun K hK => by simp (decide := true) only [go_sem, Nat.reduceAdd, Nat.reduceMul, c3, c4, c5]; refine ⟨_, _, _, spec_bhHole.V g6, ?_⟩; simp (decide := true) only [go_sem, Nat.reduceAdd, Nat.reduceMul, c3, c4, c5]; exact hK) ?_
   rcases ite_orb h with ⟨c7, h⟩ | ⟨c7, h⟩
   ·
    refine AL_else (by simp (decide := true) only [go_sem, Nat.reduceAdd, Nat.reduceMul, c3, c4, c5, c7]) ?_
    refine AL_skip ?_
    refine blockQ_n ?_
    refine rg0 [1, 2, 7, 8, 9] [24] (fun K hK => by simp (decide := true) only [go_sem, Nat.reduceAdd, Nat.reduceMul, c3, c4, c5, c7]; exact hK) ?_
    refine AL_again (m := n2) (by omega) ?_
    exact ⟨_, _, _, _, _, _, _, by omega, h, At_keep [1, 2, 7, 8, 9] [24]⟩
   ·
    refine AL_then (by simp (decide := true) only [go_sem, Nat.reduceAdd, Nat.reduceMul, c3, c4, c5, c7]) ?_
    refine AL_seq ?_
    refine rg0 [4] [] (fun K hK => by simp (decide := true) only [go_sem, Nat.reduceAdd, Nat.reduceMul, c3, c4, c5, c7]; exact hK) ?_
    obtain rfl := Option.some.inj h
    refine AL_ret (fun _ => rfl) ?_
    exact retF_mk rfl (by exact ⟨trivial, trivial⟩) rfl (by exact rfl) (by exact trivial) (by exact trivial)
  ·
   refine AL_else (by simp (decide := true) only [go_sem, Nat.reduceAdd, Nat.reduceMul, c3]) ?_
   refine AL_exit ?_
   repeat first | refine thenQ_x ?_ | refine blockQ_miss (by decide) ?_
   refine blockQ_hit ?_
   refine AL_seq ?_
   refine rg0 [4] [] (fun K hK => by simp (decide := true) only [go_sem, Nat.reduceAdd, Nat.reduceMul, c3]; exact hK) ?_
   obtain rfl := Option.some.inj h
   refine AL_ret (fun _ => rfl) ?_
   exact retF_mk rfl (by exact ⟨trivial, trivial⟩) rfl (by exact rfl) (by exact trivial) (by exact trivial)
/-! spec_l1Least : 120 -/
set_option maxRecDepth 100000 in
set_option maxHeartbeats 4000000 in
theorem spec_l1Least.V {a0 : Int} {a1 : Int} {r : Int} (h : spec_l1Least.f a0 a1 = some r) : FnV E 120 [.int .i64 a0, .int .i64 a1] none (.int .i64 r) [] none := by
 refine FnV_list E (rs := [.tmp 4]) Try.func120 (by rfl) rfl Try.ntmps120 rfl [] (by simp) rfl (by simp) rfl (fun us => ?_)
 simp only [argsL, memL, wrapL, wrap1, Nat.reduceAdd]
 unfold spec_l1Least.f at h
 refine AL_seq ?_
 refine rg0 [0, 1] [] (fun K hK => by simp (decide := true) only [go_sem, Nat.reduceAdd, Nat.reduceMul]; exact hK) ?_
 refine AL_seq ?_
 refine AL_seq ?_
 refine rg0 [0, 1, 7] [] (fun K hK => by simp (decide := true) only [go_sem, Nat.reduceAdd, Nat.reduceMul]; exact hK) ?_
 rcases ite_orp h with ⟨c1, h⟩ | ⟨c1, h⟩
 ·
  refine AL_then (by simp (decide := true) only [go_sem, Nat.reduceAdd, Nat.reduceMul, c1]) ?_
  refine AL_seq ?_
  refine rg0 [4] [] (fun K hK => by simp (decide := true) only [go_sem, Nat.reduceAdd, Nat.reduceMul, c1]; exact hK) ?_
  obtain rfl := Option.some.inj h
  refine AL_ret (fun _ => rfl) ?_
  exact retF_mk rfl (by exact ⟨trivial, trivial⟩) rfl (by exact rfl) (by exact trivial) (by exact trivial)
 ·
  refine AL_else (by simp (decide := true) only [go_sem, Nat.reduceAdd, Nat.reduceMul, c1]) ?_
  refine AL_skip ?_
  refine AL_seq ?_
  refine rg0 [4] [] (fun K hK => by simp (decide := true) only [go_sem, Nat.reduceAdd, Nat.reduceMul, c1]; exact hK) ?_
  obtain rfl := Option.some.inj h
  refine AL_ret (fun _ => rfl) ?_
  exact retF_mk rfl (by exact ⟨trivial, trivial⟩) rfl (by exact rfl) (by exact trivial) (by exact trivial)
/-! spec_l1Most : 177 -/
set_option maxRecDepth 100000 in
set_option maxHeartbeats 4000000 in
theorem spec_l1Most.V {a0 : Int} {a1 : Int} {r : Int} (h : spec_l1Most.f a0 a1 = some r) : FnV E 177 [.int .i64 a0, .int .i64 a1] none (.int .i64 r) [] none := by
 refine FnV_list E (rs := [.tmp 4]) Try.func177 (by rfl) rfl Try.ntmps177 rfl [] (by simp) rfl (by simp) rfl (fun us => ?_)
 simp only [argsL, memL, wrapL, wrap1, Nat.reduceAdd]
 unfold spec_l1Most.f at h
 refine AL_seq ?_
 refine rg0 [0, 1] [] (fun K hK => by simp (decide := true) only [go_sem, Nat.reduceAdd, Nat.reduceMul]; exact hK) ?_
 refine AL_seq ?_
 refine AL_seq ?_
 refine rg0 [0, 1, 7] [] (fun K hK => by simp (decide := true) only [go_sem, Nat.reduceAdd, Nat.reduceMul]; exact hK) ?_
 rcases ite_orp h with ⟨c1, h⟩ | ⟨c1, h⟩
 ·
  refine AL_then (by simp (decide := true) only [go_sem, Nat.reduceAdd, Nat.reduceMul, c1]) ?_
  refine AL_seq ?_
  refine rg0 [4] [] (fun K hK => by simp (decide := true) only [go_sem, Nat.reduceAdd, Nat.reduceMul, c1]; exact hK) ?_
  obtain rfl := Option.some.inj h
  refine AL_ret (fun _ => rfl) ?_
  exact retF_mk rfl (by exact ⟨trivial, trivial⟩) rfl (by exact rfl) (by exact trivial) (by exact trivial)
 ·
  refine AL_else (by simp (decide := true) only [go_sem, Nat.reduceAdd, Nat.reduceMul, c1]) ?_
  refine AL_skip ?_
  refine AL_seq ?_
  refine rg0 [4] [] (fun K hK => by simp (decide := true) only [go_sem, Nat.reduceAdd, Nat.reduceMul, c1]; exact hK) ?_
  obtain rfl := Option.some.inj h
  refine AL_ret (fun _ => rfl) ?_
  exact retF_mk rfl (by exact ⟨trivial, trivial⟩) rfl (by exact rfl) (by exact trivial) (by exact trivial)
/-! spec_l1Cur_hole : 137 -/
set_option maxRecDepth 100000 in
set_option maxHeartbeats 4000000 in
theorem spec_l1Cur_hole.V {s0_0 : List Int} {s0_1 : Int} {s0_2 : Int} {a1_0 : Int} {a1_1 : Int} {a1_2 : Int} {r1 : Int} {r2 : Int} {r3 : Int} {r4 : Int} {r5 : Int} {r6 : Int} {r7 : Int} (h : spec_l1Cur_hole.f s0_0 s0_1 s0_2 a1_0 a1_1 a1_2 = some (r1, r2, r3, r4, r5, r6, r7)) : FnV E 137 [.ptr 0 0 0, .agg [.int .i64 a1_0, .int .i64 a1_1, .int .i64 a1_2]] (some [.sl false 1 (mp mkB s0_0), .int .i64 s0_1, .int .u64 s0_2]) (.agg [.int .i64 r1, .int .i64 r2, .int .i64 r3, .int .i64 r4, .int .i64 r5]) [] (some [.sl false 1 (mp mkB s0_0), .int .i64 r6, .int .u64 r7]) := by
 refine FnV_list E (rs := [.cell 4 68]) Try.func137 (by rfl) rfl Try.ntmps137 rfl [] (by simp) rfl (by simp) rfl (fun us => ?_)
 simp only [argsL, memL, wrapL, wrap1, Nat.reduceAdd]
 unfold spec_l1Cur_hole.f at h
 refine AL_seq ?_
 refine rg0 [0, 3, 4] [0, 32, 40] (fun K hK => by simp (decide := true) only [go_sem, Nat.reduceAdd, Nat.reduceMul]; exact hK) ?_
 refine AL_seq ?_
 obtain ⟨t203, g1, h⟩ := bind_or h
 obtain ⟨t204, g2, h⟩ := bind_or h
 obtain ⟨⟨t205, t206, t207⟩, g3, h⟩ := bind_or h
 dsimp only at h
 obtain ⟨t208, g4, h⟩ := bind_or h
 obtain ⟨t209, g5, h⟩ := bind_or h
 obtain ⟨⟨t210, t211, t212⟩, g6, h⟩ := bind_or h
 dsimp only at h
 obtain ⟨t213, g7, h⟩ := bind_or h
 obtain ⟨t214, g8, h⟩ := bind_or h
 obtain ⟨⟨t215, t216, t217⟩, g9, h⟩ := bind_or h
 dsimp only at h
 obtain ⟨⟨t221, t222, t223⟩, g10, h⟩ := bind_or h
 dsimp only at h
 obtain ⟨⟨t224, t225, t226⟩, g11, h⟩ := bind_or h
 dsimp only at h
 obtain ⟨⟨t230, t231, t232⟩, g12, h⟩ := bind_or h
 dsimp only at h
 refine rg2 [0, 3, 4, 5] [0, 32, 40, 48] [] ⟨[15, 22], [12, 19], [0]⟩ [] (fun K hK => by simp (decide := true) (maxSteps := 4000000) only [go_sem, Nat.reduceAdd, Nat.reduceMul]; refine ⟨_, _, _, spec_l1Least.V g1, ?_⟩; simp (decide := true) (maxSteps := 4000000) only [go_sem, Nat.reduceAdd, Nat.reduceMul]; refine ⟨_, _, _, spec_l1Most.V g2, ?_⟩; simp (decide := true) (maxSteps := 4000000) only [go_sem, Nat.reduceAdd, Nat.reduceMul]; refine ⟨_, _, _, spec_l1Cur_pick.V g3, ?_⟩; simp (decide := true) (maxSteps := 4000000) only [go_sem, Nat.reduceAdd, Nat.reduceMul]; refine ⟨_, _, _, spec_l1Least.V g4, ?_⟩; simp (decide := true) (maxSteps := 4000000) only [go_sem, Nat.reduceAdd, Nat.reduceMul]; refine ⟨_, _, _, spec_l1Most.V g5, ?_⟩; simp (decide := true) (maxSteps := 4000000) only [go_sem, Nat.reduceAdd, Nat.reduceMul]; refine ⟨_, _, _, spec_l1Cur_pick.V g6, ?_⟩; simp (decide := true) (maxSteps := 4000000) only [go_sem, Nat.reduceAdd, Nat.reduceMul]; refine ⟨_, _, _, spec_l1Least.V g7, ?_⟩; simp (decide := true) (maxSteps := 4000000) only [go_sem, Nat.reduceAdd, Nat.reduceMul]; refine ⟨_, _, _, spec_l1Most.V g8, ?_⟩; simp (decide := true) (maxSteps := 4000000) only [go_sem, Nat.reduceAdd, Nat.reduceMul]; refine ⟨_, _, _, spec_l1Cur_pick.V g9, ?_⟩; simp (decide := true) (maxSteps := 4000000) only [go_sem, Nat.reduceAdd, Nat.reduceMul]; refine ⟨_, _, _, spec_l1Cur_among.V g10, ?_⟩; simp (decide := true) (maxSteps := 4000000) only [go_sem, Nat.reduceAdd, Nat.reduceMul]; refine ⟨_, _, _, spec_l1Cur_pick.V g11, ?_⟩; simp (decide := true) (maxSteps := 4000000) only [go_sem, Nat.reduceAdd, Nat.reduceMul]; refine ⟨_, _, _, spec_l1Cur_among.V g12, ?_⟩; simp (decide := true) (maxSteps := 4000000) only [go_sem, Nat.reduceAdd, Nat.reduceMul]; exact hK) ?_
 refine AL_seq ?_
 refine AL_seq ?_
 obtain ⟨⟨t234, t235, t236⟩, g13, h⟩ := bind_or h
 dsimp only at h
 refine rg0 [0, 3, 4, 5, 37] [0, 32, 40, 48] (fun K hK => by simp (decide := true) only [go_sem, Nat.reduceAdd, Nat.reduceMul]; refine ⟨_, _, _, spec_l1Cur_pick.V g13, ?_⟩; simp (decide := true) only [go_sem, Nat.reduceAdd, Nat.reduceMul]; exact hK) ?_
 refine AL_block ?_
 refine AL_seq ?_
 refine rg0 [0, 3, 4, 5, 37, 38] [0, 32, 40, 48] (fun K hK => by simp (decide := true) only [go_sem, Nat.reduceAdd, Nat.reduceMul]; exact hK) ?_
 rcases ite_orp h with ⟨c14, h⟩ | ⟨c14, h⟩
 ·
  refine AL_then (by simp (decide := true) only [go_sem, Nat.reduceAdd, Nat.reduceMul, c14]) ?_
  obtain ⟨t237, g15, h⟩ := bind_or h
  obtain ⟨⟨t241, t242, t243⟩, g16, h⟩ := bind_or h
  dsimp only at h
  refine rg0 [4, 5] [0, 40, 48] (fun K hK => by simp (decide := true) only [go_sem, Nat.reduceAdd, Nat.reduceMul, c14]; refine ⟨_, _, _, spec_l1Least.V g15, ?_⟩; simp (decide := true) only [go_sem, Nat.reduceAdd, Nat.reduceMul, c14]; refine ⟨_, _, _, spec_l1Cur_among.V g16, ?_⟩; simp (decide := true) only [go_sem, Nat.reduceAdd, Nat.reduceMul, c14]; exact hK) ?_
  refine blockQ_n ?_
  refine AL_seq ?_
  refine rg0 [4] [0, 40] (fun K hK => by simp (decide := true) only [go_sem, Nat.reduceAdd, Nat.reduceMul, c14]; exact hK) ?_
  replace h := Option.some.inj h
  obtain ⟨rfl, h1⟩ := Prod.mk.inj h
  obtain ⟨rfl, h2⟩ := Prod.mk.inj h1
  obtain ⟨rfl, h3⟩ := Prod.mk.inj h2
  obtain ⟨rfl, h4⟩ := Prod.mk.inj h3
  obtain ⟨rfl, h5⟩ := Prod.mk.inj h4
  obtain ⟨rfl, rfl⟩ := Prod.mk.inj h5
  refine AL_ret (fun _ => rfl) ?_
  exact retF_mk rfl (by exact ⟨(by simp), trivial⟩) rfl (by exact ⟨rfl, rfl, rfl, rfl, rfl, trivial⟩) (by exact trivial) (by exact ⟨rfl, rfl⟩)
 ·
  refine AL_else (by simp (decide := true) only [go_sem, Nat.reduceAdd, Nat.reduceMul, c14]) ?_
  refine AL_seq ?_
  refine rg0 [0, 4, 5, 37, 48] [0, 40, 48] (fun K hK => by simp (decide := true) only [go_sem, Nat.reduceAdd, Nat.reduceMul, c14]; exact hK) ?_
  rcases ite_orp h with ⟨c17, h⟩ | ⟨c17, h⟩
  ·
   refine AL_then (by simp (decide := true) only [go_sem, Nat.reduceAdd, Nat.reduceMul, c14, c17]) ?_
   obtain ⟨⟨t247, t248, t249⟩, g18, h⟩ := bind_or h
   dsimp only at h
   refine rg0 [4, 5] [0, 40, 48] (fun K hK => by simp (decide := true) only [go_sem, Nat.reduceAdd, Nat.reduceMul, c14, c17]; refine ⟨_, _, _, spec_l1Cur_among.V g18, ?_⟩; simp (decide := true) only [go_sem, Nat.reduceAdd, Nat.reduceMul, c14, c17]; exact hK) ?_
   refine blockQ_n ?_
   refine AL_seq ?_
   refine rg0 [4] [0, 40] (fun K hK => by simp (decide := true) only [go_sem, Nat.reduceAdd, Nat.reduceMul, c14, c17]; exact hK) ?_
   replace h := Option.some.inj h
   obtain ⟨rfl, h1⟩ := Prod.mk.inj h
   obtain ⟨rfl, h2⟩ := Prod.mk.inj h1
   obtain ⟨rfl, h3⟩ := Prod.mk.inj h2
   obtain ⟨rfl, h4⟩ := Prod.mk.inj h3
   obtain ⟨rfl, h5⟩ := Prod.mk.inj h4
   obtain ⟨rfl, rfl⟩ := Prod.mk.inj h5
   refine AL_ret (fun _ => rfl) ?_
   exact retF_mk rfl (by exact ⟨(by simp), trivial⟩) rfl (by exact ⟨rfl, rfl, rfl, rfl, rfl, trivial⟩) (by exact trivial) (by exact ⟨rfl, rfl⟩)
  ·
   refine AL_else (by simp (decide := true) only [go_sem, Nat.reduceAdd, Nat.reduceMul, c14, c17]) ?_
   refine AL_seq ?_
   refine rg0 [0, 4, 5, 54] [0, 40, 48] (fun K hK => by simp (decide := true) only [go_sem, Nat.reduceAdd, Nat.reduceMul, c14, c17]; exact hK) ?_
   rcases ite_orp h with ⟨c19, h⟩ | ⟨c19, h⟩
   ·
    refine AL_then (by simp (decide := true) only [go_sem, Nat.reduceAdd, Nat.reduceMul, c14, c17, c19]) ?_
    obtain ⟨⟨t253, t254, t255⟩, g20, h⟩ := bind_or h
    dsimp only at h
    refine rg0 [4, 5] [0, 40, 48] (fun K hK => by simp (decide := true) only [go_sem, Nat.reduceAdd, Nat.reduceMul, c14, c17, c19]; refine ⟨_, _, _, spec_l1Cur_among.V g20, ?_⟩; simp (decide := true) only [go_sem, Nat.reduceAdd, Nat.reduceMul, c14, c17, c19]; exact hK) ?_
    refine blockQ_n ?_
    refine AL_seq ?_
    refine rg0 [4] [0, 40] (fun K hK => by simp (decide := true) only [go_sem, Nat.reduceAdd, Nat.reduceMul, c14, c17, c19]; exact hK) ?_
    replace h := Option.some.inj h
    obtain ⟨rfl, h1⟩ := Prod.mk.inj h
    obtain ⟨rfl, h2⟩ := Prod.mk.inj h1
    obtain ⟨rfl, h3⟩ := Prod.mk.inj h2
    obtain ⟨rfl, h4⟩ := Prod.mk.inj h3
    obtain ⟨rfl, h5⟩ := Prod.mk.inj h4
    obtain ⟨rfl, rfl⟩ := Prod.mk.inj h5
    refine AL_ret (fun _ => rfl) ?_
    exact retF_mk rfl (by exact ⟨(by simp), trivial⟩) rfl (by exact ⟨rfl, rfl, rfl, rfl, rfl, trivial⟩) (by exact trivial) (by exact ⟨rfl, rfl⟩)
   ·
    refine AL_else (by simp (decide := true) only [go_sem, Nat.reduceAdd, Nat.reduceMul, c14, c17, c19]) ?_
    refine AL_skip ?_
    refine blockQ_n ?_
    refine AL_seq ?_
    refine rg0 [4] [0, 40] (fun K hK => by simp (decide := true) only [go_sem, Nat.reduceAdd, Nat.reduceMul, c14, c17, c19]; exact hK) ?_
    replace h := Option.some.inj h
    obtain ⟨rfl, h1⟩ := Prod.mk.inj h
    obtain ⟨rfl, h2⟩ := Prod.mk.inj h1
    obtain ⟨rfl, h3⟩ := Prod.mk.inj h2
    obtain ⟨rfl, h4⟩ := Prod.mk.inj h3
    obtain ⟨rfl, h5⟩ := Prod.mk.inj h4
    obtain ⟨rfl, rfl⟩ := Prod.mk.inj h5
    refine AL_ret (fun _ => rfl) ?_
    exact retF_mk rfl (by exact ⟨(by simp), trivial⟩) rfl (by exact ⟨rfl, rfl, rfl, rfl, rfl, trivial⟩) (by exact trivial) (by exact ⟨rfl, rfl⟩)
/-! spec_l1Cur_one : 145 -/
set_option maxRecDepth 100000 in
set_option maxHeartbeats 4000000 in
theorem spec_l1Cur_one.V {s0_0 : List Int} {s0_1 : Int} {s0_2 : Int} {a1 : Int} {r1 : Bool} {r2 : Int} {r3 : Int} (h : spec_l1Cur_one.f s0_0 s0_1 s0_2 a1 = some (r1, r2, r3)) : FnV E 145 [.ptr 0 0 0, .int .i64 a1] (some [.sl false 1 (mp mkB s0_0), .int .i64 s0_1, .int .u64 s0_2]) (.bool r1) [] (some [.sl false 1 (mp mkB s0_0), .int .i64 r2, .int .u64 r3]) := by
 refine FnV_list E (rs := [.tmp 4]) Try.func145 (by rfl) rfl Try.ntmps145 rfl [] (by simp) rfl (by simp) rfl (fun us => ?_)
 simp only [argsL, memL, wrapL, wrap1, Nat.reduceAdd]
 unfold spec_l1Cur_one.f at h
 refine AL_seq ?_
 refine rg0 [0, 1] [0] (fun K hK => by simp (decide := true) only [go_sem, Nat.reduceAdd, Nat.reduceMul]; exact hK) ?_
 refine AL_seq ?_
 obtain ⟨⟨t256, t257, t258⟩, g1, h⟩ := bind_or h
 dsimp only at h
 refine rg0 [4] [0] (fun K hK => by simp (decide := true) only [go_sem, Nat.reduceAdd, Nat.reduceMul]; refine ⟨_, _, _, spec_l1Cur_pick.V g1, ?_⟩; simp (decide := true) only [go_sem, Nat.reduceAdd, Nat.reduceMul]; exact hK) ?_
 replace h := Option.some.inj h
 obtain ⟨rfl, h1⟩ := Prod.mk.inj h
 obtain ⟨rfl, rfl⟩ := Prod.mk.inj h1
 refine AL_ret (fun _ => rfl) ?_
 exact retF_mk rfl (by exact ⟨trivial, trivial⟩) rfl (by exact rfl) (by exact trivial) (by exact ⟨rfl, rfl⟩)
/-! spec_l1Cur_holes : 133 -/
set_option maxRecDepth 100000 in
set_option maxHeartbeats 4000000 in
theorem spec_l1Cur_holes.V {k : Nat} {s0_0 : List Int} {s0_1 : Int} {s0_2 : Int} {a1_0 : Int} {a1_1 : Int} {a1_2 : Int} {r1 : List (S68)} {r2 : Int} {r3 : Int} (h : spec_l1Cur_holes.f k s0_0 s0_1 s0_2 a1_0 a1_1 a1_2 = some (r1, r2, r3)) : FnV E 133 [.ptr 0 0 0, .agg [.int .i64 a1_0, .int .i64 a1_1, .int .i64 a1_2]] (some [.sl false 1 (mp mkB s0_0), .int .i64 s0_1, .int .u64 s0_2]) (.sl true 5 (mp mkS68 r1)) [] (some [.sl false 1 (mp mkB s0_0), .int .i64 r2, .int .u64 r3]) := by
 refine FnV_list E (rs := [.tmp 4]) Try.func133 (by rfl) rfl Try.ntmps133 rfl [] (by simp) rfl (by simp) rfl (fun us => ?_)
 simp only [argsL, memL, wrapL, wrap1, Nat.reduceAdd]
 unfold spec_l1Cur_holes.f at h
 refine AL_seq ?_
 refine rg0 [0, 3] [0, 32] (fun K hK => by simp (decide := true) only [go_sem, Nat.reduceAdd, Nat.reduceMul]; exact hK) ?_
 refine AL_seq ?_
 refine rg0 [0, 3, 5] [0, 32] (fun K hK => by simp (decide := true) only [go_sem, Nat.reduceAdd, Nat.reduceMul]; exact hK) ?_
 refine AL_seq ?_
 obtain ⟨⟨t260, t261, t262⟩, g1, h⟩ := bind_or h
 dsimp only at h
 refine rg0 [0, 3, 5, 6] [0, 32] (fun K hK => by simp (decide := true) only [go_sem, Nat.reduceAdd, Nat.reduceMul]; refine ⟨_, _, _, spec_l1Cur_pick.V g1, ?_⟩; simp (decide := true) only [go_sem, Nat.reduceAdd, Nat.reduceMul]; exact hK) ?_
 refine AL_seq ?_
 refine AL_seq ?_
 obtain ⟨⟨t263, t264, t265⟩, g2, h⟩ := bind_or h
 dsimp only at h
 refine rg0 [0, 3, 5, 6, 10] [0, 32] (fun K hK => by simp (decide := true) only [go_sem, Nat.reduceAdd, Nat.reduceMul]; refine ⟨_, _, _, spec_l1Cur_one.V g2, ?_⟩; simp (decide := true) only [go_sem, Nat.reduceAdd, Nat.reduceMul]; exact hK) ?_
 refine AL_cut (fun S => (∃ kk : Nat, ∃ x6 x1001 x1002 x260000 x260001 x260002, kk ≤ k ∧ spec_l1Cur_holes.j0 kk ([] : List (S68)) x6 s0_0 x1001 x1002 x260000 x260001 x260002 = some (r1, r2, r3) ∧ At [(0, .ptr 0 0 0), (3, .ptr 32 0 0), (5, .nil), (6, .int .i64 x6)] [(0, some (.box [.con (us 0) (.sl false 1 (mp mkB s0_0)), .int .i64 x1001, .int .u64 x1002])), (32, some (.box [.int .i64 x260000, .int .i64 x260001, .int .i64 x260002]))] S)) ?_ ?_
 ·
  rcases ite_orb h with ⟨c3, h⟩ | ⟨c3, h⟩
  ·
   refine AL_then (by simp (decide := true) only [go_sem, Nat.reduceAdd, Nat.reduceMul, c3]) ?_
   obtain ⟨⟨t266, t267, t268⟩, g4, h⟩ := bind_or h
   dsimp only at h
   refine rg0 [0, 3, 5, 6] [0, 32] (fun K hK => by simp (decide := true) only [go_sem, Nat.reduceAdd, Nat.reduceMul, c3]; refine ⟨_, _, _, spec_l1Cur_pick.V g4, ?_⟩; simp (decide := true) only [go_sem, Nat.reduceAdd, Nat.reduceMul, c3]; exact hK) ?_
   refine AL_meet ?_
   exact ⟨_, _, _, _, _, _, _, by omega, h, At_keep [0, 3, 5, 6] [0, 32]⟩
  ·
   refine AL_else (by simp (decide := true) only [go_sem, Nat.reduceAdd, Nat.reduceMul, c3]) ?_
   refine AL_skip ?_
   refine AL_meet ?_
   exact ⟨_, _, _, _, _, _, _, by omega, h, At_keep [0, 3, 5, 6] [0, 32]⟩
 ·
  intro S hS
  obtain ⟨kk5, x6, x1001, x1002, x260000, x260001, x260002, hkq6, h, hS⟩ := hS
  rcases kk5 with _ | n7
  · (rw [spec_l1Cur_holes.j0] at h; cases h)
  rw [spec_l1Cur_holes.j0] at h
  refine AW_at hS ?_
  refine AL_seq ?_
  refine AL_block ?_
  refine AL_loop (n := n7) (fun n S => (∃ x6 x1001 x1002 x260000 x260001 x260002, n ≤ n7 ∧ spec_l1Cur_holes.l0 n ([] : List (S68)) x6 s0_0 x1001 x1002 x260000 x260001 x260002 = some (r1, r2, r3) ∧ At [(0, .ptr 0 0 0), (3, .ptr 32 0 0), (5, .nil), (6, .int .i64 x6)] [(0, some (.box [.con (us 0) (.sl false 1 (mp mkB s0_0)), .int .i64 x1001, .int .u64 x1002])), (32, some (.box [.int .i64 x260000, .int .i64 x260001, .int .i64 x260002]))] S) ∨ (∃ x6 x1001 x1002 x260000 x260001 x260002 x5, n ≤ n7 ∧ spec_l1Cur_holes.l0 n x5 x6 s0_0 x1001 x1002 x260000 x260001 x260002 = some (r1, r2, r3) ∧ At [(0, .ptr 0 0 0), (3, .ptr 32 0 0), (5, .ref 192), (6, .int .i64 x6)] [(0, some (.box [.con (us 0) (.sl false 1 (mp mkB s0_0)), .int .i64 x1001, .int .u64 x1002])), (32, some (.box [.int .i64 x260000, .int .i64 x260001, .int .i64 x260002])), (192, some (.row 68 5 (mp mkS68 x5)))] S)) ?_ ?_
  · exact .inl ⟨_, _, _, _, _, _, by omega, h, At_keep [0, 3, 5, 6] [0, 32]⟩
  ·
   intro n S hS
   rcases hS with hS | hS
   ·
    obtain ⟨x6, x1001, x1002, x260000, x260001, x260002, hkq8, h, hS⟩ := hS
    rcases n with _ | n9
    · (rw [spec_l1Cur_holes.l0] at h; cases h)
    rw [spec_l1Cur_holes.l0] at h
    refine AW_at hS ?_
    refine AL_seq ?_
    refine AL_seq ?_
    refine rg0 [0, 3, 5, 6, 15] [0, 32] (fun K hK => by simp (decide := true) only [go_sem, Nat.reduceAdd, Nat.reduceMul]; exact hK) ?_
    rcases ite_orp h with ⟨c10, h⟩ | ⟨c10, h⟩
    ·
     refine AL_then (by simp (decide := true) only [go_sem, Nat.reduceAdd, Nat.reduceMul, c10]) ?_
     refine AL_skip ?_
     refine AL_seq ?_
     refine AL_block ?_
     obtain ⟨⟨t269, t270, t271, t272, t273, t274, t275⟩, g11, h⟩ := bind_or h
     dsimp only at h
     obtain ⟨c12, h⟩ := ite_l h
     have c12l := lim40 c12
     replace c12 := eq_true c12
     refine rg0 [0, 3, 5, 6] [0, 32, 192] (fun K hK => by simp (decide := true) only [go_sem, Nat.reduceAdd, Nat.reduceMul, c10, c12l, c12]; refine ⟨_, _, _, spec_l1Cur_hole.V g11, ?_⟩; simp (decide := true) only [go_sem, Nat.reduceAdd, Nat.reduceMul, c10, c12l, c12]; exact hK) ?_
     refine blockQ_n ?_
     refine rg0 [0, 3, 5, 6] [0, 32, 192] (fun K hK => by simp (decide := true) only [go_sem, Nat.reduceAdd, Nat.reduceMul, c10, c12l, c12]; exact hK) ?_
     refine AL_again (m := n9) (by omega) ?_
     exact .inr (⟨_, _, _, _, _, _, _, by omega, h, At_keep [0, 3, 5, 6] [0, 32, 192]⟩)
    ·
     refine AL_else (by simp (decide := true) only [go_sem, Nat.reduceAdd, Nat.reduceMul, c10]) ?_
     refine AL_exit ?_
     repeat first | refine thenQ_x ?_ | refine blockQ_miss (by decide) ?_
     refine blockQ_hit ?_
     refine AL_seq ?_
     refine rg0 [4] [0] (fun K hK => by simp (decide := true) only [go_sem, Nat.reduceAdd, Nat.reduceMul, c10]; exact hK) ?_
     replace h := Option.some.inj h
     obtain ⟨rfl, h1⟩ := Prod.mk.inj h
     obtain ⟨rfl, rfl⟩ := Prod.mk.inj h1
     refine AL_ret (fun _ => rfl) ?_
     exact retF_mk rfl (by exact ⟨trivial, trivial⟩) rfl (by exact rfl) (by exact trivial) (by exact ⟨rfl, rfl⟩)
   ·
    obtain ⟨x6, x1001, x1002, x260000, x260001, x260002, x5, hkq13, h, hS⟩ := hS
    rcases n with _ | n14
    · (rw [spec_l1Cur_holes.l0] at h; cases h)
    rw [spec_l1Cur_holes.l0] at h
    refine AW_at hS ?_
    refine AL_seq ?_
    refine AL_seq ?_
    refine rg0 [0, 3, 5, 6, 15] [0, 32, 192] (fun K hK => by simp (decide := true) only [go_sem, Nat.reduceAdd, Nat.reduceMul]; exact hK) ?_
    rcases ite_orp h with ⟨c15, h⟩ | ⟨c15, h⟩
    ·
     refine AL_then (by simp (decide := true) only [go_sem, Nat.reduceAdd, Nat.reduceMul, c15]) ?_
     refine AL_skip ?_
     refine AL_seq ?_
     refine AL_block ?_
     obtain ⟨⟨t269, t270, t271, t272, t273, t274, t275⟩, g16, h⟩ := bind_or h
     dsimp only at h
     obtain ⟨c17, h⟩ := ite_l h
     have c17l := lim40 c17
     replace c17 := eq_true c17
     refine rg0 [0, 3, 5, 6] [0, 32, 192] (fun K hK => by simp (decide := true) only [go_sem, Nat.reduceAdd, Nat.reduceMul, c15, c17l, c17]; refine ⟨_, _, _, spec_l1Cur_hole.V g16, ?_⟩; simp (decide := true) only [go_sem, Nat.reduceAdd, Nat.reduceMul, c15, c17l, c17]; exact hK) ?_
     refine blockQ_n ?_
     refine rg0 [0, 3, 5, 6] [0, 32, 192] (fun K hK => by simp (decide := true) only [go_sem, Nat.reduceAdd, Nat.reduceMul, c15, c17l, c17]; exact hK) ?_
     refine AL_again (m := n14) (by omega) ?_
     exact .inr (⟨_, _, _, _, _, _, _, by omega, h, At_keep [0, 3, 5, 6] [0, 32, 192]⟩)
    ·
     refine AL_else (by simp (decide := true) only [go_sem, Nat.reduceAdd, Nat.reduceMul, c15]) ?_
     refine AL_exit ?_
     repeat first | refine thenQ_x ?_ | refine blockQ_miss (by decide) ?_
     refine blockQ_hit ?_
     refine AL_seq ?_
     refine rg0 [4] [0, 192] (fun K hK => by simp (decide := true) only [go_sem, Nat.reduceAdd, Nat.reduceMul, c15]; exact hK) ?_
     replace h := Option.some.inj h
     obtain ⟨rfl, h1⟩ := Prod.mk.inj h
     obtain ⟨rfl, rfl⟩ := Prod.mk.inj h1
     refine AL_ret (fun _ => rfl) ?_
     exact retF_mk rfl (by exact ⟨trivial, trivial⟩) rfl (by exact rfl) (by exact trivial) (by exact ⟨rfl, rfl⟩)
end Go.Proofs.Ytfakhgopbhnocaa.PFnEstimates
