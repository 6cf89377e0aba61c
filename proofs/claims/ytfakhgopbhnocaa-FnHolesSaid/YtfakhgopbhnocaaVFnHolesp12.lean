/- Each function's run, shown to compute what its plain function says. -/
import Derived.Test.YtfakhgopbhnocaaVFnHolesp11
import Derived.KernelRfl
set_option linter.unusedVariables false
set_option linter.unusedSimpArgs false
namespace Go.Proofs.Ytfakhgopbhnocaa.PFnHoles
open Go Go.Proofs.YtfakhgopbhnocaaVM Go.Proofs.Ytfakhgopbhnocaa.VE Go.RowKit Go.Proofs.YtfakhgopbhnocaaW.PrintWords Go.Proofs.YtfakhgopbhnocaaW.PrintLast Go.Proofs.YtfakhgopbhnocaaW.PrintMore
attribute [local go_sem] runF_nil runF_cons kG_go kG_store kG_skip kG_pass kS_go kS_call kQ_go flagB_no inFl_some inFl_store hasB_nil hasB_hit hasB_miss flagB_eq clB_no wrB_no clB_yes wrB_store wrB_call opdL_load opdL_index opdL_len nm0_eq nmV_nil nmV_cons pt0_ptr pt0_int pt0_bool pt0_sl pt0_nil pt0_ref pt0_agg guardB_none guardB_some gL_some gB_true gB_false gB_skip look_hit look_miss tg_hit tg_miss bg_hit bg_miss ev_tmp ev_int ev_bool ev_nil ev_agg sQ_some stO_move stO_assign stO_pick stO_un stO_bin stO_field stO_load stO_index stO_extract stO_conv stO_box stO_alloc stO_len stO_call qUn_not qUn_neg qPick_true qPick_false qField_ptr qField_fat qLd_some qConv_some sB_some sA_some qLen_sl qLen_nil boxV_agg boxV_int boxV_bool boxV_nil boxV_sl boxV_ref qBin_add qBin_sub qBin_mul qBin_quo qBin_rem qBin_and qBin_or qBin_shr qBin_shl qBin_eql qBin_neq qBin_lss qBin_leq qBin_gtr qBin_geq qBin_beq qBin_bne qEx_tup keepT_cons keepB_nil keepB_cons keepT_nil qLoad_fat1 qLoad_fat2 qLoad_ptr ldB_box1 ld1_some ldB_box2 ldB_row ldR_1 ldR_2 unc_int unc_bool unc_nil unc_ref unc_sl unc_con_sl unc_con_nil rt_int rt_bool rt_nil rt_sl qIndex_sl ixT_some ixS_some qIndex_ref ixR_some ixR1_some argPtr_nil argPtr_ptr argPtr_int argPtr_bool argPtr_sl argPtr_ref argPtr_nl argPtr_agg memIn_none memIn_some mi1_box mi2_some viewL_int viewL_bool viewL_nil viewL_sl viewL_ref vwR_some cons2_some viewLs_nil viewLs_cons viewAs_nil viewAs_cons viewA_int viewA_bool viewA_nil viewA_sl viewA_ref viewA_agg agg1_some viewA_ptr sC_go sC2_some renT_int renT_bool renT_nil renT_sl renT_agg renT_tup renA_int renA_bool renA_nil renA_sl renA_agg renL_int renL_bool renL_nil renL_sl rowsD_nil memD_none memD_some md1_box mergeL_nil mergeL_int mergeL_bool mergeL_sl mergeL_nl stO_build sP_some sF_some fillV_nil fillV_cons fl1_go stO_nilCheck qNil_ptr stO_min qMin_int stO_max qMax_int stO_make sMe_some sM_some stO_slice sSe_some sS_own sS_fix rowsV_nil rowsV_cons rv1_some rowV_int rowV_bool rowV_nil rowV_sl rowV_agg stO_append sApp_new sApp_on qStore_eq qS2_some qS1_some qApp_eq qA0_some qA1_some qA2_nil qA2_ref stored1_ptr st1_box st1_row setL_nil setL_cons qA3_some absB_t absB_b0 absB_b1 absB_nil noBB_row noBB_box noTB_int noAB_int noLB_int killT_int killA_int killL_int noTB_bool noAB_bool noLB_bool killT_bool killA_bool killL_bool noTB_nil noAB_nil noLB_nil killT_nil killA_nil killL_nil noTB_und noAB_und noLB_und killT_und killA_und killL_und noTB_skip noAB_skip noLB_skip killT_skip killA_skip killL_skip noTB_sl noAB_sl noLB_sl killT_sl killA_sl killL_sl noTB_fat noAB_fat noLB_fat killT_fat killA_fat killL_fat noTB_ref noAB_ref noLB_ref killT_ref0 killT_ref killA_ref0 killA_ref killL_ref0 killL_ref noTB_ptr noAB_ptr noLB_ptr killT_ptr0 killT_ptr killA_ptr0 killA_ptr killL_ptr0 killL_ptr noTB_agg noAB_agg noTB_tup noLB_con_sl noLB_con_nil killT_agg killA_agg killT_tup killL_con_sl killL_con_nil killTL_nil killTL_cons killBL_nil killBL_none killBL_row killBL_box shut1_int shut1_bool shut1_nil shut1_sl scal_int scal_bool known1_int known1_bool known1_nil known1_sl known1_ref opdL_call nm0_func intsOf_nil intsOf_cons qBin_eqA qBin_neA eqA_eq eqA_ne nil_beq renT_ref renA_ref renL_ref rowsD_cons qLen_refR lenR_some tn_lt rowI_getn rowI_set nlit rowI_scal mp_nil rowI_cons rowI_len mkI_eq mkB_eq mp_length mp_app mp_ne rowI_one rowI_zero ibeq ibne true_and and_true and_self decide_true decide_false Bool.not_true Bool.not_false Bool.not_not List.length_map List.length_cons List.length_nil List.getElem?_cons_zero List.getElem?_cons_succ List.drop_zero List.drop_succ_cons List.take_succ_cons List.take_zero List.map_cons List.map_nil List.all_cons List.all_nil Bool.and_true Bool.true_and List.getD_cons_zero List.getD_cons_succ List.set_cons_zero List.set_cons_succ Option.isSome_none Option.isSome_some List.nil_append List.cons_append List.append_eq List.append_nil List.length_append cond_true cond_false ne_eq List.map_eq_nil_iff not_false_eq_true List.cons_ne_nil Bool.true_bne Bool.false_bne Bool.bne_true Bool.bne_false Bool.true_beq Bool.false_beq Int.zero_sub List.cons_beq_cons Option.map_some true_or or_true beq_self_eq_true Nat.zero_lt_succ ti_3 ti_5 ti_22 ti_24 ti_25 ti_27 ti_68 ti_127 ti_129 el_22 el_25 el_32 el_60 el_205 fo_24_0 fo_24_1 fo_24_2 fo_27_0 fo_27_1 fo_27_2 fo_27_3 fo_68_0 fo_68_1 fo_68_2 fo_68_3 fo_68_4 fo_129_0 fo_129_1 fo_129_2 bo_4 io_3 io_5 io_127 pl_24 pl_27 pl_68 pl_129 eqs_24 loud_5 loud_36 loud_38 loud_39 loud_40 loud_41 loud_42 loud_43 loud_44 loud_45 loud_46 loud_47 loud_48 loud_49 loud_50 loud_51 loud_52 loud_53 loud_54 loud_55 loud_96 loud_97 loud_100 loud_103 loud_105 loud_108 loud_110 loud_111 loud_112 loud_118 loud_119 loud_120 loud_121 loud_122 loud_123 loud_124 loud_125 loud_126 loud_127 loud_128 loud_129 loud_130 loud_131 loud_132 loud_133 loud_134 loud_135 loud_136 loud_137 loud_138 loud_139 loud_145 loud_177 loud_178 loud_180 loud_183 loud_184 loud_185 loud_186 loud_187 loud_188 loud_189 loud_190 i64w wl mx_rule mn_rule rowI_get rowB_get mkS68_eq rowS68_get rowS68_one rowS68_cons rowS68_len mkS24_eq rowS24_get rowS24_one rowS24_cons rowS24_len mkL_eq rowL_one rowL_cons rowL_len
/-! spec_DrawUpdateModel : 48 -/
set_option maxRecDepth 100000 in
set_option maxHeartbeats 4000000 in
theorem spec_DrawUpdateModel.V {k : Nat} {l0 : List Int} {r1 : Int} {r2 : Int} {r3 : Int} {r4 : List Int} {r5 : List Int} {r6 : List Int} {r7 : List (S68)} (h : spec_DrawUpdateModel.f k l0 = some (r1, r2, r3, r4, r5, r6, r7)) : FnV E 48 [.sl false 1 (mp mkB l0)] none (.tup [.agg [.int .i64 r1, .int .i64 r2, .int .i64 r3, .sl true 1 (mp mkI r4), .sl true 1 (mp mkI r5), .sl true 1 (mp mkI r6)], .sl true 5 (mp mkS68 r7)]) [] none := by
  refine FnV_list E (rs := [.cell 2 27, .tmp 3]) Try.func48 (by rfl) rfl Try.ntmps48 rfl [] (by simp) rfl (by simp) rfl (fun us => ?_)
  simp only [argsL, memL, wrapL, wrap1, Nat.reduceAdd]
  unfold spec_DrawUpdateModel.f at h
  refine AL_seq ?_
  refine AL_region [0, 2] [24] [] ⟨[], [], []⟩ [] (by kernel_rfl) (by kernel_rfl) (by kernel_rfl) (fun K hK => by simp (decide := true) only [go_sem, Nat.reduceAdd, Nat.reduceMul]; exact hK) ?_
  refine AL_seq ?_
  refine AL_region [2, 4] [24, 72] [] ⟨[], [], []⟩ [] (by kernel_rfl) (by kernel_rfl) (by kernel_rfl) (fun K hK => by simp (decide := true) only [go_sem, Nat.reduceAdd, Nat.reduceMul]; exact hK) ?_
  refine AL_seq ?_
  obtain ⟨⟨t508, t509, t510, t511, t514, t517, t520, t521⟩, g1, h⟩ := bind_or h
  dsimp only at h
  refine AL_region [2, 4, 5] [24, 48, 72] [] ⟨[], [], []⟩ [] (by kernel_rfl) (by kernel_rfl) (by kernel_rfl) (fun K hK => by simp (decide := true) only [go_sem, Nat.reduceAdd, Nat.reduceMul]; refine ⟨_, _, _, spec_l1Cur_anyModel.V g1, ?_⟩; simp (decide := true) only [go_sem, Nat.reduceAdd, Nat.reduceMul]; exact hK) ?_
  refine AL_seq ?_
  obtain ⟨⟨t523, t526, t527⟩, g2, h⟩ := bind_or h
  dsimp only at h
  refine AL_region [2, 3] [24] [] ⟨[11], [15], [72]⟩ [] (by kernel_rfl) (by kernel_rfl) (by kernel_rfl) (fun K hK => by simp (decide := true) only [go_sem, Nat.reduceAdd, Nat.reduceMul]; refine ⟨_, _, _, spec_l1Cur_holes.V g2, ?_⟩; simp (decide := true) only [go_sem, Nat.reduceAdd, Nat.reduceMul]; exact hK) ?_
  replace h := Option.some.inj h
  obtain ⟨rfl, h1⟩ := Prod.mk.inj h
  obtain ⟨rfl, h2⟩ := Prod.mk.inj h1
  obtain ⟨rfl, h3⟩ := Prod.mk.inj h2
  obtain ⟨rfl, h4⟩ := Prod.mk.inj h3
  obtain ⟨rfl, h5⟩ := Prod.mk.inj h4
  obtain ⟨rfl, rfl⟩ := Prod.mk.inj h5
  refine AL_ret (fun _ => rfl) ?_
  exact retF_mk rfl (by exact ⟨(by simp), trivial, trivial⟩) rfl (by exact ⟨⟨rfl, rfl, rfl, rfl, rfl, rfl, trivial⟩, rfl, trivial⟩) (by exact trivial) (by exact trivial)
/-! impl_copyModel : 118 -/
set_option maxRecDepth 100000 in
set_option maxHeartbeats 4000000 in
theorem impl_copyModel.V {a0_0 : Int} {a0_1 : Int} {a0_2 : Int} {l0_3 : List Int} {l0_4 : List Int} {l0_5 : List Int} {r1 : Int} {r2 : Int} {r3 : Int} {r4 : List Int} {r5 : List Int} {r6 : List Int} (h : impl_copyModel.f a0_0 a0_1 a0_2 l0_3 l0_4 l0_5 = some (r1, r2, r3, r4, r5, r6)) : FnV E 118 [.agg [.int .i64 a0_0, .int .i64 a0_1, .int .i64 a0_2, .sl false 1 (mp mkI l0_3), .sl false 1 (mp mkI l0_4), .sl false 1 (mp mkI l0_5)]] none (.agg [.int .i64 r1, .int .i64 r2, .int .i64 r3, .sl true 1 (mp mkI r4), .sl true 1 (mp mkI r5), .sl true 1 (mp mkI r6)]) [] none := by
  refine FnV_list E (rs := [.cell 2 27]) Try.func118 (by rfl) rfl Try.ntmps118 rfl [] (by simp) rfl (by simp) rfl (fun us => ?_)
  simp only [argsL, memL, wrapL, wrap1, Nat.reduceAdd]
  unfold impl_copyModel.f at h
  refine AL_seq ?_
  refine AL_region [1, 2] [16, 24] [] ⟨[], [], []⟩ [] (by kernel_rfl) (by kernel_rfl) (by kernel_rfl) (fun K hK => by simp (decide := true) only [go_sem, Nat.reduceAdd, Nat.reduceMul]; exact hK) ?_
  refine AL_seq ?_
  obtain ⟨y530, hy530, h⟩ := bind_or h
  obtain rfl := Option.some.inj hy530
  obtain ⟨c1, h⟩ := ite_l h
  try simp only [List.length_nil] at c1
  have c1l := lim8b c1
  try simp only [List.length_cons, List.length_nil, List.length_append, Nat.reduceAdd, nlit] at c1
  replace c1 := eq_true c1
  refine AL_region [1, 2] [16, 24, 56] [3] ⟨[], [], []⟩ [] (by kernel_rfl) (by kernel_rfl) (by kernel_rfl) (fun K hK => by simp (decide := true) only [go_sem, Nat.reduceAdd, Nat.reduceMul, c1l, c1]; exact hK) ?_
  refine AL_seq ?_
  obtain ⟨y536, hy536, h⟩ := bind_or h
  obtain rfl := Option.some.inj hy536
  obtain ⟨c2, h⟩ := ite_l h
  try simp only [List.length_nil] at c2
  have c2l := lim8b c2
  try simp only [List.length_cons, List.length_nil, List.length_append, Nat.reduceAdd, nlit] at c2
  replace c2 := eq_true c2
  refine AL_region [1, 2] [16, 24, 56, 96] [8] ⟨[], [], []⟩ [] (by kernel_rfl) (by kernel_rfl) (by kernel_rfl) (fun K hK => by simp (decide := true) only [go_sem, Nat.reduceAdd, Nat.reduceMul, c1l, c1, c2l, c2]; exact hK) ?_
  refine AL_seq ?_
  obtain ⟨y542, hy542, h⟩ := bind_or h
  obtain rfl := Option.some.inj hy542
  obtain ⟨c3, h⟩ := ite_l h
  try simp only [List.length_nil] at c3
  have c3l := lim8b c3
  try simp only [List.length_cons, List.length_nil, List.length_append, Nat.reduceAdd, nlit] at c3
  replace c3 := eq_true c3
  refine AL_region [1, 2] [16, 24, 56, 96, 136] [13] ⟨[], [], []⟩ [] (by kernel_rfl) (by kernel_rfl) (by kernel_rfl) (fun K hK => by simp (decide := true) only [go_sem, Nat.reduceAdd, Nat.reduceMul, c1l, c1, c2l, c2, c3l, c3]; exact hK) ?_
  refine AL_seq ?_
  refine AL_region [2] [24, 56, 96, 136] [] ⟨[], [], []⟩ [] (by kernel_rfl) (by kernel_rfl) (by kernel_rfl) (fun K hK => by simp (decide := true) only [go_sem, Nat.reduceAdd, Nat.reduceMul, c1l, c1, c2l, c2, c3l, c3]; exact hK) ?_
  replace h := Option.some.inj h
  obtain ⟨rfl, h1⟩ := Prod.mk.inj h
  obtain ⟨rfl, h2⟩ := Prod.mk.inj h1
  obtain ⟨rfl, h3⟩ := Prod.mk.inj h2
  obtain ⟨rfl, h4⟩ := Prod.mk.inj h3
  obtain ⟨rfl, rfl⟩ := Prod.mk.inj h4
  refine AL_ret (fun _ => rfl) ?_
  exact retF_mk rfl (by exact ⟨(by simp), trivial⟩) rfl (by exact ⟨rfl, rfl, rfl, rfl, rfl, rfl, trivial⟩) (by exact trivial) (by exact trivial)
set_option maxRecDepth 100000 in
set_option maxHeartbeats 4000000 in
theorem impl_copyModel.W {a0_0 : Int} {a0_1 : Int} {a0_2 : Int} {l0_3 : List Int} {l0_4 : List Int} {l0_5 : List Int} {r1 : Int} {r2 : Int} {r3 : Int} {r4 : List Int} {r5 : List Int} {r6 : List Int} (h : impl_copyModel.f a0_0 a0_1 a0_2 l0_3 l0_4 l0_5 = some (r1, r2, r3, r4, r5, r6)) : FnV E 118 [.agg [.int .i64 a0_0, .int .i64 a0_1, .int .i64 a0_2, .sl false 1 (mp mkI l0_3), .sl false 1 (mp mkI l0_4), .sl false 1 (mp mkI l0_5)]] none (.agg [.int .i64 r1, .int .i64 r2, .int .i64 r3, .ref 0, .ref 1, .ref 2]) [(3, 1, mp mkI r4), (3, 1, mp mkI r5), (3, 1, mp mkI r6)] none := by
  refine FnV_list E (rs := [.cell 2 27]) Try.func118 (by rfl) rfl Try.ntmps118 rfl [56, 96, 136] (by simp) rfl (by simp) rfl (fun us => ?_)
  simp only [argsL, memL, wrapL, wrap1, Nat.reduceAdd]
  unfold impl_copyModel.f at h
  refine AL_seq ?_
  refine AL_region [1, 2] [16, 24] [] ⟨[], [], []⟩ [] (by kernel_rfl) (by kernel_rfl) (by kernel_rfl) (fun K hK => by simp (decide := true) only [go_sem, Nat.reduceAdd, Nat.reduceMul]; exact hK) ?_
  refine AL_seq ?_
  obtain ⟨y530, hy530, h⟩ := bind_or h
  obtain rfl := Option.some.inj hy530
  obtain ⟨c1, h⟩ := ite_l h
  try simp only [List.length_nil] at c1
  have c1l := lim8b c1
  try simp only [List.length_cons, List.length_nil, List.length_append, Nat.reduceAdd, nlit] at c1
  replace c1 := eq_true c1
  refine AL_region [1, 2] [16, 24, 56] [3] ⟨[], [], []⟩ [] (by kernel_rfl) (by kernel_rfl) (by kernel_rfl) (fun K hK => by simp (decide := true) only [go_sem, Nat.reduceAdd, Nat.reduceMul, c1l, c1]; exact hK) ?_
  refine AL_seq ?_
  obtain ⟨y536, hy536, h⟩ := bind_or h
  obtain rfl := Option.some.inj hy536
  obtain ⟨c2, h⟩ := ite_l h
  try simp only [List.length_nil] at c2
  have c2l := lim8b c2
  try simp only [List.length_cons, List.length_nil, List.length_append, Nat.reduceAdd, nlit] at c2
  replace c2 := eq_true c2
  refine AL_region [1, 2] [16, 24, 56, 96] [8] ⟨[], [], []⟩ [] (by kernel_rfl) (by kernel_rfl) (by kernel_rfl) (fun K hK => by simp (decide := true) only [go_sem, Nat.reduceAdd, Nat.reduceMul, c1l, c1, c2l, c2]; exact hK) ?_
  refine AL_seq ?_
  obtain ⟨y542, hy542, h⟩ := bind_or h
  obtain rfl := Option.some.inj hy542
  obtain ⟨c3, h⟩ := ite_l h
  try simp only [List.length_nil] at c3
  have c3l := lim8b c3
  try simp only [List.length_cons, List.length_nil, List.length_append, Nat.reduceAdd, nlit] at c3
  replace c3 := eq_true c3
  refine AL_region [1, 2] [16, 24, 56, 96, 136] [13] ⟨[], [], []⟩ [] (by kernel_rfl) (by kernel_rfl) (by kernel_rfl) (fun K hK => by simp (decide := true) only [go_sem, Nat.reduceAdd, Nat.reduceMul, c1l, c1, c2l, c2, c3l, c3]; exact hK) ?_
  refine AL_seq ?_
  refine AL_region [2] [24, 56, 96, 136] [] ⟨[], [], []⟩ [] (by kernel_rfl) (by kernel_rfl) (by kernel_rfl) (fun K hK => by simp (decide := true) only [go_sem, Nat.reduceAdd, Nat.reduceMul, c1l, c1, c2l, c2, c3l, c3]; exact hK) ?_
  replace h := Option.some.inj h
  obtain ⟨rfl, h1⟩ := Prod.mk.inj h
  obtain ⟨rfl, h2⟩ := Prod.mk.inj h1
  obtain ⟨rfl, h3⟩ := Prod.mk.inj h2
  obtain ⟨rfl, h4⟩ := Prod.mk.inj h3
  obtain ⟨rfl, rfl⟩ := Prod.mk.inj h4
  refine AL_ret (fun _ => rfl) ?_
  exact retF_mk rfl (by exact ⟨(by simp), trivial⟩) rfl (by exact ⟨rfl, rfl, rfl, rfl, rfl, rfl, trivial⟩) (by exact ⟨rfl, rfl, rfl, trivial⟩) (by exact trivial)
/-! impl_UpdateModel : 49 -/
set_option maxRecDepth 100000 in
set_option maxHeartbeats 4000000 in
theorem impl_UpdateModel.V {k : Nat} {a0_0 : Int} {a0_1 : Int} {a0_2 : Int} {l0_3 : List Int} {l0_4 : List Int} {l0_5 : List Int} {l1 : List (S68)} {r1 : Int} {r2 : Int} {r3 : Int} {r4 : List Int} {r5 : List Int} {r6 : List Int} {r7 : Bool} (h : impl_UpdateModel.f k a0_0 a0_1 a0_2 l0_3 l0_4 l0_5 l1 = some (r1, r2, r3, r4, r5, r6, r7)) : FnV E 49 [.agg [.int .i64 a0_0, .int .i64 a0_1, .int .i64 a0_2, .sl false 1 (mp mkI l0_3), .sl false 1 (mp mkI l0_4), .sl false 1 (mp mkI l0_5)], .sl false 5 (mp mkS68 l1)] none (.tup [.agg [.int .i64 r1, .int .i64 r2, .int .i64 r3, .sl true 1 (mp mkI r4), .sl true 1 (mp mkI r5), .sl true 1 (mp mkI r6)], .bool r7]) [] none := by
  refine FnV_list E (rs := [.cell 4 27, .tmp 5]) Try.func49 (by rfl) rfl Try.ntmps49 rfl [] (by simp) rfl (by simp) rfl (fun us => ?_)
  simp only [argsL, memL, wrapL, wrap1, Nat.reduceAdd]
  unfold impl_UpdateModel.f at h
  refine AL_seq ?_
  refine AL_region [1, 2, 4] [24, 40] [] ⟨[], [], []⟩ [] (by kernel_rfl) (by kernel_rfl) (by kernel_rfl) (fun K hK => by simp (decide := true) only [go_sem, Nat.reduceAdd, Nat.reduceMul]; exact hK) ?_
  refine AL_seq ?_
  refine AL_seq ?_
  refine AL_cut (fun S => (∃ kk : Nat, ∃ x1 : List (S68), ∃ x20 : Bool, ∃ x549000 : Int, ∃ x549001 : Int, ∃ x549002 : Int, ∃ x549003 : List Int, ∃ x549004 : List Int, ∃ x549005 : List Int, ∃ x550000 : Int, ∃ x550001 : Int, ∃ x550002 : Int, kk ≤ k ∧ impl_UpdateModel.j0 kk x1 x20 x549000 x549001 x549002 x549003 x549004 x549005 = some (r1, r2, r3, r4, r5, r6, r7) ∧ At [(1, .sl false 5 (mp mkS68 x1)), (2, .ptr 24 0 0), (4, .ptr 40 0 0), (20, .bool x20)] [(24, some (.box [.int .i64 x549000, .int .i64 x549001, .int .i64 x549002, .sl false 1 (mp mkI x549003), .sl false 1 (mp mkI x549004), .sl false 1 (mp mkI x549005)])), (40, some (.box [.int .i64 x550000, .int .i64 x550001, .int .i64 x550002, .nil, .nil, .nil]))] S)) ?_ ?_
  ·
    obtain ⟨t550, g1, h⟩ := bind_or h
    rcases ite_or h with ⟨c2, h⟩ | ⟨c2, h⟩
    ·
      obtain ⟨t551, g3, h⟩ := bind_or h
      refine AL_region [1, 2, 4, 20] [24, 40] [] ⟨[], [], []⟩ [(3, 14)] (by kernel_rfl) (by kernel_rfl) (by kernel_rfl) (fun K hK => by simp (decide := true) only [go_sem, Nat.reduceAdd, Nat.reduceMul, c2]; refine ⟨_, _, _, impl_IsModel.V g1, ?_⟩; simp (decide := true) only [go_sem, Nat.reduceAdd, Nat.reduceMul, c2]; refine ⟨_, _, _, impl_areHoles.V g3, ?_⟩; simp (decide := true) only [go_sem, Nat.reduceAdd, Nat.reduceMul, c2]; exact hK) ?_
      refine AL_meet ?_
      exact ⟨_, _, _, _, _, _, _, _, _, _, _, _, by omega, h, At_keep [1, 2, 4, 20] [24, 40]⟩
    ·
      replace c2 := Bool.of_not_eq_true c2
      refine AL_region [1, 2, 4, 20] [24, 40] [] ⟨[], [], []⟩ [(3, 14)] (by kernel_rfl) (by kernel_rfl) (by kernel_rfl) (fun K hK => by simp (decide := true) only [go_sem, Nat.reduceAdd, Nat.reduceMul, c2]; refine ⟨_, _, _, impl_IsModel.V g1, ?_⟩; simp (decide := true) only [go_sem, Nat.reduceAdd, Nat.reduceMul, c2]; exact hK) ?_
      refine AL_meet ?_
      exact ⟨_, _, _, _, _, _, _, _, _, _, _, _, by omega, h, At_keep [1, 2, 4, 20] [24, 40]⟩
  ·
    intro S hS
    obtain ⟨kk4, x1, x20, x549000, x549001, x549002, x549003, x549004, x549005, x550000, x550001, x550002, hkq5, h, hS⟩ := hS
    rcases kk4 with _ | n6
    · (rw [impl_UpdateModel.j0] at h; cases h)
    rw [impl_UpdateModel.j0] at h
    refine AW_at hS ?_
    rcases ite_or h with ⟨c7, h⟩ | ⟨c7, h⟩
    ·
      refine AL_then (by simp (decide := true) only [go_sem, Nat.reduceAdd, Nat.reduceMul, c7]) ?_
      refine AL_seq ?_
      refine AL_region [4, 5] [40] [] ⟨[], [], []⟩ [] (by kernel_rfl) (by kernel_rfl) (by kernel_rfl) (fun K hK => by simp (decide := true) only [go_sem, Nat.reduceAdd, Nat.reduceMul, c7]; exact hK) ?_
      replace h := Option.some.inj h
      obtain ⟨rfl, h1⟩ := Prod.mk.inj h
      obtain ⟨rfl, h2⟩ := Prod.mk.inj h1
      obtain ⟨rfl, h3⟩ := Prod.mk.inj h2
      obtain ⟨rfl, h4⟩ := Prod.mk.inj h3
      obtain ⟨rfl, h5⟩ := Prod.mk.inj h4
      obtain ⟨rfl, rfl⟩ := Prod.mk.inj h5
      refine AL_ret (fun _ => rfl) ?_
      exact retF_mk rfl (by exact ⟨(by simp), trivial, trivial⟩) rfl (by exact ⟨⟨rfl, rfl, rfl, rfl, rfl, rfl, trivial⟩, rfl, trivial⟩) (by exact trivial) (by exact trivial)
    ·
      replace c7 := Bool.of_not_eq_true c7
      refine AL_else (by simp (decide := true) only [go_sem, Nat.reduceAdd, Nat.reduceMul, c7]) ?_
      refine AL_skip ?_
      refine AL_seq ?_
      obtain ⟨⟨t552, t553, t554, t555, t558, t561⟩, g8, h⟩ := bind_or h
      dsimp only at h
      refine AL_region [1, 2, 4, 6] [24, 40, 56, 192, 193, 194] [] ⟨[], [], []⟩ [] (by kernel_rfl) (by kernel_rfl) (by kernel_rfl) (fun K hK => by simp (decide := true) only [go_sem, Nat.reduceAdd, Nat.reduceMul, c7]; refine ⟨_, _, _, impl_copyModel.W g8, ?_⟩; simp (decide := true) only [go_sem, Nat.reduceAdd, Nat.reduceMul, c7]; exact hK) ?_
      refine AL_seq ?_
      refine AL_seq ?_
      refine AL_region [1, 2, 4, 6, 26, 27] [24, 40, 56, 192, 193, 194] [] ⟨[], [], []⟩ [] (by kernel_rfl) (by kernel_rfl) (by kernel_rfl) (fun K hK => by simp (decide := true) only [go_sem, Nat.reduceAdd, Nat.reduceMul, c7]; exact hK) ?_
      refine AL_block ?_
      refine AL_loop (n := n6) (fun n S => (∃ x1 : List (S68), ∃ x26 : Int, ∃ x27 : Int, ∃ x549000 : Int, ∃ x549001 : Int, ∃ x549002 : Int, ∃ x549003 : List Int, ∃ x549004 : List Int, ∃ x549005 : List Int, ∃ x550000 : Int, ∃ x550001 : Int, ∃ x550002 : Int, ∃ x565000 : Int, ∃ x565001 : Int, ∃ x565002 : Int, ∃ x565003 : List Int, ∃ x565004 : List Int, ∃ x565005 : List Int, n ≤ n6 ∧ impl_UpdateModel.l0 n x1 x26 x27 x549000 x549001 x549002 x549003 x549004 x549005 x565000 x565001 x565002 x565003 x565004 x565005 = some (r1, r2, r3, r4, r5, r6, r7) ∧ At [(1, .sl false 5 (mp mkS68 x1)), (2, .ptr 24 0 0), (4, .ptr 40 0 0), (6, .ptr 56 0 0), (26, .int .i64 x26), (27, .int .i64 x27)] [(24, some (.box [.int .i64 x549000, .int .i64 x549001, .int .i64 x549002, .sl false 1 (mp mkI x549003), .sl false 1 (mp mkI x549004), .sl false 1 (mp mkI x549005)])), (40, some (.box [.int .i64 x550000, .int .i64 x550001, .int .i64 x550002, .nil, .nil, .nil])), (56, some (.box [.int .i64 x565000, .int .i64 x565001, .int .i64 x565002, .ref 192, .ref 193, .ref 194])), (192, some (.row 3 1 (mp mkI x565003))), (193, some (.row 3 1 (mp mkI x565004))), (194, some (.row 3 1 (mp mkI x565005)))] S)) ?_ ?_
      · exact ⟨_, _, _, _, _, _, _, _, _, _, _, _, _, _, _, _, _, _, by omega, h, At_keep [1, 2, 4, 6, 26, 27] [24, 40, 56, 192, 193, 194]⟩
      ·
        intro n S hS
        obtain ⟨x1, x26, x27, x549000, x549001, x549002, x549003, x549004, x549005, x550000, x550001, x550002, x565000, x565001, x565002, x565003, x565004, x565005, hkq9, h, hS⟩ := hS
        rcases n with _ | n10
        · (rw [impl_UpdateModel.l0] at h; cases h)
        rw [impl_UpdateModel.l0] at h
        refine AW_at hS ?_
        refine AL_seq ?_
        refine AL_region [1, 2, 4, 6, 26, 27, 28] [24, 40, 56, 192, 193, 194] [] ⟨[], [], []⟩ [] (by kernel_rfl) (by kernel_rfl) (by kernel_rfl) (fun K hK => by simp (decide := true) only [go_sem, Nat.reduceAdd, Nat.reduceMul]; exact hK) ?_
        refine AL_seq ?_
        rcases ite_or h with ⟨c11, h⟩ | ⟨c11, h⟩
        ·
          replace c11 := eq_true c11
          refine AL_then (by simp (decide := true) only [go_sem, Nat.reduceAdd, Nat.reduceMul, c11]) ?_
          refine AL_skip ?_
          refine AL_seq ?_
          refine AL_block ?_
          refine AL_seq ?_
          refine AL_region [1, 2, 4, 6, 7, 26, 27] [24, 40, 56, 192, 193, 194] [] ⟨[], [], []⟩ [] (by kernel_rfl) (by kernel_rfl) (by kernel_rfl) (fun K hK => by simp (decide := true) only [go_sem, Nat.reduceAdd, Nat.reduceMul, c11]; exact hK) ?_
          refine AL_seq ?_
          obtain ⟨⟨t565, t566, t567⟩, g12, h⟩ := bind_or h
          dsimp only at h
          refine AL_region [1, 2, 4, 6, 7, 8, 9, 10, 26, 27] [24, 40, 56, 192, 193, 194] [] ⟨[], [], []⟩ [] (by kernel_rfl) (by kernel_rfl) (by kernel_rfl) (fun K hK => by simp (decide := true) (maxSteps := 4000000) only [go_sem, Nat.reduceAdd, Nat.reduceMul, c11]; refine ⟨_, _, _, impl_blockMean.V g12, ?_⟩; simp (decide := true) (maxSteps := 4000000) only [go_sem, Nat.reduceAdd, Nat.reduceMul, c11]; exact hK) ?_
          refine AL_seq ?_
          refine AL_region [1, 2, 4, 6, 7, 8, 9, 26, 27, 39] [24, 40, 56, 192, 193, 194] [] ⟨[], [], []⟩ [] (by kernel_rfl) (by kernel_rfl) (by kernel_rfl) (fun K hK => by simp (decide := true) only [go_sem, Nat.reduceAdd, Nat.reduceMul, c11]; exact hK) ?_
          rcases ite_or h with ⟨c13, h⟩ | ⟨c13, h⟩
          ·
            refine AL_then (by simp (decide := true) only [go_sem, Nat.reduceAdd, Nat.reduceMul, c11, c13]) ?_
            obtain ⟨c14, h⟩ := ite_r h
            replace c14 := eq_false c14
            obtain ⟨c15, h⟩ := ite_l h
            replace c15 := eq_true c15
            obtain ⟨c16, h⟩ := ite_l h
            replace c16 := eq_true c16
            refine AL_region [1, 2, 4, 6, 26, 27] [24, 40, 56, 192, 193, 194] [] ⟨[], [], []⟩ [] (by kernel_rfl) (by kernel_rfl) (by kernel_rfl) (fun K hK => by simp (decide := true) (maxSteps := 4000000) only [go_sem, Nat.reduceAdd, Nat.reduceMul, c11, c13, c14, c15, c16]; exact hK) ?_
            refine blockQ_n ?_
            refine AL_region [1, 2, 4, 6, 26, 27] [24, 40, 56, 192, 193, 194] [] ⟨[], [], []⟩ [] (by kernel_rfl) (by kernel_rfl) (by kernel_rfl) (fun K hK => by simp (decide := true) only [go_sem, Nat.reduceAdd, Nat.reduceMul, c11, c13, c14, c15, c16]; exact hK) ?_
            refine AL_again (m := n10) (by omega) ?_
            exact ⟨_, _, _, _, _, _, _, _, _, _, _, _, _, _, _, _, _, _, by omega, h, At_keep [1, 2, 4, 6, 26, 27] [24, 40, 56, 192, 193, 194]⟩
          ·
            replace c13 := Bool.of_not_eq_true c13
            refine AL_else (by simp (decide := true) only [go_sem, Nat.reduceAdd, Nat.reduceMul, c11, c13]) ?_
            refine AL_skip ?_
            refine blockQ_n ?_
            refine AL_region [1, 2, 4, 6, 26, 27] [24, 40, 56, 192, 193, 194] [] ⟨[], [], []⟩ [] (by kernel_rfl) (by kernel_rfl) (by kernel_rfl) (fun K hK => by simp (decide := true) only [go_sem, Nat.reduceAdd, Nat.reduceMul, c11, c13]; exact hK) ?_
            refine AL_again (m := n10) (by omega) ?_
            exact ⟨_, _, _, _, _, _, _, _, _, _, _, _, _, _, _, _, _, _, by omega, h, At_keep [1, 2, 4, 6, 26, 27] [24, 40, 56, 192, 193, 194]⟩
        ·
          replace c11 := eq_false c11
          refine AL_else (by simp (decide := true) only [go_sem, Nat.reduceAdd, Nat.reduceMul, c11]) ?_
          refine AL_exit ?_
          repeat first | refine thenQ_x ?_ | refine blockQ_miss (by decide) ?_
          refine blockQ_hit ?_
          refine AL_seq ?_
          refine AL_region [4, 5] [40, 192, 193, 194] [] ⟨[], [], []⟩ [] (by kernel_rfl) (by kernel_rfl) (by kernel_rfl) (fun K hK => by simp (decide := true) only [go_sem, Nat.reduceAdd, Nat.reduceMul, c11]; exact hK) ?_
          replace h := Option.some.inj h
          obtain ⟨rfl, h1⟩ := Prod.mk.inj h
          obtain ⟨rfl, h2⟩ := Prod.mk.inj h1
          obtain ⟨rfl, h3⟩ := Prod.mk.inj h2
          obtain ⟨rfl, h4⟩ := Prod.mk.inj h3
          obtain ⟨rfl, h5⟩ := Prod.mk.inj h4
          obtain ⟨rfl, rfl⟩ := Prod.mk.inj h5
          refine AL_ret (fun _ => rfl) ?_
          exact retF_mk rfl (by exact ⟨(by simp), trivial, trivial⟩) rfl (by exact ⟨⟨rfl, rfl, rfl, rfl, rfl, rfl, trivial⟩, rfl, trivial⟩) (by exact trivial) (by exact trivial)
end Go.Proofs.Ytfakhgopbhnocaa.PFnHoles
