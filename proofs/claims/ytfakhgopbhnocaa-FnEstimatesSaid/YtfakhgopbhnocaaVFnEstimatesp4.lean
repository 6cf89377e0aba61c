/- Each function's run, shown to compute what its plain function says. -/
import Derived.Test.YtfakhgopbhnocaaVFnEstimatesp3
import Derived.KernelRfl
set_option linter.unusedVariables false
set_option linter.unusedSimpArgs false
namespace Go.Proofs.Ytfakhgopbhnocaa.PFnEstimates
open Go Go.Proofs.YtfakhgopbhnocaaVM Go.Proofs.Ytfakhgopbhnocaa.VE Go.RowKit Go.Proofs.YtfakhgopbhnocaaW.PrintWords Go.Proofs.YtfakhgopbhnocaaW.PrintLast Go.Proofs.YtfakhgopbhnocaaW.PrintMore
attribute [local go_sem] runF_nil runF_cons kG_go kG_store kG_skip kG_pass kS_go kS_call kQ_go flagB_no inFl_some inFl_store hasB_nil hasB_hit hasB_miss flagB_eq clB_no wrB_no clB_yes wrB_store wrB_call opdL_load opdL_index opdL_len nm0_eq nmV_nil nmV_cons pt0_ptr pt0_int pt0_bool pt0_sl pt0_nil pt0_ref pt0_agg guardB_none guardB_some gL_some gB_true gB_false gB_skip look_hit look_miss tg_hit tg_miss bg_hit bg_miss ev_tmp ev_int ev_bool ev_nil ev_agg sQ_some stO_move stO_assign stO_pick stO_un stO_bin stO_field stO_load stO_index stO_extract stO_conv stO_box stO_alloc stO_len stO_call qUn_not qUn_neg qPick_true qPick_false qField_ptr qField_fat qLd_some qConv_some sB_some sA_some qLen_sl qLen_nil boxV_agg boxV_int boxV_bool boxV_nil boxV_sl boxV_ref qBin_add qBin_sub qBin_mul qBin_quo qBin_rem qBin_and qBin_or qBin_shr qBin_shl qBin_eql qBin_neq qBin_lss qBin_leq qBin_gtr qBin_geq qBin_beq qBin_bne qEx_tup keepT_cons keepB_nil keepB_cons keepT_nil qLoad_fat1 qLoad_fat2 qLoad_ptr ldB_box1 ld1_some ldB_box2 ldB_row ldR_1 ldR_2 unc_int unc_bool unc_nil unc_ref unc_sl unc_con_sl unc_con_nil rt_int rt_bool rt_nil rt_sl qIndex_sl ixT_some ixS_some qIndex_ref ixR_some ixR1_some argPtr_nil argPtr_ptr argPtr_int argPtr_bool argPtr_sl argPtr_ref argPtr_nl argPtr_agg memIn_none memIn_some mi1_box mi2_some viewL_int viewL_bool viewL_nil viewL_sl viewL_ref vwR_some cons2_some viewLs_nil viewLs_cons viewAs_nil viewAs_cons viewA_int viewA_bool viewA_nil viewA_sl viewA_ref viewA_agg agg1_some viewA_ptr sC_go sC2_some renT_int renT_bool renT_nil renT_sl renT_agg renT_tup renA_int renA_bool renA_nil renA_sl renA_agg renL_int renL_bool renL_nil renL_sl rowsD_nil memD_none memD_some md1_box mergeL_nil mergeL_int mergeL_bool mergeL_sl mergeL_nl stO_build sP_some sF_some fillV_nil fillV_cons fl1_go stO_nilCheck qNil_ptr stO_min qMin_int stO_max qMax_int stO_make sMe_some sM_some stO_slice sSe_some sS_own sS_fix rowsV_nil rowsV_cons rv1_some rowV_int rowV_bool rowV_nil rowV_sl rowV_agg stO_append sApp_new sApp_on qStore_eq qS2_some qS1_some qApp_eq qA0_some qA1_some qA2_nil qA2_ref stored1_ptr st1_box st1_row setL_nil setL_cons qA3_some absB_t absB_b0 absB_b1 absB_nil noBB_row noBB_box noTB_int noAB_int noLB_int killT_int killA_int killL_int noTB_bool noAB_bool noLB_bool killT_bool killA_bool killL_bool noTB_nil noAB_nil noLB_nil killT_nil killA_nil killL_nil noTB_und noAB_und noLB_und killT_und killA_und killL_und noTB_skip noAB_skip noLB_skip killT_skip killA_skip killL_skip noTB_sl noAB_sl noLB_sl killT_sl killA_sl killL_sl noTB_fat noAB_fat noLB_fat killT_fat killA_fat killL_fat noTB_ref noAB_ref noLB_ref killT_ref0 killT_ref killA_ref0 killA_ref killL_ref0 killL_ref noTB_ptr noAB_ptr noLB_ptr killT_ptr0 killT_ptr killA_ptr0 killA_ptr killL_ptr0 killL_ptr noTB_agg noAB_agg noTB_tup noLB_con_sl noLB_con_nil killT_agg killA_agg killT_tup killL_con_sl killL_con_nil killTL_nil killTL_cons killBL_nil killBL_none killBL_row killBL_box shut1_int shut1_bool shut1_nil shut1_sl scal_int scal_bool known1_int known1_bool known1_nil known1_sl known1_ref opdL_call nm0_func intsOf_nil intsOf_cons qBin_eqA qBin_neA eqA_eq eqA_ne nil_beq renT_ref renA_ref renL_ref rowsD_cons qLen_refR lenR_some tn_lt rowI_getn rowI_set nlit rowI_scal mp_nil rowI_cons rowI_len mkI_eq mkB_eq mp_length mp_app mp_ne rowI_one rowI_zero ibeq ibne true_and and_true and_self decide_true decide_false Bool.not_true Bool.not_false Bool.not_not List.length_map List.length_cons List.length_nil List.getElem?_cons_zero List.getElem?_cons_succ List.drop_zero List.drop_succ_cons List.take_succ_cons List.take_zero List.map_cons List.map_nil List.all_cons List.all_nil Bool.and_true Bool.true_and List.getD_cons_zero List.getD_cons_succ List.set_cons_zero List.set_cons_succ Option.isSome_none Option.isSome_some List.nil_append List.cons_append List.append_eq List.append_nil List.length_append cond_true cond_false ne_eq List.map_eq_nil_iff not_false_eq_true List.cons_ne_nil Bool.true_bne Bool.false_bne Bool.bne_true Bool.bne_false Bool.true_beq Bool.false_beq Int.zero_sub List.cons_beq_cons Option.map_some true_or or_true beq_self_eq_true Nat.zero_lt_succ ti_3 ti_5 ti_22 ti_24 ti_25 ti_27 ti_68 ti_127 ti_129 el_22 el_25 el_32 el_60 el_205 fo_24_0 fo_24_1 fo_24_2 fo_27_0 fo_27_1 fo_27_2 fo_27_3 fo_68_0 fo_68_1 fo_68_2 fo_68_3 fo_68_4 fo_129_0 fo_129_1 fo_129_2 bo_4 io_3 io_5 io_127 pl_24 pl_27 pl_68 pl_129 eqs_24 loud_6 loud_36 loud_38 loud_46 loud_50 loud_51 loud_52 loud_53 loud_56 loud_57 loud_58 loud_59 loud_60 loud_61 loud_62 loud_63 loud_64 loud_65 loud_66 loud_67 loud_68 loud_69 loud_70 loud_71 loud_96 loud_97 loud_100 loud_103 loud_105 loud_108 loud_109 loud_110 loud_111 loud_112 loud_118 loud_119 loud_120 loud_121 loud_122 loud_123 loud_124 loud_125 loud_127 loud_128 loud_129 loud_130 loud_131 loud_132 loud_133 loud_134 loud_135 loud_136 loud_137 loud_138 loud_139 loud_140 loud_141 loud_142 loud_143 loud_144 loud_145 loud_177 loud_178 loud_180 loud_183 loud_184 loud_185 loud_186 loud_187 loud_188 loud_189 loud_190 loud_191 loud_192 loud_193 loud_194 loud_195 i64w td_60 wl mx_rule mn_rule rowI_get rowB_get mkS68_eq rowS68_get rowS68_one rowS68_cons rowS68_len mkS24_eq rowS24_get rowS24_one rowS24_cons rowS24_len mkL_eq rowL_one rowL_cons rowL_len
/-! spec_KindChanges : 64 -/
set_option maxRecDepth 100000 in
set_option maxHeartbeats 4000000 in
theorem spec_KindChanges.V {k : Nat} {a0_0 : Int} {a0_1 : Int} {a0_2 : Int} {l0_3 : List Int} {l0_4 : List Int} {l0_5 : List Int} {a1_0 : Int} {a1_1 : Int} {a1_2 : Int} {l1_3 : List Int} {l1_4 : List Int} {l1_5 : List Int} {a2 : Int} {r1 : List Int} {r2 : List Int} {r3 : Bool} (h : spec_KindChanges.f k a0_0 a0_1 a0_2 l0_3 l0_4 l0_5 a1_0 a1_1 a1_2 l1_3 l1_4 l1_5 a2 = some (r1, r2, r3)) : FnV E 64 [.agg [.int .i64 a0_0, .int .i64 a0_1, .int .i64 a0_2, .sl false 1 (mp mkI l0_3), .sl false 1 (mp mkI l0_4), .sl false 1 (mp mkI l0_5)], .agg [.int .i64 a1_0, .int .i64 a1_1, .int .i64 a1_2, .sl false 1 (mp mkI l1_3), .sl false 1 (mp mkI l1_4), .sl false 1 (mp mkI l1_5)], .int .i64 a2] none (.tup [.sl true 1 (mp mkI r1), .sl true 1 (mp mkI r2), .bool r3]) [] none := by
 refine FnV_list E (rs := [.tmp 6, .tmp 7, .tmp 8]) Try.func64 (by rfl) rfl Try.ntmps64 rfl [] (by simp) rfl (by simp) rfl (fun us => ?_)
 simp only [argsL, memL, wrapL, wrap1, Nat.reduceAdd]
 unfold spec_KindChanges.f at h
 refine AL_seq ?_
 refine rg0 [2, 3, 4] [32, 40] (fun K hK => by simp (decide := true) only [go_sem, Nat.reduceAdd, Nat.reduceMul]; exact hK) ?_
 refine AL_seq ?_
 refine AL_seq ?_
 refine AL_cut (fun S => (∃ kk : Nat, ∃ x2 x21 x756000 x756001 x756002 x756003 x756004 x756005 x757000 x757001 x757002 x757003 x757004 x757005, kk ≤ k ∧ spec_KindChanges.j0 kk x2 x21 x756000 x756001 x756002 x756003 x756004 x756005 x757000 x757001 x757002 x757003 x757004 x757005 = some (r1, r2, r3) ∧ At [(2, .int .i64 x2), (3, .ptr 32 0 0), (4, .ptr 40 0 0), (21, .bool x21)] [(32, some (.box [.int .i64 x756000, .int .i64 x756001, .int .i64 x756002, .sl false 1 (mp mkI x756003), .sl false 1 (mp mkI x756004), .sl false 1 (mp mkI x756005)])), (40, some (.box [.int .i64 x757000, .int .i64 x757001, .int .i64 x757002, .sl false 1 (mp mkI x757003), .sl false 1 (mp mkI x757004), .sl false 1 (mp mkI x757005)]))] S)) ?_ ?_
 ·
  obtain ⟨t757, g1, h⟩ := bind_or h
  rcases ite_orb h with ⟨c2, h⟩ | ⟨c2, h⟩
  ·
   obtain ⟨t758, g3, h⟩ := bind_or h
   refine rg1 [2, 3, 4, 21] [32, 40] [(4, 17)] (fun K hK => by simp (decide := true) only [go_sem, Nat.reduceAdd, Nat.reduceMul, c2]; refine ⟨_, _, _, spec_bhTwo.V g1, ?_⟩; simp (decide := true) only [go_sem, Nat.reduceAdd, Nat.reduceMul, c2]; refine ⟨_, _, _, spec_l1In.V g3, ?_⟩; simp (decide := true) only [go_sem, Nat.reduceAdd, Nat.reduceMul, c2]; exact hK) ?_
   refine AL_meet ?_
   exact ⟨_, _, _, _, _, _, _, _, _, _, _, _, _, _, _, by omega, h, At_keep [2, 3, 4, 21] [32, 40]⟩
  ·
   refine rg1 [2, 3, 4, 21] [32, 40] [(4, 17)] (fun K hK => by simp (decide := true) only [go_sem, Nat.reduceAdd, Nat.reduceMul, c2]; refine ⟨_, _, _, spec_bhTwo.V g1, ?_⟩; simp (decide := true) only [go_sem, Nat.reduceAdd, Nat.reduceMul, c2]; exact hK) ?_
   refine AL_meet ?_
   exact ⟨_, _, _, _, _, _, _, _, _, _, _, _, _, _, _, by omega, h, At_keep [2, 3, 4, 21] [32, 40]⟩
 ·
  intro S hS
  obtain ⟨kk4, x2, x21, x756000, x756001, x756002, x756003, x756004, x756005, x757000, x757001, x757002, x757003, x757004, x757005, hkq5, h, hS⟩ := hS
  rcases kk4 with _ | n6
  · (rw [spec_KindChanges.j0] at h; cases h)
  rw [spec_KindChanges.j0] at h
  refine AW_at hS ?_
  rcases ite_orb h with ⟨c7, h⟩ | ⟨c7, h⟩
  ·
   refine AL_then (by simp (decide := true) only [go_sem, Nat.reduceAdd, Nat.reduceMul, c7]) ?_
   refine AL_seq ?_
   refine rg0 [6, 7, 8] [] (fun K hK => by simp (decide := true) only [go_sem, Nat.reduceAdd, Nat.reduceMul, c7]; exact hK) ?_
   replace h := Option.some.inj h
   obtain ⟨rfl, h1⟩ := Prod.mk.inj h
   obtain ⟨rfl, rfl⟩ := Prod.mk.inj h1
   refine AL_ret (fun _ => rfl) ?_
   exact retF_mk rfl (by exact ⟨trivial, trivial, trivial, trivial⟩) rfl (by exact ⟨rfl, rfl, rfl, trivial⟩) (by exact trivial) (by exact trivial)
  ·
   refine AL_else (by simp (decide := true) only [go_sem, Nat.reduceAdd, Nat.reduceMul, c7]) ?_
   refine AL_skip ?_
   refine AL_seq ?_
   refine rg0 [2, 3, 4, 9, 10] [32, 40] (fun K hK => by simp (decide := true) only [go_sem, Nat.reduceAdd, Nat.reduceMul, c7]; exact hK) ?_
   refine AL_seq ?_
   refine AL_seq ?_
   refine rg0 [2, 4, 9, 10, 23, 24, 25] [40] (fun K hK => by simp (decide := true) only [go_sem, Nat.reduceAdd, Nat.reduceMul, c7]; exact hK) ?_
   refine AL_block ?_
   refine AL_loop (n := n6) (fun n S => (∃ x2 x23 x24 x25 x757000 x757001 x757002 x757003 x757004 x757005, n ≤ n6 ∧ spec_KindChanges.l0 n x2 ([] : List Int) ([] : List Int) x23 x24 x25 x757000 x757001 x757002 x757003 x757004 x757005 = some (r1, r2, r3) ∧ At [(2, .int .i64 x2), (4, .ptr 40 0 0), (9, .nil), (10, .nil), (23, .sl false 1 (mp mkI x23)), (24, .int .i64 x24), (25, .int .i64 x25)] [(40, some (.box [.int .i64 x757000, .int .i64 x757001, .int .i64 x757002, .sl false 1 (mp mkI x757003), .sl false 1 (mp mkI x757004), .sl false 1 (mp mkI x757005)]))] S) ∨ (∃ x2 x23 x24 x25 x757000 x757001 x757002 x757003 x757004 x757005 x9, n ≤ n6 ∧ spec_KindChanges.l0 n x2 x9 ([] : List Int) x23 x24 x25 x757000 x757001 x757002 x757003 x757004 x757005 = some (r1, r2, r3) ∧ At [(2, .int .i64 x2), (4, .ptr 40 0 0), (9, .ref 376), (10, .nil), (23, .sl false 1 (mp mkI x23)), (24, .int .i64 x24), (25, .int .i64 x25)] [(40, some (.box [.int .i64 x757000, .int .i64 x757001, .int .i64 x757002, .sl false 1 (mp mkI x757003), .sl false 1 (mp mkI x757004), .sl false 1 (mp mkI x757005)])), (376, some (.row 3 1 (mp mkI x9)))] S) ∨ (∃ x2 x23 x24 x25 x757000 x757001 x757002 x757003 x757004 x757005 x10, n ≤ n6 ∧ spec_KindChanges.l0 n x2 ([] : List Int) x10 x23 x24 x25 x757000 x757001 x757002 x757003 x757004 x757005 = some (r1, r2, r3) ∧ At [(2, .int .i64 x2), (4, .ptr 40 0 0), (9, .nil), (10, .ref 512), (23, .sl false 1 (mp mkI x23)), (24, .int .i64 x24), (25, .int .i64 x25)] [(40, some (.box [.int .i64 x757000, .int .i64 x757001, .int .i64 x757002, .sl false 1 (mp mkI x757003), .sl false 1 (mp mkI x757004), .sl false 1 (mp mkI x757005)])), (512, some (.row 3 1 (mp mkI x10)))] S) ∨ (∃ x2 x23 x24 x25 x757000 x757001 x757002 x757003 x757004 x757005 x9 x10, n ≤ n6 ∧ spec_KindChanges.l0 n x2 x9 x10 x23 x24 x25 x757000 x757001 x757002 x757003 x757004 x757005 = some (r1, r2, r3) ∧ At [(2, .int .i64 x2), (4, .ptr 40 0 0), (9, .ref 376), (10, .ref 512), (23, .sl false 1 (mp mkI x23)), (24, .int .i64 x24), (25, .int .i64 x25)] [(40, some (.box [.int .i64 x757000, .int .i64 x757001, .int .i64 x757002, .sl false 1 (mp mkI x757003), .sl false 1 (mp mkI x757004), .sl false 1 (mp mkI x757005)])), (376, some (.row 3 1 (mp mkI x9))), (512, some (.row 3 1 (mp mkI x10)))] S)) ?_ ?_
   · exact .inl ⟨_, _, _, _, _, _, _, _, _, _, by omega, h, At_keep [2, 4, 9, 10, 23, 24, 25] [40]⟩
   ·
    intro n S hS
    rcases hS with hS | hS | hS | hS
    ·
     obtain ⟨x2, x23, x24, x25, x757000, x757001, x757002, x757003, x757004, x757005, hkq8, h, hS⟩ := hS
     rcases n with _ | n9
     · (rw [spec_KindChanges.l0] at h; cases h)
     rw [spec_KindChanges.l0] at h
     refine AW_at hS ?_
     refine AL_seq ?_
     refine rg0 [2, 4, 9, 10, 23, 24, 25, 26] [40] (fun K hK => by simp (decide := true) only [go_sem, Nat.reduceAdd, Nat.reduceMul]; exact hK) ?_
     refine AL_seq ?_
     rcases ite_orp h with ⟨c10, h⟩ | ⟨c10, h⟩
     ·
      refine AL_then (by simp (decide := true) only [go_sem, Nat.reduceAdd, Nat.reduceMul, c10]) ?_
      refine AL_skip ?_
      refine AL_seq ?_
      refine AL_block ?_
      refine AL_seq ?_
      obtain ⟨c11, h⟩ := ite_lp h
      obtain ⟨c12, h⟩ := ite_lp h
      refine rg0 [2, 4, 9, 10, 11, 12, 23, 24, 25] [40] (fun K hK => by simp (decide := true) only [go_sem, Nat.reduceAdd, Nat.reduceMul, c10, c11, c12]; exact hK) ?_
      refine AL_block ?_
      refine AL_seq ?_
      refine AL_cut (fun S => (∃ kk : Nat, ∃ x2 x11 x12 x23 x24 x25 x30 x757000 x757001 x757002 x757003 x757004 x757005, kk ≤ n9 ∧ spec_KindChanges.j2 kk x2 ([] : List Int) ([] : List Int) x11 x12 x23 x24 x25 x30 x757000 x757001 x757002 x757003 x757004 x757005 = some (r1, r2, r3) ∧ At [(2, .int .i64 x2), (4, .ptr 40 0 0), (9, .nil), (10, .nil), (11, .int .i64 x11), (12, .int .i64 x12), (23, .sl false 1 (mp mkI x23)), (24, .int .i64 x24), (25, .int .i64 x25), (30, .bool x30)] [(40, some (.box [.int .i64 x757000, .int .i64 x757001, .int .i64 x757002, .sl false 1 (mp mkI x757003), .sl false 1 (mp mkI x757004), .sl false 1 (mp mkI x757005)]))] S) ∨ (∃ kk : Nat, ∃ x2 x11 x12 x23 x24 x25 x30 x757000 x757001 x757002 x757003 x757004 x757005 x9, kk ≤ n9 ∧ spec_KindChanges.j2 kk x2 x9 ([] : List Int) x11 x12 x23 x24 x25 x30 x757000 x757001 x757002 x757003 x757004 x757005 = some (r1, r2, r3) ∧ At [(2, .int .i64 x2), (4, .ptr 40 0 0), (9, .ref 376), (10, .nil), (11, .int .i64 x11), (12, .int .i64 x12), (23, .sl false 1 (mp mkI x23)), (24, .int .i64 x24), (25, .int .i64 x25), (30, .bool x30)] [(40, some (.box [.int .i64 x757000, .int .i64 x757001, .int .i64 x757002, .sl false 1 (mp mkI x757003), .sl false 1 (mp mkI x757004), .sl false 1 (mp mkI x757005)])), (376, some (.row 3 1 (mp mkI x9)))] S) ∨ (∃ kk : Nat, ∃ x2 x11 x12 x23 x24 x25 x30 x757000 x757001 x757002 x757003 x757004 x757005 x10, kk ≤ n9 ∧ spec_KindChanges.j2 kk x2 ([] : List Int) x10 x11 x12 x23 x24 x25 x30 x757000 x757001 x757002 x757003 x757004 x757005 = some (r1, r2, r3) ∧ At [(2, .int .i64 x2), (4, .ptr 40 0 0), (9, .nil), (10, .ref 512), (11, .int .i64 x11), (12, .int .i64 x12), (23, .sl false 1 (mp mkI x23)), (24, .int .i64 x24), (25, .int .i64 x25), (30, .bool x30)] [(40, some (.box [.int .i64 x757000, .int .i64 x757001, .int .i64 x757002, .sl false 1 (mp mkI x757003), .sl false 1 (mp mkI x757004), .sl false 1 (mp mkI x757005)])), (512, some (.row 3 1 (mp mkI x10)))] S) ∨ (∃ kk : Nat, ∃ x2 x11 x12 x23 x24 x25 x30 x757000 x757001 x757002 x757003 x757004 x757005 x9 x10, kk ≤ n9 ∧ spec_KindChanges.j2 kk x2 x9 x10 x11 x12 x23 x24 x25 x30 x757000 x757001 x757002 x757003 x757004 x757005 = some (r1, r2, r3) ∧ At [(2, .int .i64 x2), (4, .ptr 40 0 0), (9, .ref 376), (10, .ref 512), (11, .int .i64 x11), (12, .int .i64 x12), (23, .sl false 1 (mp mkI x23)), (24, .int .i64 x24), (25, .int .i64 x25), (30, .bool x30)] [(40, some (.box [.int .i64 x757000, .int .i64 x757001, .int .i64 x757002, .sl false 1 (mp mkI x757003), .sl false 1 (mp mkI x757004), .sl false 1 (mp mkI x757005)])), (376, some (.row 3 1 (mp mkI x9))), (512, some (.row 3 1 (mp mkI x10)))] S)) ?_ ?_
      ·
       rcases ite_orp h with ⟨c13, h⟩ | ⟨c13, h⟩
       ·
        obtain ⟨c14, h⟩ := ite_lp h
        refine rg1 [2, 4, 9, 10, 11, 12, 23, 24, 25, 30] [40] [(3, 34)] (fun K hK => by simp (decide := true) (maxSteps := 4000000) only [go_sem, Nat.reduceAdd, Nat.reduceMul, c10, c11, c12, c13, c14]; exact hK) ?_
        refine AL_meet ?_
        exact .inl ⟨_, _, _, _, _, _, _, _, _, _, _, _, _, _, by omega, h, At_keep [2, 4, 9, 10, 11, 12, 23, 24, 25, 30] [40]⟩
       ·
        refine rg1 [2, 4, 9, 10, 11, 12, 23, 24, 25, 30] [40] [(3, 34)] (fun K hK => by simp (decide := true) (maxSteps := 4000000) only [go_sem, Nat.reduceAdd, Nat.reduceMul, c10, c11, c12, c13]; exact hK) ?_
        refine AL_meet ?_
        exact .inl ⟨_, _, _, _, _, _, _, _, _, _, _, _, _, _, by omega, h, At_keep [2, 4, 9, 10, 11, 12, 23, 24, 25, 30] [40]⟩
      ·
       intro S hS
       rcases hS with hS | hS | hS | hS
       ·
        obtain ⟨kk15, x2, x11, x12, x23, x24, x25, x30, x757000, x757001, x757002, x757003, x757004, x757005, hkq16, h, hS⟩ := hS
        rcases kk15 with _ | n17
        · (rw [spec_KindChanges.j2] at h; cases h)
        rw [spec_KindChanges.j2] at h
        refine AW_at hS ?_
        rcases ite_orb h with ⟨c18, h⟩ | ⟨c18, h⟩
        ·
         refine AL_then (by simp (decide := true) only [go_sem, Nat.reduceAdd, Nat.reduceMul, c18]) ?_
         obtain ⟨c19, h⟩ := ite_l h
         have c19l := lim8 c19
         replace c19 := eq_true c19
         refine rg0 [2, 4, 9, 10, 23, 24, 25] [40, 376] (fun K hK => by simp (decide := true) only [go_sem, Nat.reduceAdd, Nat.reduceMul, c18, c19l, c19]; exact hK) ?_
         refine blockQ_n ?_
         refine blockQ_n ?_
         refine rg0 [2, 4, 9, 10, 23, 24, 25] [40, 376] (fun K hK => by simp (decide := true) only [go_sem, Nat.reduceAdd, Nat.reduceMul, c18, c19l, c19]; exact hK) ?_
         refine AL_again (m := n17) (by omega) ?_
         exact .inr (.inl ⟨_, _, _, _, _, _, _, _, _, _, _, by omega, h, At_keep [2, 4, 9, 10, 23, 24, 25] [40, 376]⟩)
        ·
         refine AL_else (by simp (decide := true) only [go_sem, Nat.reduceAdd, Nat.reduceMul, c18]) ?_
         refine AL_seq ?_
         rcases ite_orp h with ⟨c20, h⟩ | ⟨c20, h⟩
         ·
          obtain ⟨c21, h⟩ := ite_lp h
          obtain ⟨c22, h⟩ := ite_lp h
          refine rg1 [2, 4, 9, 10, 11, 23, 24, 25, 47] [40] [(3, 51)] (fun K hK => by simp (decide := true) (maxSteps := 4000000) only [go_sem, Nat.reduceAdd, Nat.reduceMul, c18, c20, c21, c22]; exact hK) ?_
          rcases ite_orp h with ⟨c23, h⟩ | ⟨c23, h⟩
          ·
           refine AL_then (by simp (decide := true) only [go_sem, Nat.reduceAdd, Nat.reduceMul, c18, c20, c21, c22, c23]) ?_
           obtain ⟨c24, h⟩ := ite_l h
           have c24l := lim8 c24
           replace c24 := eq_true c24
           refine rg0 [2, 4, 9, 10, 23, 24, 25] [40, 512] (fun K hK => by simp (decide := true) only [go_sem, Nat.reduceAdd, Nat.reduceMul, c18, c20, c21, c22, c23, c24l, c24]; exact hK) ?_
           refine blockQ_n ?_
           refine blockQ_n ?_
           refine rg0 [2, 4, 9, 10, 23, 24, 25] [40, 512] (fun K hK => by simp (decide := true) only [go_sem, Nat.reduceAdd, Nat.reduceMul, c18, c20, c21, c22, c23, c24l, c24]; exact hK) ?_
           refine AL_again (m := n17) (by omega) ?_
           exact .inr (.inr (.inl ⟨_, _, _, _, _, _, _, _, _, _, _, by omega, h, At_keep [2, 4, 9, 10, 23, 24, 25] [40, 512]⟩))
          ·
           refine AL_else (by simp (decide := true) only [go_sem, Nat.reduceAdd, Nat.reduceMul, c18, c20, c21, c22, c23]) ?_
           refine AL_skip ?_
           refine blockQ_n ?_
           refine blockQ_n ?_
           refine rg0 [2, 4, 9, 10, 23, 24, 25] [40] (fun K hK => by simp (decide := true) only [go_sem, Nat.reduceAdd, Nat.reduceMul, c18, c20, c21, c22, c23]; exact hK) ?_
           refine AL_again (m := n17) (by omega) ?_
           exact .inl ⟨_, _, _, _, _, _, _, _, _, _, by omega, h, At_keep [2, 4, 9, 10, 23, 24, 25] [40]⟩
         ·
          refine rg1 [2, 4, 9, 10, 11, 23, 24, 25, 47] [40] [(3, 51)] (fun K hK => by simp (decide := true) (maxSteps := 4000000) only [go_sem, Nat.reduceAdd, Nat.reduceMul, c18, c20]; exact hK) ?_
          refine AL_else (by simp (decide := true) only [go_sem, Nat.reduceAdd, Nat.reduceMul, c18, c20]) ?_
          refine AL_skip ?_
          refine blockQ_n ?_
          refine blockQ_n ?_
          refine rg0 [2, 4, 9, 10, 23, 24, 25] [40] (fun K hK => by simp (decide := true) only [go_sem, Nat.reduceAdd, Nat.reduceMul, c18, c20]; exact hK) ?_
          refine AL_again (m := n17) (by omega) ?_
          exact .inl ⟨_, _, _, _, _, _, _, _, _, _, by omega, h, At_keep [2, 4, 9, 10, 23, 24, 25] [40]⟩
       ·
        obtain ⟨kk25, x2, x11, x12, x23, x24, x25, x30, x757000, x757001, x757002, x757003, x757004, x757005, x9, hkq26, h, hS⟩ := hS
        rcases kk25 with _ | n27
        · (rw [spec_KindChanges.j2] at h; cases h)
        rw [spec_KindChanges.j2] at h
        refine AW_at hS ?_
        rcases ite_orb h with ⟨c28, h⟩ | ⟨c28, h⟩
        ·
         refine AL_then (by simp (decide := true) only [go_sem, Nat.reduceAdd, Nat.reduceMul, c28]) ?_
         obtain ⟨c29, h⟩ := ite_l h
         have c29l := lim8 c29
         replace c29 := eq_true c29
         refine rg0 [2, 4, 9, 10, 23, 24, 25] [40, 376] (fun K hK => by simp (decide := true) only [go_sem, Nat.reduceAdd, Nat.reduceMul, c28, c29l, c29]; exact hK) ?_
         refine blockQ_n ?_
         refine blockQ_n ?_
         refine rg0 [2, 4, 9, 10, 23, 24, 25] [40, 376] (fun K hK => by simp (decide := true) only [go_sem, Nat.reduceAdd, Nat.reduceMul, c28, c29l, c29]; exact hK) ?_
         refine AL_again (m := n27) (by omega) ?_
         exact .inr (.inl ⟨_, _, _, _, _, _, _, _, _, _, _, by omega, h, At_keep [2, 4, 9, 10, 23, 24, 25] [40, 376]⟩)
        ·
         refine AL_else (by simp (decide := true) only [go_sem, Nat.reduceAdd, Nat.reduceMul, c28]) ?_
         refine AL_seq ?_
         rcases ite_orp h with ⟨c30, h⟩ | ⟨c30, h⟩
         ·
          obtain ⟨c31, h⟩ := ite_lp h
          obtain ⟨c32, h⟩ := ite_lp h
          refine rg1 [2, 4, 9, 10, 11, 23, 24, 25, 47] [40, 376] [(3, 51)] (fun K hK => by simp (decide := true) (maxSteps := 4000000) only [go_sem, Nat.reduceAdd, Nat.reduceMul, c28, c30, c31, c32]; exact hK) ?_
          rcases ite_orp h with ⟨c33, h⟩ | ⟨c33, h⟩
          ·
           refine AL_then (by simp (decide := true) only [go_sem, Nat.reduceAdd, Nat.reduceMul, c28, c30, c31, c32, c33]) ?_
           obtain ⟨c34, h⟩ := ite_l h
           have c34l := lim8 c34
           replace c34 := eq_true c34
           refine rg0 [2, 4, 9, 10, 23, 24, 25] [40, 376, 512] (fun K hK => by simp (decide := true) only [go_sem, Nat.reduceAdd, Nat.reduceMul, c28, c30, c31, c32, c33, c34l, c34]; exact hK) ?_
           refine blockQ_n ?_
           refine blockQ_n ?_
           refine rg0 [2, 4, 9, 10, 23, 24, 25] [40, 376, 512] (fun K hK => by simp (decide := true) only [go_sem, Nat.reduceAdd, Nat.reduceMul, c28, c30, c31, c32, c33, c34l, c34]; exact hK) ?_
           refine AL_again (m := n27) (by omega) ?_
           exact .inr (.inr (.inr (⟨_, _, _, _, _, _, _, _, _, _, _, _, by omega, h, At_keep [2, 4, 9, 10, 23, 24, 25] [40, 376, 512]⟩)))
          ·
           refine AL_else (by simp (decide := true) only [go_sem, Nat.reduceAdd, Nat.reduceMul, c28, c30, c31, c32, c33]) ?_
           refine AL_skip ?_
           refine blockQ_n ?_
           refine blockQ_n ?_
           refine rg0 [2, 4, 9, 10, 23, 24, 25] [40, 376] (fun K hK => by simp (decide := true) only [go_sem, Nat.reduceAdd, Nat.reduceMul, c28, c30, c31, c32, c33]; exact hK) ?_
           refine AL_again (m := n27) (by omega) ?_
           exact .inr (.inl ⟨_, _, _, _, _, _, _, _, _, _, _, by omega, h, At_keep [2, 4, 9, 10, 23, 24, 25] [40, 376]⟩)
         ·
          refine rg1 [2, 4, 9, 10, 11, 23, 24, 25, 47] [40, 376] [(3, 51)] (fun K hK => by simp (decide := true) (maxSteps := 4000000) only [go_sem, Nat.reduceAdd, Nat.reduceMul, c28, c30]; exact hK) ?_
          refine AL_else (by simp (decide := true) only [go_sem, Nat.reduceAdd, Nat.reduceMul, c28, c30]) ?_
          refine AL_skip ?_
          refine blockQ_n ?_
          refine blockQ_n ?_
          refine rg0 [2, 4, 9, 10, 23, 24, 25] [40, 376] (fun K hK => by simp (decide := true) only [go_sem, Nat.reduceAdd, Nat.reduceMul, c28, c30]; exact hK) ?_
          refine AL_again (m := n27) (by omega) ?_
          exact .inr (.inl ⟨_, _, _, _, _, _, _, _, _, _, _, by omega, h, At_keep [2, 4, 9, 10, 23, 24, 25] [40, 376]⟩)
       ·
        obtain ⟨kk35, x2, x11, x12, x23, x24, x25, x30, x757000, x757001, x757002, x757003, x757004, x757005, x10, hkq36, h, hS⟩ := hS
        rcases kk35 with _ | n37
        · (rw [spec_KindChanges.j2] at h; cases h)
        rw [spec_KindChanges.j2] at h
        refine AW_at hS ?_
        rcases ite_orb h with ⟨c38, h⟩ | ⟨c38, h⟩
        ·
         refine AL_then (by simp (decide := true) only [go_sem, Nat.reduceAdd, Nat.reduceMul, c38]) ?_
         obtain ⟨c39, h⟩ := ite_l h
         have c39l := lim8 c39
         replace c39 := eq_true c39
         refine rg0 [2, 4, 9, 10, 23, 24, 25] [40, 376, 512] (fun K hK => by simp (decide := true) only [go_sem, Nat.reduceAdd, Nat.reduceMul, c38, c39l, c39]; exact hK) ?_
         refine blockQ_n ?_
         refine blockQ_n ?_
         refine rg0 [2, 4, 9, 10, 23, 24, 25] [40, 376, 512] (fun K hK => by simp (decide := true) only [go_sem, Nat.reduceAdd, Nat.reduceMul, c38, c39l, c39]; exact hK) ?_
         refine AL_again (m := n37) (by omega) ?_
         exact .inr (.inr (.inr (⟨_, _, _, _, _, _, _, _, _, _, _, _, by omega, h, At_keep [2, 4, 9, 10, 23, 24, 25] [40, 376, 512]⟩)))
        ·
         refine AL_else (by simp (decide := true) only [go_sem, Nat.reduceAdd, Nat.reduceMul, c38]) ?_
         refine AL_seq ?_
         rcases ite_orp h with ⟨c40, h⟩ | ⟨c40, h⟩
         ·
          obtain ⟨c41, h⟩ := ite_lp h
          obtain ⟨c42, h⟩ := ite_lp h
          refine rg1 [2, 4, 9, 10, 11, 23, 24, 25, 47] [40, 512] [(3, 51)] (fun K hK => by simp (decide := true) (maxSteps := 4000000) only [go_sem, Nat.reduceAdd, Nat.reduceMul, c38, c40, c41, c42]; exact hK) ?_
          rcases ite_orp h with ⟨c43, h⟩ | ⟨c43, h⟩
          ·
           refine AL_then (by simp (decide := true) only [go_sem, Nat.reduceAdd, Nat.reduceMul, c38, c40, c41, c42, c43]) ?_
           obtain ⟨c44, h⟩ := ite_l h
           have c44l := lim8 c44
           replace c44 := eq_true c44
           refine rg0 [2, 4, 9, 10, 23, 24, 25] [40, 512] (fun K hK => by simp (decide := true) only [go_sem, Nat.reduceAdd, Nat.reduceMul, c38, c40, c41, c42, c43, c44l, c44]; exact hK) ?_
           refine blockQ_n ?_
           refine blockQ_n ?_
           refine rg0 [2, 4, 9, 10, 23, 24, 25] [40, 512] (fun K hK => by simp (decide := true) only [go_sem, Nat.reduceAdd, Nat.reduceMul, c38, c40, c41, c42, c43, c44l, c44]; exact hK) ?_
           refine AL_again (m := n37) (by omega) ?_
           exact .inr (.inr (.inl ⟨_, _, _, _, _, _, _, _, _, _, _, by omega, h, At_keep [2, 4, 9, 10, 23, 24, 25] [40, 512]⟩))
          ·
           refine AL_else (by simp (decide := true) only [go_sem, Nat.reduceAdd, Nat.reduceMul, c38, c40, c41, c42, c43]) ?_
           refine AL_skip ?_
           refine blockQ_n ?_
           refine blockQ_n ?_
           refine rg0 [2, 4, 9, 10, 23, 24, 25] [40, 512] (fun K hK => by simp (decide := true) only [go_sem, Nat.reduceAdd, Nat.reduceMul, c38, c40, c41, c42, c43]; exact hK) ?_
           refine AL_again (m := n37) (by omega) ?_
           exact .inr (.inr (.inl ⟨_, _, _, _, _, _, _, _, _, _, _, by omega, h, At_keep [2, 4, 9, 10, 23, 24, 25] [40, 512]⟩))
         ·
          refine rg1 [2, 4, 9, 10, 11, 23, 24, 25, 47] [40, 512] [(3, 51)] (fun K hK => by simp (decide := true) (maxSteps := 4000000) only [go_sem, Nat.reduceAdd, Nat.reduceMul, c38, c40]; exact hK) ?_
          refine AL_else (by simp (decide := true) only [go_sem, Nat.reduceAdd, Nat.reduceMul, c38, c40]) ?_
          refine AL_skip ?_
          refine blockQ_n ?_
          refine blockQ_n ?_
          refine rg0 [2, 4, 9, 10, 23, 24, 25] [40, 512] (fun K hK => by simp (decide := true) only [go_sem, Nat.reduceAdd, Nat.reduceMul, c38, c40]; exact hK) ?_
          refine AL_again (m := n37) (by omega) ?_
          exact .inr (.inr (.inl ⟨_, _, _, _, _, _, _, _, _, _, _, by omega, h, At_keep [2, 4, 9, 10, 23, 24, 25] [40, 512]⟩))
       ·
        obtain ⟨kk45, x2, x11, x12, x23, x24, x25, x30, x757000, x757001, x757002, x757003, x757004, x757005, x9, x10, hkq46, h, hS⟩ := hS
        rcases kk45 with _ | n47
        · (rw [spec_KindChanges.j2] at h; cases h)
        rw [spec_KindChanges.j2] at h
        refine AW_at hS ?_
        rcases ite_orb h with ⟨c48, h⟩ | ⟨c48, h⟩
        ·
         refine AL_then (by simp (decide := true) only [go_sem, Nat.reduceAdd, Nat.reduceMul, c48]) ?_
         obtain ⟨c49, h⟩ := ite_l h
         have c49l := lim8 c49
         replace c49 := eq_true c49
         refine rg0 [2, 4, 9, 10, 23, 24, 25] [40, 376, 512] (fun K hK => by simp (decide := true) only [go_sem, Nat.reduceAdd, Nat.reduceMul, c48, c49l, c49]; exact hK) ?_
         refine blockQ_n ?_
         refine blockQ_n ?_
         refine rg0 [2, 4, 9, 10, 23, 24, 25] [40, 376, 512] (fun K hK => by simp (decide := true) only [go_sem, Nat.reduceAdd, Nat.reduceMul, c48, c49l, c49]; exact hK) ?_
         refine AL_again (m := n47) (by omega) ?_
         exact .inr (.inr (.inr (⟨_, _, _, _, _, _, _, _, _, _, _, _, by omega, h, At_keep [2, 4, 9, 10, 23, 24, 25] [40, 376, 512]⟩)))
        ·
         refine AL_else (by simp (decide := true) only [go_sem, Nat.reduceAdd, Nat.reduceMul, c48]) ?_
         refine AL_seq ?_
         rcases ite_orp h with ⟨c50, h⟩ | ⟨c50, h⟩
         ·
          obtain ⟨c51, h⟩ := ite_lp h
          obtain ⟨c52, h⟩ := ite_lp h
          refine rg1 [2, 4, 9, 10, 11, 23, 24, 25, 47] [40, 376, 512] [(3, 51)] (fun K hK => by simp (decide := true) (maxSteps := 4000000) only [go_sem, Nat.reduceAdd, Nat.reduceMul, c48, c50, c51, c52]; exact hK) ?_
          rcases ite_orp h with ⟨c53, h⟩ | ⟨c53, h⟩
          ·
           refine AL_then (by simp (decide := true) only [go_sem, Nat.reduceAdd, Nat.reduceMul, c48, c50, c51, c52, c53]) ?_
           obtain ⟨c54, h⟩ := ite_l h
           have c54l := lim8 c54
           replace c54 := eq_true c54
           refine rg0 [2, 4, 9, 10, 23, 24, 25] [40, 376, 512] (fun K hK => by simp (decide := true) only [go_sem, Nat.reduceAdd, Nat.reduceMul, c48, c50, c51, c52, c53, c54l, c54]; exact hK) ?_
           refine blockQ_n ?_
           refine blockQ_n ?_
           refine rg0 [2, 4, 9, 10, 23, 24, 25] [40, 376, 512] (fun K hK => by simp (decide := true) only [go_sem, Nat.reduceAdd, Nat.reduceMul, c48, c50, c51, c52, c53, c54l, c54]; exact hK) ?_
           refine AL_again (m := n47) (by omega) ?_
           exact .inr (.inr (.inr (⟨_, _, _, _, _, _, _, _, _, _, _, _, by omega, h, At_keep [2, 4, 9, 10, 23, 24, 25] [40, 376, 512]⟩)))
          ·
           refine AL_else (by simp (decide := true) only [go_sem, Nat.reduceAdd, Nat.reduceMul, c48, c50, c51, c52, c53]) ?_
           refine AL_skip ?_
           refine blockQ_n ?_
           refine blockQ_n ?_
           refine rg0 [2, 4, 9, 10, 23, 24, 25] [40, 376, 512] (fun K hK => by simp (decide := true) only [go_sem, Nat.reduceAdd, Nat.reduceMul, c48, c50, c51, c52, c53]; exact hK) ?_
           refine AL_again (m := n47) (by omega) ?_
           exact .inr (.inr (.inr (⟨_, _, _, _, _, _, _, _, _, _, _, _, by omega, h, At_keep [2, 4, 9, 10, 23, 24, 25] [40, 376, 512]⟩)))
         ·
          refine rg1 [2, 4, 9, 10, 11, 23, 24, 25, 47] [40, 376, 512] [(3, 51)] (fun K hK => by simp (decide := true) (maxSteps := 4000000) only [go_sem, Nat.reduceAdd, Nat.reduceMul, c48, c50]; exact hK) ?_
          refine AL_else (by simp (decide := true) only [go_sem, Nat.reduceAdd, Nat.reduceMul, c48, c50]) ?_
          refine AL_skip ?_
          refine blockQ_n ?_
          refine blockQ_n ?_
          refine rg0 [2, 4, 9, 10, 23, 24, 25] [40, 376, 512] (fun K hK => by simp (decide := true) only [go_sem, Nat.reduceAdd, Nat.reduceMul, c48, c50]; exact hK) ?_
          refine AL_again (m := n47) (by omega) ?_
          exact .inr (.inr (.inr (⟨_, _, _, _, _, _, _, _, _, _, _, _, by omega, h, At_keep [2, 4, 9, 10, 23, 24, 25] [40, 376, 512]⟩)))
     ·
      refine AL_else (by simp (decide := true) only [go_sem, Nat.reduceAdd, Nat.reduceMul, c10]) ?_
      refine AL_exit ?_
      repeat first | refine thenQ_x ?_ | refine blockQ_miss (by decide) ?_
      refine blockQ_hit ?_
      refine AL_seq ?_
      refine rg0 [6, 7, 8] [] (fun K hK => by simp (decide := true) only [go_sem, Nat.reduceAdd, Nat.reduceMul, c10]; exact hK) ?_
      replace h := Option.some.inj h
      obtain ⟨rfl, h1⟩ := Prod.mk.inj h
      obtain ⟨rfl, rfl⟩ := Prod.mk.inj h1
      refine AL_ret (fun _ => rfl) ?_
      exact retF_mk rfl (by exact ⟨trivial, trivial, trivial, trivial⟩) rfl (by exact ⟨rfl, rfl, rfl, trivial⟩) (by exact trivial) (by exact trivial)
    ·
     obtain ⟨x2, x23, x24, x25, x757000, x757001, x757002, x757003, x757004, x757005, x9, hkq55, h, hS⟩ := hS
     rcases n with _ | n56
     · (rw [spec_KindChanges.l0] at h; cases h)
     rw [spec_KindChanges.l0] at h
     refine AW_at hS ?_
     refine AL_seq ?_
     refine rg0 [2, 4, 9, 10, 23, 24, 25, 26] [40, 376] (fun K hK => by simp (decide := true) only [go_sem, Nat.reduceAdd, Nat.reduceMul]; exact hK) ?_
     refine AL_seq ?_
     rcases ite_orp h with ⟨c57, h⟩ | ⟨c57, h⟩
     ·
      refine AL_then (by simp (decide := true) only [go_sem, Nat.reduceAdd, Nat.reduceMul, c57]) ?_
      refine AL_skip ?_
      refine AL_seq ?_
      refine AL_block ?_
      refine AL_seq ?_
      obtain ⟨c58, h⟩ := ite_lp h
      obtain ⟨c59, h⟩ := ite_lp h
      refine rg0 [2, 4, 9, 10, 11, 12, 23, 24, 25] [40, 376] (fun K hK => by simp (decide := true) only [go_sem, Nat.reduceAdd, Nat.reduceMul, c57, c58, c59]; exact hK) ?_
      refine AL_block ?_
      refine AL_seq ?_
      refine AL_cut (fun S => (∃ kk : Nat, ∃ x2 x11 x12 x23 x24 x25 x30 x757000 x757001 x757002 x757003 x757004 x757005, kk ≤ n56 ∧ spec_KindChanges.j2 kk x2 ([] : List Int) ([] : List Int) x11 x12 x23 x24 x25 x30 x757000 x757001 x757002 x757003 x757004 x757005 = some (r1, r2, r3) ∧ At [(2, .int .i64 x2), (4, .ptr 40 0 0), (9, .nil), (10, .nil), (11, .int .i64 x11), (12, .int .i64 x12), (23, .sl false 1 (mp mkI x23)), (24, .int .i64 x24), (25, .int .i64 x25), (30, .bool x30)] [(40, some (.box [.int .i64 x757000, .int .i64 x757001, .int .i64 x757002, .sl false 1 (mp mkI x757003), .sl false 1 (mp mkI x757004), .sl false 1 (mp mkI x757005)]))] S) ∨ (∃ kk : Nat, ∃ x2 x11 x12 x23 x24 x25 x30 x757000 x757001 x757002 x757003 x757004 x757005 x9, kk ≤ n56 ∧ spec_KindChanges.j2 kk x2 x9 ([] : List Int) x11 x12 x23 x24 x25 x30 x757000 x757001 x757002 x757003 x757004 x757005 = some (r1, r2, r3) ∧ At [(2, .int .i64 x2), (4, .ptr 40 0 0), (9, .ref 376), (10, .nil), (11, .int .i64 x11), (12, .int .i64 x12), (23, .sl false 1 (mp mkI x23)), (24, .int .i64 x24), (25, .int .i64 x25), (30, .bool x30)] [(40, some (.box [.int .i64 x757000, .int .i64 x757001, .int .i64 x757002, .sl false 1 (mp mkI x757003), .sl false 1 (mp mkI x757004), .sl false 1 (mp mkI x757005)])), (376, some (.row 3 1 (mp mkI x9)))] S) ∨ (∃ kk : Nat, ∃ x2 x11 x12 x23 x24 x25 x30 x757000 x757001 x757002 x757003 x757004 x757005 x10, kk ≤ n56 ∧ spec_KindChanges.j2 kk x2 ([] : List Int) x10 x11 x12 x23 x24 x25 x30 x757000 x757001 x757002 x757003 x757004 x757005 = some (r1, r2, r3) ∧ At [(2, .int .i64 x2), (4, .ptr 40 0 0), (9, .nil), (10, .ref 512), (11, .int .i64 x11), (12, .int .i64 x12), (23, .sl false 1 (mp mkI x23)), (24, .int .i64 x24), (25, .int .i64 x25), (30, .bool x30)] [(40, some (.box [.int .i64 x757000, .int .i64 x757001, .int .i64 x757002, .sl false 1 (mp mkI x757003), .sl false 1 (mp mkI x757004), .sl false 1 (mp mkI x757005)])), (512, some (.row 3 1 (mp mkI x10)))] S) ∨ (∃ kk : Nat, ∃ x2 x11 x12 x23 x24 x25 x30 x757000 x757001 x757002 x757003 x757004 x757005 x9 x10, kk ≤ n56 ∧ spec_KindChanges.j2 kk x2 x9 x10 x11 x12 x23 x24 x25 x30 x757000 x757001 x757002 x757003 x757004 x757005 = some (r1, r2, r3) ∧ At [(2, .int .i64 x2), (4, .ptr 40 0 0), (9, .ref 376), (10, .ref 512), (11, .int .i64 x11), (12, .int .i64 x12), (23, .sl false 1 (mp mkI x23)), (24, .int .i64 x24), (25, .int .i64 x25), (30, .bool x30)] [(40, some (.box [.int .i64 x757000, .int .i64 x757001, .int .i64 x757002, .sl false 1 (mp mkI x757003), .sl false 1 (mp mkI x757004), .sl false 1 (mp mkI x757005)])), (376, some (.row 3 1 (mp mkI x9))), (512, some (.row 3 1 (mp mkI x10)))] S)) ?_ ?_
      ·
       rcases ite_orp h with ⟨c60, h⟩ | ⟨c60, h⟩
       ·
        obtain ⟨c61, h⟩ := ite_lp h
        refine rg1 [2, 4, 9, 10, 11, 12, 23, 24, 25, 30] [40, 376] [(3, 34)] (fun K hK => by simp (decide := true) (maxSteps := 4000000) only [go_sem, Nat.reduceAdd, Nat.reduceMul, c57, c58, c59, c60, c61]; exact hK) ?_
        refine AL_meet ?_
        exact .inr (.inl ⟨_, _, _, _, _, _, _, _, _, _, _, _, _, _, _, by omega, h, At_keep [2, 4, 9, 10, 11, 12, 23, 24, 25, 30] [40, 376]⟩)
       ·
        refine rg1 [2, 4, 9, 10, 11, 12, 23, 24, 25, 30] [40, 376] [(3, 34)] (fun K hK => by simp (decide := true) (maxSteps := 4000000) only [go_sem, Nat.reduceAdd, Nat.reduceMul, c57, c58, c59, c60]; exact hK) ?_
        refine AL_meet ?_
        exact .inr (.inl ⟨_, _, _, _, _, _, _, _, _, _, _, _, _, _, _, by omega, h, At_keep [2, 4, 9, 10, 11, 12, 23, 24, 25, 30] [40, 376]⟩)
      ·
       intro S hS
       rcases hS with hS | hS | hS | hS
       ·
        obtain ⟨kk62, x2, x11, x12, x23, x24, x25, x30, x757000, x757001, x757002, x757003, x757004, x757005, hkq63, h, hS⟩ := hS
        rcases kk62 with _ | n64
        · (rw [spec_KindChanges.j2] at h; cases h)
        rw [spec_KindChanges.j2] at h
        refine AW_at hS ?_
        rcases ite_orb h with ⟨c65, h⟩ | ⟨c65, h⟩
        ·
         refine AL_then (by simp (decide := true) only [go_sem, Nat.reduceAdd, Nat.reduceMul, c65]) ?_
         obtain ⟨c66, h⟩ := ite_l h
         have c66l := lim8 c66
         replace c66 := eq_true c66
         refine rg0 [2, 4, 9, 10, 23, 24, 25] [40, 376] (fun K hK => by simp (decide := true) only [go_sem, Nat.reduceAdd, Nat.reduceMul, c65, c66l, c66]; exact hK) ?_
         refine blockQ_n ?_
         refine blockQ_n ?_
         refine rg0 [2, 4, 9, 10, 23, 24, 25] [40, 376] (fun K hK => by simp (decide := true) only [go_sem, Nat.reduceAdd, Nat.reduceMul, c65, c66l, c66]; exact hK) ?_
         refine AL_again (m := n64) (by omega) ?_
         exact .inr (.inl ⟨_, _, _, _, _, _, _, _, _, _, _, by omega, h, At_keep [2, 4, 9, 10, 23, 24, 25] [40, 376]⟩)
        ·
         refine AL_else (by simp (decide := true) only [go_sem, Nat.reduceAdd, Nat.reduceMul, c65]) ?_
         refine AL_seq ?_
         rcases ite_orp h with ⟨c67, h⟩ | ⟨c67, h⟩
         ·
          obtain ⟨c68, h⟩ := ite_lp h
          obtain ⟨c69, h⟩ := ite_lp h
          refine rg1 [2, 4, 9, 10, 11, 23, 24, 25, 47] [40] [(3, 51)] (fun K hK => by simp (decide := true) (maxSteps := 4000000) only [go_sem, Nat.reduceAdd, Nat.reduceMul, c65, c67, c68, c69]; exact hK) ?_
          rcases ite_orp h with ⟨c70, h⟩ | ⟨c70, h⟩
          ·
           refine AL_then (by simp (decide := true) only [go_sem, Nat.reduceAdd, Nat.reduceMul, c65, c67, c68, c69, c70]) ?_
           obtain ⟨c71, h⟩ := ite_l h
           have c71l := lim8 c71
           replace c71 := eq_true c71
           refine rg0 [2, 4, 9, 10, 23, 24, 25] [40, 512] (fun K hK => by simp (decide := true) only [go_sem, Nat.reduceAdd, Nat.reduceMul, c65, c67, c68, c69, c70, c71l, c71]; exact hK) ?_
           refine blockQ_n ?_
           refine blockQ_n ?_
           refine rg0 [2, 4, 9, 10, 23, 24, 25] [40, 512] (fun K hK => by simp (decide := true) only [go_sem, Nat.reduceAdd, Nat.reduceMul, c65, c67, c68, c69, c70, c71l, c71]; exact hK) ?_
           refine AL_again (m := n64) (by omega) ?_
           exact .inr (.inr (.inl ⟨_, _, _, _, _, _, _, _, _, _, _, by omega, h, At_keep [2, 4, 9, 10, 23, 24, 25] [40, 512]⟩))
          ·
           refine AL_else (by simp (decide := true) only [go_sem, Nat.reduceAdd, Nat.reduceMul, c65, c67, c68, c69, c70]) ?_
           refine AL_skip ?_
           refine blockQ_n ?_
           refine blockQ_n ?_
           refine rg0 [2, 4, 9, 10, 23, 24, 25] [40] (fun K hK => by simp (decide := true) only [go_sem, Nat.reduceAdd, Nat.reduceMul, c65, c67, c68, c69, c70]; exact hK) ?_
           refine AL_again (m := n64) (by omega) ?_
           exact .inl ⟨_, _, _, _, _, _, _, _, _, _, by omega, h, At_keep [2, 4, 9, 10, 23, 24, 25] [40]⟩
         ·
          refine rg1 [2, 4, 9, 10, 11, 23, 24, 25, 47] [40] [(3, 51)] (fun K hK => by simp (decide := true) (maxSteps := 4000000) only [go_sem, Nat.reduceAdd, Nat.reduceMul, c65, c67]; exact hK) ?_
          refine AL_else (by simp (decide := true) only [go_sem, Nat.reduceAdd, Nat.reduceMul, c65, c67]) ?_
          refine AL_skip ?_
          refine blockQ_n ?_
          refine blockQ_n ?_
          refine rg0 [2, 4, 9, 10, 23, 24, 25] [40] (fun K hK => by simp (decide := true) only [go_sem, Nat.reduceAdd, Nat.reduceMul, c65, c67]; exact hK) ?_
          refine AL_again (m := n64) (by omega) ?_
          exact .inl ⟨_, _, _, _, _, _, _, _, _, _, by omega, h, At_keep [2, 4, 9, 10, 23, 24, 25] [40]⟩
       ·
        obtain ⟨kk72, x2, x11, x12, x23, x24, x25, x30, x757000, x757001, x757002, x757003, x757004, x757005, x9, hkq73, h, hS⟩ := hS
        rcases kk72 with _ | n74
        · (rw [spec_KindChanges.j2] at h; cases h)
        rw [spec_KindChanges.j2] at h
        refine AW_at hS ?_
        rcases ite_orb h with ⟨c75, h⟩ | ⟨c75, h⟩
        ·
         refine AL_then (by simp (decide := true) only [go_sem, Nat.reduceAdd, Nat.reduceMul, c75]) ?_
         obtain ⟨c76, h⟩ := ite_l h
         have c76l := lim8 c76
         replace c76 := eq_true c76
         refine rg0 [2, 4, 9, 10, 23, 24, 25] [40, 376] (fun K hK => by simp (decide := true) only [go_sem, Nat.reduceAdd, Nat.reduceMul, c75, c76l, c76]; exact hK) ?_
         refine blockQ_n ?_
         refine blockQ_n ?_
         refine rg0 [2, 4, 9, 10, 23, 24, 25] [40, 376] (fun K hK => by simp (decide := true) only [go_sem, Nat.reduceAdd, Nat.reduceMul, c75, c76l, c76]; exact hK) ?_
         refine AL_again (m := n74) (by omega) ?_
         exact .inr (.inl ⟨_, _, _, _, _, _, _, _, _, _, _, by omega, h, At_keep [2, 4, 9, 10, 23, 24, 25] [40, 376]⟩)
        ·
         refine AL_else (by simp (decide := true) only [go_sem, Nat.reduceAdd, Nat.reduceMul, c75]) ?_
         refine AL_seq ?_
         rcases ite_orp h with ⟨c77, h⟩ | ⟨c77, h⟩
         ·
          obtain ⟨c78, h⟩ := ite_lp h
          obtain ⟨c79, h⟩ := ite_lp h
          refine rg1 [2, 4, 9, 10, 11, 23, 24, 25, 47] [40, 376] [(3, 51)] (fun K hK => by simp (decide := true) (maxSteps := 4000000) only [go_sem, Nat.reduceAdd, Nat.reduceMul, c75, c77, c78, c79]; exact hK) ?_
          rcases ite_orp h with ⟨c80, h⟩ | ⟨c80, h⟩
          ·
           refine AL_then (by simp (decide := true) only [go_sem, Nat.reduceAdd, Nat.reduceMul, c75, c77, c78, c79, c80]) ?_
           obtain ⟨c81, h⟩ := ite_l h
           have c81l := lim8 c81
           replace c81 := eq_true c81
           refine rg0 [2, 4, 9, 10, 23, 24, 25] [40, 376, 512] (fun K hK => by simp (decide := true) only [go_sem, Nat.reduceAdd, Nat.reduceMul, c75, c77, c78, c79, c80, c81l, c81]; exact hK) ?_
           refine blockQ_n ?_
           refine blockQ_n ?_
           refine rg0 [2, 4, 9, 10, 23, 24, 25] [40, 376, 512] (fun K hK => by simp (decide := true) only [go_sem, Nat.reduceAdd, Nat.reduceMul, c75, c77, c78, c79, c80, c81l, c81]; exact hK) ?_
           refine AL_again (m := n74) (by omega) ?_
           exact .inr (.inr (.inr (⟨_, _, _, _, _, _, _, _, _, _, _, _, by omega, h, At_keep [2, 4, 9, 10, 23, 24, 25] [40, 376, 512]⟩)))
          ·
           refine AL_else (by simp (decide := true) only [go_sem, Nat.reduceAdd, Nat.reduceMul, c75, c77, c78, c79, c80]) ?_
           refine AL_skip ?_
           refine blockQ_n ?_
           refine blockQ_n ?_
           refine rg0 [2, 4, 9, 10, 23, 24, 25] [40, 376] (fun K hK => by simp (decide := true) only [go_sem, Nat.reduceAdd, Nat.reduceMul, c75, c77, c78, c79, c80]; exact hK) ?_
           refine AL_again (m := n74) (by omega) ?_
           exact .inr (.inl ⟨_, _, _, _, _, _, _, _, _, _, _, by omega, h, At_keep [2, 4, 9, 10, 23, 24, 25] [40, 376]⟩)
         ·
          refine rg1 [2, 4, 9, 10, 11, 23, 24, 25, 47] [40, 376] [(3, 51)] (fun K hK => by simp (decide := true) (maxSteps := 4000000) only [go_sem, Nat.reduceAdd, Nat.reduceMul, c75, c77]; exact hK) ?_
          refine AL_else (by simp (decide := true) only [go_sem, Nat.reduceAdd, Nat.reduceMul, c75, c77]) ?_
          refine AL_skip ?_
          refine blockQ_n ?_
          refine blockQ_n ?_
          refine rg0 [2, 4, 9, 10, 23, 24, 25] [40, 376] (fun K hK => by simp (decide := true) only [go_sem, Nat.reduceAdd, Nat.reduceMul, c75, c77]; exact hK) ?_
          refine AL_again (m := n74) (by omega) ?_
          exact .inr (.inl ⟨_, _, _, _, _, _, _, _, _, _, _, by omega, h, At_keep [2, 4, 9, 10, 23, 24, 25] [40, 376]⟩)
       ·
        obtain ⟨kk82, x2, x11, x12, x23, x24, x25, x30, x757000, x757001, x757002, x757003, x757004, x757005, x10, hkq83, h, hS⟩ := hS
        rcases kk82 with _ | n84
        · (rw [spec_KindChanges.j2] at h; cases h)
        rw [spec_KindChanges.j2] at h
        refine AW_at hS ?_
        rcases ite_orb h with ⟨c85, h⟩ | ⟨c85, h⟩
        ·
         refine AL_then (by simp (decide := true) only [go_sem, Nat.reduceAdd, Nat.reduceMul, c85]) ?_
         obtain ⟨c86, h⟩ := ite_l h
         have c86l := lim8 c86
         replace c86 := eq_true c86
         refine rg0 [2, 4, 9, 10, 23, 24, 25] [40, 376, 512] (fun K hK => by simp (decide := true) only [go_sem, Nat.reduceAdd, Nat.reduceMul, c85, c86l, c86]; exact hK) ?_
         refine blockQ_n ?_
         refine blockQ_n ?_
         refine rg0 [2, 4, 9, 10, 23, 24, 25] [40, 376, 512] (fun K hK => by simp (decide := true) only [go_sem, Nat.reduceAdd, Nat.reduceMul, c85, c86l, c86]; exact hK) ?_
         refine AL_again (m := n84) (by omega) ?_
         exact .inr (.inr (.inr (⟨_, _, _, _, _, _, _, _, _, _, _, _, by omega, h, At_keep [2, 4, 9, 10, 23, 24, 25] [40, 376, 512]⟩)))
        ·
         refine AL_else (by simp (decide := true) only [go_sem, Nat.reduceAdd, Nat.reduceMul, c85]) ?_
         refine AL_seq ?_
         rcases ite_orp h with ⟨c87, h⟩ | ⟨c87, h⟩
         ·
          obtain ⟨c88, h⟩ := ite_lp h
          obtain ⟨c89, h⟩ := ite_lp h
          refine rg1 [2, 4, 9, 10, 11, 23, 24, 25, 47] [40, 512] [(3, 51)] (fun K hK => by simp (decide := true) (maxSteps := 4000000) only [go_sem, Nat.reduceAdd, Nat.reduceMul, c85, c87, c88, c89]; exact hK) ?_
          rcases ite_orp h with ⟨c90, h⟩ | ⟨c90, h⟩
          ·
           refine AL_then (by simp (decide := true) only [go_sem, Nat.reduceAdd, Nat.reduceMul, c85, c87, c88, c89, c90]) ?_
           obtain ⟨c91, h⟩ := ite_l h
           have c91l := lim8 c91
           replace c91 := eq_true c91
           refine rg0 [2, 4, 9, 10, 23, 24, 25] [40, 512] (fun K hK => by simp (decide := true) only [go_sem, Nat.reduceAdd, Nat.reduceMul, c85, c87, c88, c89, c90, c91l, c91]; exact hK) ?_
           refine blockQ_n ?_
           refine blockQ_n ?_
           refine rg0 [2, 4, 9, 10, 23, 24, 25] [40, 512] (fun K hK => by simp (decide := true) only [go_sem, Nat.reduceAdd, Nat.reduceMul, c85, c87, c88, c89, c90, c91l, c91]; exact hK) ?_
           refine AL_again (m := n84) (by omega) ?_
           exact .inr (.inr (.inl ⟨_, _, _, _, _, _, _, _, _, _, _, by omega, h, At_keep [2, 4, 9, 10, 23, 24, 25] [40, 512]⟩))
          ·
           refine AL_else (by simp (decide := true) only [go_sem, Nat.reduceAdd, Nat.reduceMul, c85, c87, c88, c89, c90]) ?_
           refine AL_skip ?_
           refine blockQ_n ?_
           refine blockQ_n ?_
           refine rg0 [2, 4, 9, 10, 23, 24, 25] [40, 512] (fun K hK => by simp (decide := true) only [go_sem, Nat.reduceAdd, Nat.reduceMul, c85, c87, c88, c89, c90]; exact hK) ?_
           refine AL_again (m := n84) (by omega) ?_
           exact .inr (.inr (.inl ⟨_, _, _, _, _, _, _, _, _, _, _, by omega, h, At_keep [2, 4, 9, 10, 23, 24, 25] [40, 512]⟩))
         ·
          refine rg1 [2, 4, 9, 10, 11, 23, 24, 25, 47] [40, 512] [(3, 51)] (fun K hK => by simp (decide := true) (maxSteps := 4000000) only [go_sem, Nat.reduceAdd, Nat.reduceMul, c85, c87]; exact hK) ?_
          refine AL_else (by simp (decide := true) only [go_sem, Nat.reduceAdd, Nat.reduceMul, c85, c87]) ?_
          refine AL_skip ?_
          refine blockQ_n ?_
          refine blockQ_n ?_
          refine rg0 [2, 4, 9, 10, 23, 24, 25] [40, 512] (fun K hK => by simp (decide := true) only [go_sem, Nat.reduceAdd, Nat.reduceMul, c85, c87]; exact hK) ?_
          refine AL_again (m := n84) (by omega) ?_
          exact .inr (.inr (.inl ⟨_, _, _, _, _, _, _, _, _, _, _, by omega, h, At_keep [2, 4, 9, 10, 23, 24, 25] [40, 512]⟩))
       ·
        obtain ⟨kk92, x2, x11, x12, x23, x24, x25, x30, x757000, x757001, x757002, x757003, x757004, x757005, x9, x10, hkq93, h, hS⟩ := hS
        rcases kk92 with _ | n94
        · (rw [spec_KindChanges.j2] at h; cases h)
        rw [spec_KindChanges.j2] at h
        refine AW_at hS ?_
        rcases ite_orb h with ⟨c95, h⟩ | ⟨c95, h⟩
        ·
         refine AL_then (by simp (decide := true) only [go_sem, Nat.reduceAdd, Nat.reduceMul, c95]) ?_
         obtain ⟨c96, h⟩ := ite_l h
         have c96l := lim8 c96
         replace c96 := eq_true c96
         refine rg0 [2, 4, 9, 10, 23, 24, 25] [40, 376, 512] (fun K hK => by simp (decide := true) only [go_sem, Nat.reduceAdd, Nat.reduceMul, c95, c96l, c96]; exact hK) ?_
         refine blockQ_n ?_
         refine blockQ_n ?_
         refine rg0 [2, 4, 9, 10, 23, 24, 25] [40, 376, 512] (fun K hK => by simp (decide := true) only [go_sem, Nat.reduceAdd, Nat.reduceMul, c95, c96l, c96]; exact hK) ?_
         refine AL_again (m := n94) (by omega) ?_
         exact .inr (.inr (.inr (⟨_, _, _, _, _, _, _, _, _, _, _, _, by omega, h, At_keep [2, 4, 9, 10, 23, 24, 25] [40, 376, 512]⟩)))
        ·
         refine AL_else (by simp (decide := true) only [go_sem, Nat.reduceAdd, Nat.reduceMul, c95]) ?_
         refine AL_seq ?_
         rcases ite_orp h with ⟨c97, h⟩ | ⟨c97, h⟩
         ·
          obtain ⟨c98, h⟩ := ite_lp h
          obtain ⟨c99, h⟩ := ite_lp h
          refine rg1 [2, 4, 9, 10, 11, 23, 24, 25, 47] [40, 376, 512] [(3, 51)] (fun K hK => by simp (decide := true) (maxSteps := 4000000) only [go_sem, Nat.reduceAdd, Nat.reduceMul, c95, c97, c98, c99]; exact hK) ?_
          rcases ite_orp h with ⟨c100, h⟩ | ⟨c100, h⟩
          ·
           refine AL_then (by simp (decide := true) only [go_sem, Nat.reduceAdd, Nat.reduceMul, c95, c97, c98, c99, c100]) ?_
           obtain ⟨c101, h⟩ := ite_l h
           have c101l := lim8 c101
           replace c101 := eq_true c101
           refine rg0 [2, 4, 9, 10, 23, 24, 25] [40, 376, 512] (fun K hK => by simp (decide := true) only [go_sem, Nat.reduceAdd, Nat.reduceMul, c95, c97, c98, c99, c100, c101l, c101]; exact hK) ?_
           refine blockQ_n ?_
           refine blockQ_n ?_
           refine rg0 [2, 4, 9, 10, 23, 24, 25] [40, 376, 512] (fun K hK => by simp (decide := true) only [go_sem, Nat.reduceAdd, Nat.reduceMul, c95, c97, c98, c99, c100, c101l, c101]; exact hK) ?_
           refine AL_again (m := n94) (by omega) ?_
           exact .inr (.inr (.inr (⟨_, _, _, _, _, _, _, _, _, _, _, _, by omega, h, At_keep [2, 4, 9, 10, 23, 24, 25] [40, 376, 512]⟩)))
          ·
           refine AL_else (by simp (decide := true) only [go_sem, Nat.reduceAdd, Nat.reduceMul, c95, c97, c98, c99, c100]) ?_
           refine AL_skip ?_
           refine blockQ_n ?_
           refine blockQ_n ?_
           refine rg0 [2, 4, 9, 10, 23, 24, 25] [40, 376, 512] (fun K hK => by simp (decide := true) only [go_sem, Nat.reduceAdd, Nat.reduceMul, c95, c97, c98, c99, c100]; exact hK) ?_
           refine AL_again (m := n94) (by omega) ?_
           exact .inr (.inr (.inr (⟨_, _, _, _, _, _, _, _, _, _, _, _, by omega, h, At_keep [2, 4, 9, 10, 23, 24, 25] [40, 376, 512]⟩)))
         ·
          refine rg1 [2, 4, 9, 10, 11, 23, 24, 25, 47] [40, 376, 512] [(3, 51)] (fun K hK => by simp (decide := true) (maxSteps := 4000000) only [go_sem, Nat.reduceAdd, Nat.reduceMul, c95, c97]; exact hK) ?_
          refine AL_else (by simp (decide := true) only [go_sem, Nat.reduceAdd, Nat.reduceMul, c95, c97]) ?_
          refine AL_skip ?_
          refine blockQ_n ?_
          refine blockQ_n ?_
          refine rg0 [2, 4, 9, 10, 23, 24, 25] [40, 376, 512] (fun K hK => by simp (decide := true) only [go_sem, Nat.reduceAdd, Nat.reduceMul, c95, c97]; exact hK) ?_
          refine AL_again (m := n94) (by omega) ?_
          exact .inr (.inr (.inr (⟨_, _, _, _, _, _, _, _, _, _, _, _, by omega, h, At_keep [2, 4, 9, 10, 23, 24, 25] [40, 376, 512]⟩)))
     ·
      refine AL_else (by simp (decide := true) only [go_sem, Nat.reduceAdd, Nat.reduceMul, c57]) ?_
      refine AL_exit ?_
      repeat first | refine thenQ_x ?_ | refine blockQ_miss (by decide) ?_
      refine blockQ_hit ?_
      refine AL_seq ?_
      refine rg0 [6, 7, 8] [376] (fun K hK => by simp (decide := true) only [go_sem, Nat.reduceAdd, Nat.reduceMul, c57]; exact hK) ?_
      replace h := Option.some.inj h
      obtain ⟨rfl, h1⟩ := Prod.mk.inj h
      obtain ⟨rfl, rfl⟩ := Prod.mk.inj h1
      refine AL_ret (fun _ => rfl) ?_
      exact retF_mk rfl (by exact ⟨trivial, trivial, trivial, trivial⟩) rfl (by exact ⟨rfl, rfl, rfl, trivial⟩) (by exact trivial) (by exact trivial)
    ·
     obtain ⟨x2, x23, x24, x25, x757000, x757001, x757002, x757003, x757004, x757005, x10, hkq102, h, hS⟩ := hS
     rcases n with _ | n103
     · (rw [spec_KindChanges.l0] at h; cases h)
     rw [spec_KindChanges.l0] at h
     refine AW_at hS ?_
     refine AL_seq ?_
     refine rg0 [2, 4, 9, 10, 23, 24, 25, 26] [40, 512] (fun K hK => by simp (decide := true) only [go_sem, Nat.reduceAdd, Nat.reduceMul]; exact hK) ?_
     refine AL_seq ?_
     rcases ite_orp h with ⟨c104, h⟩ | ⟨c104, h⟩
     ·
      refine AL_then (by simp (decide := true) only [go_sem, Nat.reduceAdd, Nat.reduceMul, c104]) ?_
      refine AL_skip ?_
      refine AL_seq ?_
      refine AL_block ?_
      refine AL_seq ?_
      obtain ⟨c105, h⟩ := ite_lp h
      obtain ⟨c106, h⟩ := ite_lp h
      refine rg0 [2, 4, 9, 10, 11, 12, 23, 24, 25] [40, 512] (fun K hK => by simp (decide := true) only [go_sem, Nat.reduceAdd, Nat.reduceMul, c104, c105, c106]; exact hK) ?_
      refine AL_block ?_
      refine AL_seq ?_
      refine AL_cut (fun S => (∃ kk : Nat, ∃ x2 x11 x12 x23 x24 x25 x30 x757000 x757001 x757002 x757003 x757004 x757005, kk ≤ n103 ∧ spec_KindChanges.j2 kk x2 ([] : List Int) ([] : List Int) x11 x12 x23 x24 x25 x30 x757000 x757001 x757002 x757003 x757004 x757005 = some (r1, r2, r3) ∧ At [(2, .int .i64 x2), (4, .ptr 40 0 0), (9, .nil), (10, .nil), (11, .int .i64 x11), (12, .int .i64 x12), (23, .sl false 1 (mp mkI x23)), (24, .int .i64 x24), (25, .int .i64 x25), (30, .bool x30)] [(40, some (.box [.int .i64 x757000, .int .i64 x757001, .int .i64 x757002, .sl false 1 (mp mkI x757003), .sl false 1 (mp mkI x757004), .sl false 1 (mp mkI x757005)]))] S) ∨ (∃ kk : Nat, ∃ x2 x11 x12 x23 x24 x25 x30 x757000 x757001 x757002 x757003 x757004 x757005 x9, kk ≤ n103 ∧ spec_KindChanges.j2 kk x2 x9 ([] : List Int) x11 x12 x23 x24 x25 x30 x757000 x757001 x757002 x757003 x757004 x757005 = some (r1, r2, r3) ∧ At [(2, .int .i64 x2), (4, .ptr 40 0 0), (9, .ref 376), (10, .nil), (11, .int .i64 x11), (12, .int .i64 x12), (23, .sl false 1 (mp mkI x23)), (24, .int .i64 x24), (25, .int .i64 x25), (30, .bool x30)] [(40, some (.box [.int .i64 x757000, .int .i64 x757001, .int .i64 x757002, .sl false 1 (mp mkI x757003), .sl false 1 (mp mkI x757004), .sl false 1 (mp mkI x757005)])), (376, some (.row 3 1 (mp mkI x9)))] S) ∨ (∃ kk : Nat, ∃ x2 x11 x12 x23 x24 x25 x30 x757000 x757001 x757002 x757003 x757004 x757005 x10, kk ≤ n103 ∧ spec_KindChanges.j2 kk x2 ([] : List Int) x10 x11 x12 x23 x24 x25 x30 x757000 x757001 x757002 x757003 x757004 x757005 = some (r1, r2, r3) ∧ At [(2, .int .i64 x2), (4, .ptr 40 0 0), (9, .nil), (10, .ref 512), (11, .int .i64 x11), (12, .int .i64 x12), (23, .sl false 1 (mp mkI x23)), (24, .int .i64 x24), (25, .int .i64 x25), (30, .bool x30)] [(40, some (.box [.int .i64 x757000, .int .i64 x757001, .int .i64 x757002, .sl false 1 (mp mkI x757003), .sl false 1 (mp mkI x757004), .sl false 1 (mp mkI x757005)])), (512, some (.row 3 1 (mp mkI x10)))] S) ∨ (∃ kk : Nat, ∃ x2 x11 x12 x23 x24 x25 x30 x757000 x757001 x757002 x757003 x757004 x757005 x9 x10, kk ≤ n103 ∧ spec_KindChanges.j2 kk x2 x9 x10 x11 x12 x23 x24 x25 x30 x757000 x757001 x757002 x757003 x757004 x757005 = some (r1, r2, r3) ∧ At [(2, .int .i64 x2), (4, .ptr 40 0 0), (9, .ref 376), (10, .ref 512), (11, .int .i64 x11), (12, .int .i64 x12), (23, .sl false 1 (mp mkI x23)), (24, .int .i64 x24), (25, .int .i64 x25), (30, .bool x30)] [(40, some (.box [.int .i64 x757000, .int .i64 x757001, .int .i64 x757002, .sl false 1 (mp mkI x757003), .sl false 1 (mp mkI x757004), .sl false 1 (mp mkI x757005)])), (376, some (.row 3 1 (mp mkI x9))), (512, some (.row 3 1 (mp mkI x10)))] S)) ?_ ?_
      ·
       rcases ite_orp h with ⟨c107, h⟩ | ⟨c107, h⟩
       ·
        obtain ⟨c108, h⟩ := ite_lp h
        refine rg1 [2, 4, 9, 10, 11, 12, 23, 24, 25, 30] [40, 512] [(3, 34)] (fun K hK => by simp (decide := true) (maxSteps := 4000000) only [go_sem, Nat.reduceAdd, Nat.reduceMul, c104, c105, c106, c107, c108]; exact hK) ?_
        refine AL_meet ?_
        exact .inr (.inr (.inl ⟨_, _, _, _, _, _, _, _, _, _, _, _, _, _, _, by omega, h, At_keep [2, 4, 9, 10, 11, 12, 23, 24, 25, 30] [40, 512]⟩))
       ·
        refine rg1 [2, 4, 9, 10, 11, 12, 23, 24, 25, 30] [40, 512] [(3, 34)] (fun K hK => by simp (decide := true) (maxSteps := 4000000) only [go_sem, Nat.reduceAdd, Nat.reduceMul, c104, c105, c106, c107]; exact hK) ?_
        refine AL_meet ?_
        exact .inr (.inr (.inl ⟨_, _, _, _, _, _, _, _, _, _, _, _, _, _, _, by omega, h, At_keep [2, 4, 9, 10, 11, 12, 23, 24, 25, 30] [40, 512]⟩))
      ·
       intro S hS
       rcases hS with hS | hS | hS | hS
       ·
        obtain ⟨kk109, x2, x11, x12, x23, x24, x25, x30, x757000, x757001, x757002, x757003, x757004, x757005, hkq110, h, hS⟩ := hS
        rcases kk109 with _ | n111
        · (rw [spec_KindChanges.j2] at h; cases h)
        rw [spec_KindChanges.j2] at h
        refine AW_at hS ?_
        rcases ite_orb h with ⟨c112, h⟩ | ⟨c112, h⟩
        ·
         refine AL_then (by simp (decide := true) only [go_sem, Nat.reduceAdd, Nat.reduceMul, c112]) ?_
         obtain ⟨c113, h⟩ := ite_l h
         have c113l := lim8 c113
         replace c113 := eq_true c113
         refine rg0 [2, 4, 9, 10, 23, 24, 25] [40, 376] (fun K hK => by simp (decide := true) only [go_sem, Nat.reduceAdd, Nat.reduceMul, c112, c113l, c113]; exact hK) ?_
         refine blockQ_n ?_
         refine blockQ_n ?_
         refine rg0 [2, 4, 9, 10, 23, 24, 25] [40, 376] (fun K hK => by simp (decide := true) only [go_sem, Nat.reduceAdd, Nat.reduceMul, c112, c113l, c113]; exact hK) ?_
         refine AL_again (m := n111) (by omega) ?_
         exact .inr (.inl ⟨_, _, _, _, _, _, _, _, _, _, _, by omega, h, At_keep [2, 4, 9, 10, 23, 24, 25] [40, 376]⟩)
        ·
         refine AL_else (by simp (decide := true) only [go_sem, Nat.reduceAdd, Nat.reduceMul, c112]) ?_
         refine AL_seq ?_
         rcases ite_orp h with ⟨c114, h⟩ | ⟨c114, h⟩
         ·
          obtain ⟨c115, h⟩ := ite_lp h
          obtain ⟨c116, h⟩ := ite_lp h
          refine rg1 [2, 4, 9, 10, 11, 23, 24, 25, 47] [40] [(3, 51)] (fun K hK => by simp (decide := true) (maxSteps := 4000000) only [go_sem, Nat.reduceAdd, Nat.reduceMul, c112, c114, c115, c116]; exact hK) ?_
          rcases ite_orp h with ⟨c117, h⟩ | ⟨c117, h⟩
          ·
           refine AL_then (by simp (decide := true) only [go_sem, Nat.reduceAdd, Nat.reduceMul, c112, c114, c115, c116, c117]) ?_
           obtain ⟨c118, h⟩ := ite_l h
           have c118l := lim8 c118
           replace c118 := eq_true c118
           refine rg0 [2, 4, 9, 10, 23, 24, 25] [40, 512] (fun K hK => by simp (decide := true) only [go_sem, Nat.reduceAdd, Nat.reduceMul, c112, c114, c115, c116, c117, c118l, c118]; exact hK) ?_
           refine blockQ_n ?_
           refine blockQ_n ?_
           refine rg0 [2, 4, 9, 10, 23, 24, 25] [40, 512] (fun K hK => by simp (decide := true) only [go_sem, Nat.reduceAdd, Nat.reduceMul, c112, c114, c115, c116, c117, c118l, c118]; exact hK) ?_
           refine AL_again (m := n111) (by omega) ?_
           exact .inr (.inr (.inl ⟨_, _, _, _, _, _, _, _, _, _, _, by omega, h, At_keep [2, 4, 9, 10, 23, 24, 25] [40, 512]⟩))
          ·
           refine AL_else (by simp (decide := true) only [go_sem, Nat.reduceAdd, Nat.reduceMul, c112, c114, c115, c116, c117]) ?_
           refine AL_skip ?_
           refine blockQ_n ?_
           refine blockQ_n ?_
           refine rg0 [2, 4, 9, 10, 23, 24, 25] [40] (fun K hK => by simp (decide := true) only [go_sem, Nat.reduceAdd, Nat.reduceMul, c112, c114, c115, c116, c117]; exact hK) ?_
           refine AL_again (m := n111) (by omega) ?_
           exact .inl ⟨_, _, _, _, _, _, _, _, _, _, by omega, h, At_keep [2, 4, 9, 10, 23, 24, 25] [40]⟩
         ·
          refine rg1 [2, 4, 9, 10, 11, 23, 24, 25, 47] [40] [(3, 51)] (fun K hK => by simp (decide := true) (maxSteps := 4000000) only [go_sem, Nat.reduceAdd, Nat.reduceMul, c112, c114]; exact hK) ?_
          refine AL_else (by simp (decide := true) only [go_sem, Nat.reduceAdd, Nat.reduceMul, c112, c114]) ?_
          refine AL_skip ?_
          refine blockQ_n ?_
          refine blockQ_n ?_
          refine rg0 [2, 4, 9, 10, 23, 24, 25] [40] (fun K hK => by simp (decide := true) only [go_sem, Nat.reduceAdd, Nat.reduceMul, c112, c114]; exact hK) ?_
          refine AL_again (m := n111) (by omega) ?_
          exact .inl ⟨_, _, _, _, _, _, _, _, _, _, by omega, h, At_keep [2, 4, 9, 10, 23, 24, 25] [40]⟩
       ·
        obtain ⟨kk119, x2, x11, x12, x23, x24, x25, x30, x757000, x757001, x757002, x757003, x757004, x757005, x9, hkq120, h, hS⟩ := hS
        rcases kk119 with _ | n121
        · (rw [spec_KindChanges.j2] at h; cases h)
        rw [spec_KindChanges.j2] at h
        refine AW_at hS ?_
        rcases ite_orb h with ⟨c122, h⟩ | ⟨c122, h⟩
        ·
         refine AL_then (by simp (decide := true) only [go_sem, Nat.reduceAdd, Nat.reduceMul, c122]) ?_
         obtain ⟨c123, h⟩ := ite_l h
         have c123l := lim8 c123
         replace c123 := eq_true c123
         refine rg0 [2, 4, 9, 10, 23, 24, 25] [40, 376] (fun K hK => by simp (decide := true) only [go_sem, Nat.reduceAdd, Nat.reduceMul, c122, c123l, c123]; exact hK) ?_
         refine blockQ_n ?_
         refine blockQ_n ?_
         refine rg0 [2, 4, 9, 10, 23, 24, 25] [40, 376] (fun K hK => by simp (decide := true) only [go_sem, Nat.reduceAdd, Nat.reduceMul, c122, c123l, c123]; exact hK) ?_
         refine AL_again (m := n121) (by omega) ?_
         exact .inr (.inl ⟨_, _, _, _, _, _, _, _, _, _, _, by omega, h, At_keep [2, 4, 9, 10, 23, 24, 25] [40, 376]⟩)
        ·
         refine AL_else (by simp (decide := true) only [go_sem, Nat.reduceAdd, Nat.reduceMul, c122]) ?_
         refine AL_seq ?_
         rcases ite_orp h with ⟨c124, h⟩ | ⟨c124, h⟩
         ·
          obtain ⟨c125, h⟩ := ite_lp h
          obtain ⟨c126, h⟩ := ite_lp h
          refine rg1 [2, 4, 9, 10, 11, 23, 24, 25, 47] [40, 376] [(3, 51)] (fun K hK => by simp (decide := true) (maxSteps := 4000000) only [go_sem, Nat.reduceAdd, Nat.reduceMul, c122, c124, c125, c126]; exact hK) ?_
          rcases ite_orp h with ⟨c127, h⟩ | ⟨c127, h⟩
          ·
           refine AL_then (by simp (decide := true) only [go_sem, Nat.reduceAdd, Nat.reduceMul, c122, c124, c125, c126, c127]) ?_
           obtain ⟨c128, h⟩ := ite_l h
           have c128l := lim8 c128
           replace c128 := eq_true c128
           refine rg0 [2, 4, 9, 10, 23, 24, 25] [40, 376, 512] (fun K hK => by simp (decide := true) only [go_sem, Nat.reduceAdd, Nat.reduceMul, c122, c124, c125, c126, c127, c128l, c128]; exact hK) ?_
           refine blockQ_n ?_
           refine blockQ_n ?_
           refine rg0 [2, 4, 9, 10, 23, 24, 25] [40, 376, 512] (fun K hK => by simp (decide := true) only [go_sem, Nat.reduceAdd, Nat.reduceMul, c122, c124, c125, c126, c127, c128l, c128]; exact hK) ?_
           refine AL_again (m := n121) (by omega) ?_
           exact .inr (.inr (.inr (⟨_, _, _, _, _, _, _, _, _, _, _, _, by omega, h, At_keep [2, 4, 9, 10, 23, 24, 25] [40, 376, 512]⟩)))
          ·
           refine AL_else (by simp (decide := true) only [go_sem, Nat.reduceAdd, Nat.reduceMul, c122, c124, c125, c126, c127]) ?_
           refine AL_skip ?_
           refine blockQ_n ?_
           refine blockQ_n ?_
           refine rg0 [2, 4, 9, 10, 23, 24, 25] [40, 376] (fun K hK => by simp (decide := true) only [go_sem, Nat.reduceAdd, Nat.reduceMul, c122, c124, c125, c126, c127]; exact hK) ?_
           refine AL_again (m := n121) (by omega) ?_
           exact .inr (.inl ⟨_, _, _, _, _, _, _, _, _, _, _, by omega, h, At_keep [2, 4, 9, 10, 23, 24, 25] [40, 376]⟩)
         ·
          refine rg1 [2, 4, 9, 10, 11, 23, 24, 25, 47] [40, 376] [(3, 51)] (fun K hK => by simp (decide := true) (maxSteps := 4000000) only [go_sem, Nat.reduceAdd, Nat.reduceMul, c122, c124]; exact hK) ?_
          refine AL_else (by simp (decide := true) only [go_sem, Nat.reduceAdd, Nat.reduceMul, c122, c124]) ?_
          refine AL_skip ?_
          refine blockQ_n ?_
          refine blockQ_n ?_
          refine rg0 [2, 4, 9, 10, 23, 24, 25] [40, 376] (fun K hK => by simp (decide := true) only [go_sem, Nat.reduceAdd, Nat.reduceMul, c122, c124]; exact hK) ?_
          refine AL_again (m := n121) (by omega) ?_
          exact .inr (.inl ⟨_, _, _, _, _, _, _, _, _, _, _, by omega, h, At_keep [2, 4, 9, 10, 23, 24, 25] [40, 376]⟩)
       ·
        obtain ⟨kk129, x2, x11, x12, x23, x24, x25, x30, x757000, x757001, x757002, x757003, x757004, x757005, x10, hkq130, h, hS⟩ := hS
        rcases kk129 with _ | n131
        · (rw [spec_KindChanges.j2] at h; cases h)
        rw [spec_KindChanges.j2] at h
        refine AW_at hS ?_
        rcases ite_orb h with ⟨c132, h⟩ | ⟨c132, h⟩
        ·
         refine AL_then (by simp (decide := true) only [go_sem, Nat.reduceAdd, Nat.reduceMul, c132]) ?_
         obtain ⟨c133, h⟩ := ite_l h
         have c133l := lim8 c133
         replace c133 := eq_true c133
         refine rg0 [2, 4, 9, 10, 23, 24, 25] [40, 376, 512] (fun K hK => by simp (decide := true) only [go_sem, Nat.reduceAdd, Nat.reduceMul, c132, c133l, c133]; exact hK) ?_
         refine blockQ_n ?_
         refine blockQ_n ?_
         refine rg0 [2, 4, 9, 10, 23, 24, 25] [40, 376, 512] (fun K hK => by simp (decide := true) only [go_sem, Nat.reduceAdd, Nat.reduceMul, c132, c133l, c133]; exact hK) ?_
         refine AL_again (m := n131) (by omega) ?_
         exact .inr (.inr (.inr (⟨_, _, _, _, _, _, _, _, _, _, _, _, by omega, h, At_keep [2, 4, 9, 10, 23, 24, 25] [40, 376, 512]⟩)))
        ·
         refine AL_else (by simp (decide := true) only [go_sem, Nat.reduceAdd, Nat.reduceMul, c132]) ?_
         refine AL_seq ?_
         rcases ite_orp h with ⟨c134, h⟩ | ⟨c134, h⟩
         ·
          obtain ⟨c135, h⟩ := ite_lp h
          obtain ⟨c136, h⟩ := ite_lp h
          refine rg1 [2, 4, 9, 10, 11, 23, 24, 25, 47] [40, 512] [(3, 51)] (fun K hK => by simp (decide := true) (maxSteps := 4000000) only [go_sem, Nat.reduceAdd, Nat.reduceMul, c132, c134, c135, c136]; exact hK) ?_
          rcases ite_orp h with ⟨c137, h⟩ | ⟨c137, h⟩
          ·
           refine AL_then (by simp (decide := true) only [go_sem, Nat.reduceAdd, Nat.reduceMul, c132, c134, c135, c136, c137]) ?_
           obtain ⟨c138, h⟩ := ite_l h
           have c138l := lim8 c138
           replace c138 := eq_true c138
           refine rg0 [2, 4, 9, 10, 23, 24, 25] [40, 512] (fun K hK => by simp (decide := true) only [go_sem, Nat.reduceAdd, Nat.reduceMul, c132, c134, c135, c136, c137, c138l, c138]; exact hK) ?_
           refine blockQ_n ?_
           refine blockQ_n ?_
           refine rg0 [2, 4, 9, 10, 23, 24, 25] [40, 512] (fun K hK => by simp (decide := true) only [go_sem, Nat.reduceAdd, Nat.reduceMul, c132, c134, c135, c136, c137, c138l, c138]; exact hK) ?_
           refine AL_again (m := n131) (by omega) ?_
           exact .inr (.inr (.inl ⟨_, _, _, _, _, _, _, _, _, _, _, by omega, h, At_keep [2, 4, 9, 10, 23, 24, 25] [40, 512]⟩))
          ·
           refine AL_else (by simp (decide := true) only [go_sem, Nat.reduceAdd, Nat.reduceMul, c132, c134, c135, c136, c137]) ?_
           refine AL_skip ?_
           refine blockQ_n ?_
           refine blockQ_n ?_
           refine rg0 [2, 4, 9, 10, 23, 24, 25] [40, 512] (fun K hK => by simp (decide := true) only [go_sem, Nat.reduceAdd, Nat.reduceMul, c132, c134, c135, c136, c137]; exact hK) ?_
           refine AL_again (m := n131) (by omega) ?_
           exact .inr (.inr (.inl ⟨_, _, _, _, _, _, _, _, _, _, _, by omega, h, At_keep [2, 4, 9, 10, 23, 24, 25] [40, 512]⟩))
         ·
          refine rg1 [2, 4, 9, 10, 11, 23, 24, 25, 47] [40, 512] [(3, 51)] (fun K hK => by simp (decide := true) (maxSteps := 4000000) only [go_sem, Nat.reduceAdd, Nat.reduceMul, c132, c134]; exact hK) ?_
          refine AL_else (by simp (decide := true) only [go_sem, Nat.reduceAdd, Nat.reduceMul, c132, c134]) ?_
          refine AL_skip ?_
          refine blockQ_n ?_
          refine blockQ_n ?_
          refine rg0 [2, 4, 9, 10, 23, 24, 25] [40, 512] (fun K hK => by simp (decide := true) only [go_sem, Nat.reduceAdd, Nat.reduceMul, c132, c134]; exact hK) ?_
          refine AL_again (m := n131) (by omega) ?_
          exact .inr (.inr (.inl ⟨_, _, _, _, _, _, _, _, _, _, _, by omega, h, At_keep [2, 4, 9, 10, 23, 24, 25] [40, 512]⟩))
       ·
        obtain ⟨kk139, x2, x11, x12, x23, x24, x25, x30, x757000, x757001, x757002, x757003, x757004, x757005, x9, x10, hkq140, h, hS⟩ := hS
        rcases kk139 with _ | n141
        · (rw [spec_KindChanges.j2] at h; cases h)
        rw [spec_KindChanges.j2] at h
        refine AW_at hS ?_
        rcases ite_orb h with ⟨c142, h⟩ | ⟨c142, h⟩
        ·
         refine AL_then (by simp (decide := true) only [go_sem, Nat.reduceAdd, Nat.reduceMul, c142]) ?_
         obtain ⟨c143, h⟩ := ite_l h
         have c143l := lim8 c143
         replace c143 := eq_true c143
         refine rg0 [2, 4, 9, 10, 23, 24, 25] [40, 376, 512] (fun K hK => by simp (decide := true) only [go_sem, Nat.reduceAdd, Nat.reduceMul, c142, c143l, c143]; exact hK) ?_
         refine blockQ_n ?_
         refine blockQ_n ?_
         refine rg0 [2, 4, 9, 10, 23, 24, 25] [40, 376, 512] (fun K hK => by simp (decide := true) only [go_sem, Nat.reduceAdd, Nat.reduceMul, c142, c143l, c143]; exact hK) ?_
         refine AL_again (m := n141) (by omega) ?_
         exact .inr (.inr (.inr (⟨_, _, _, _, _, _, _, _, _, _, _, _, by omega, h, At_keep [2, 4, 9, 10, 23, 24, 25] [40, 376, 512]⟩)))
        ·
         refine AL_else (by simp (decide := true) only [go_sem, Nat.reduceAdd, Nat.reduceMul, c142]) ?_
         refine AL_seq ?_
         rcases ite_orp h with ⟨c144, h⟩ | ⟨c144, h⟩
         ·
          obtain ⟨c145, h⟩ := ite_lp h
          obtain ⟨c146, h⟩ := ite_lp h
          refine rg1 [2, 4, 9, 10, 11, 23, 24, 25, 47] [40, 376, 512] [(3, 51)] (fun K hK => by simp (decide := true) (maxSteps := 4000000) only [go_sem, Nat.reduceAdd, Nat.reduceMul, c142, c144, c145, c146]; exact hK) ?_
          rcases ite_orp h with ⟨c147, h⟩ | ⟨c147, h⟩
          ·
           refine AL_then (by simp (decide := true) only [go_sem, Nat.reduceAdd, Nat.reduceMul, c142, c144, c145, c146, c147]) ?_
           obtain ⟨c148, h⟩ := ite_l h
           have c148l := lim8 c148
           replace c148 := eq_true c148
           refine rg0 [2, 4, 9, 10, 23, 24, 25] [40, 376, 512] (fun K hK => by simp (decide := true) only [go_sem, Nat.reduceAdd, Nat.reduceMul, c142, c144, c145, c146, c147, c148l, c148]; exact hK) ?_
           refine blockQ_n ?_
           refine blockQ_n ?_
           refine rg0 [2, 4, 9, 10, 23, 24, 25] [40, 376, 512] (fun K hK => by simp (decide := true) only [go_sem, Nat.reduceAdd, Nat.reduceMul, c142, c144, c145, c146, c147, c148l, c148]; exact hK) ?_
           refine AL_again (m := n141) (by omega) ?_
           exact .inr (.inr (.inr (⟨_, _, _, _, _, _, _, _, _, _, _, _, by omega, h, At_keep [2, 4, 9, 10, 23, 24, 25] [40, 376, 512]⟩)))
          ·
           refine AL_else (by simp (decide := true) only [go_sem, Nat.reduceAdd, Nat.reduceMul, c142, c144, c145, c146, c147]) ?_
           refine AL_skip ?_
           refine blockQ_n ?_
           refine blockQ_n ?_
           refine rg0 [2, 4, 9, 10, 23, 24, 25] [40, 376, 512] (fun K hK => by simp (decide := true) only [go_sem, Nat.reduceAdd, Nat.reduceMul, c142, c144, c145, c146, c147]; exact hK) ?_
           refine AL_again (m := n141) (by omega) ?_
           exact .inr (.inr (.inr (⟨_, _, _, _, _, _, _, _, _, _, _, _, by omega, h, At_keep [2, 4, 9, 10, 23, 24, 25] [40, 376, 512]⟩)))
         ·
          refine rg1 [2, 4, 9, 10, 11, 23, 24, 25, 47] [40, 376, 512] [(3, 51)] (fun K hK => by simp (decide := true) (maxSteps := 4000000) only [go_sem, Nat.reduceAdd, Nat.reduceMul, c142, c144]; exact hK) ?_
          refine AL_else (by simp (decide := true) only [go_sem, Nat.reduceAdd, Nat.reduceMul, c142, c144]) ?_
          refine AL_skip ?_
          refine blockQ_n ?_
          refine blockQ_n ?_
          refine rg0 [2, 4, 9, 10, 23, 24, 25] [40, 376, 512] (fun K hK => by simp (decide := true) only [go_sem, Nat.reduceAdd, Nat.reduceMul, c142, c144]; exact hK) ?_
          refine AL_again (m := n141) (by omega) ?_
          exact .inr (.inr (.inr (⟨_, _, _, _, _, _, _, _, _, _, _, _, by omega, h, At_keep [2, 4, 9, 10, 23, 24, 25] [40, 376, 512]⟩)))
     ·
      refine AL_else (by simp (decide := true) only [go_sem, Nat.reduceAdd, Nat.reduceMul, c104]) ?_
      refine AL_exit ?_
      repeat first | refine thenQ_x ?_ | refine blockQ_miss (by decide) ?_
      refine blockQ_hit ?_
      refine AL_seq ?_
      refine rg0 [6, 7, 8] [512] (fun K hK => by simp (decide := true) only [go_sem, Nat.reduceAdd, Nat.reduceMul, c104]; exact hK) ?_
      replace h := Option.some.inj h
      obtain ⟨rfl, h1⟩ := Prod.mk.inj h
      obtain ⟨rfl, rfl⟩ := Prod.mk.inj h1
      refine AL_ret (fun _ => rfl) ?_
      exact retF_mk rfl (by exact ⟨trivial, trivial, trivial, trivial⟩) rfl (by exact ⟨rfl, rfl, rfl, trivial⟩) (by exact trivial) (by exact trivial)
    ·
     obtain ⟨x2, x23, x24, x25, x757000, x757001, x757002, x757003, x757004, x757005, x9, x10, hkq149, h, hS⟩ := hS
     rcases n with _ | n150
     · (rw [spec_KindChanges.l0] at h; cases h)
     rw [spec_KindChanges.l0] at h
     refine AW_at hS ?_
     refine AL_seq ?_
     refine rg0 [2, 4, 9, 10, 23, 24, 25, 26] [40, 376, 512] (fun K hK => by simp (decide := true) only [go_sem, Nat.reduceAdd, Nat.reduceMul]; exact hK) ?_
     refine AL_seq ?_
     rcases ite_orp h with ⟨c151, h⟩ | ⟨c151, h⟩
     ·
      refine AL_then (by simp (decide := true) only [go_sem, Nat.reduceAdd, Nat.reduceMul, c151]) ?_
      refine AL_skip ?_
      refine AL_seq ?_
      refine AL_block ?_
      refine AL_seq ?_
      obtain ⟨c152, h⟩ := ite_lp h
      obtain ⟨c153, h⟩ := ite_lp h
      refine rg0 [2, 4, 9, 10, 11, 12, 23, 24, 25] [40, 376, 512] (fun K hK => by simp (decide := true) only [go_sem, Nat.reduceAdd, Nat.reduceMul, c151, c152, c153]; exact hK) ?_
      refine AL_block ?_
      refine AL_seq ?_
      refine AL_cut (fun S => (∃ kk : Nat, ∃ x2 x11 x12 x23 x24 x25 x30 x757000 x757001 x757002 x757003 x757004 x757005, kk ≤ n150 ∧ spec_KindChanges.j2 kk x2 ([] : List Int) ([] : List Int) x11 x12 x23 x24 x25 x30 x757000 x757001 x757002 x757003 x757004 x757005 = some (r1, r2, r3) ∧ At [(2, .int .i64 x2), (4, .ptr 40 0 0), (9, .nil), (10, .nil), (11, .int .i64 x11), (12, .int .i64 x12), (23, .sl false 1 (mp mkI x23)), (24, .int .i64 x24), (25, .int .i64 x25), (30, .bool x30)] [(40, some (.box [.int .i64 x757000, .int .i64 x757001, .int .i64 x757002, .sl false 1 (mp mkI x757003), .sl false 1 (mp mkI x757004), .sl false 1 (mp mkI x757005)]))] S) ∨ (∃ kk : Nat, ∃ x2 x11 x12 x23 x24 x25 x30 x757000 x757001 x757002 x757003 x757004 x757005 x9, kk ≤ n150 ∧ spec_KindChanges.j2 kk x2 x9 ([] : List Int) x11 x12 x23 x24 x25 x30 x757000 x757001 x757002 x757003 x757004 x757005 = some (r1, r2, r3) ∧ At [(2, .int .i64 x2), (4, .ptr 40 0 0), (9, .ref 376), (10, .nil), (11, .int .i64 x11), (12, .int .i64 x12), (23, .sl false 1 (mp mkI x23)), (24, .int .i64 x24), (25, .int .i64 x25), (30, .bool x30)] [(40, some (.box [.int .i64 x757000, .int .i64 x757001, .int .i64 x757002, .sl false 1 (mp mkI x757003), .sl false 1 (mp mkI x757004), .sl false 1 (mp mkI x757005)])), (376, some (.row 3 1 (mp mkI x9)))] S) ∨ (∃ kk : Nat, ∃ x2 x11 x12 x23 x24 x25 x30 x757000 x757001 x757002 x757003 x757004 x757005 x10, kk ≤ n150 ∧ spec_KindChanges.j2 kk x2 ([] : List Int) x10 x11 x12 x23 x24 x25 x30 x757000 x757001 x757002 x757003 x757004 x757005 = some (r1, r2, r3) ∧ At [(2, .int .i64 x2), (4, .ptr 40 0 0), (9, .nil), (10, .ref 512), (11, .int .i64 x11), (12, .int .i64 x12), (23, .sl false 1 (mp mkI x23)), (24, .int .i64 x24), (25, .int .i64 x25), (30, .bool x30)] [(40, some (.box [.int .i64 x757000, .int .i64 x757001, .int .i64 x757002, .sl false 1 (mp mkI x757003), .sl false 1 (mp mkI x757004), .sl false 1 (mp mkI x757005)])), (512, some (.row 3 1 (mp mkI x10)))] S) ∨ (∃ kk : Nat, ∃ x2 x11 x12 x23 x24 x25 x30 x757000 x757001 x757002 x757003 x757004 x757005 x9 x10, kk ≤ n150 ∧ spec_KindChanges.j2 kk x2 x9 x10 x11 x12 x23 x24 x25 x30 x757000 x757001 x757002 x757003 x757004 x757005 = some (r1, r2, r3) ∧ At [(2, .int .i64 x2), (4, .ptr 40 0 0), (9, .ref 376), (10, .ref 512), (11, .int .i64 x11), (12, .int .i64 x12), (23, .sl false 1 (mp mkI x23)), (24, .int .i64 x24), (25, .int .i64 x25), (30, .bool x30)] [(40, some (.box [.int .i64 x757000, .int .i64 x757001, .int .i64 x757002, .sl false 1 (mp mkI x757003), .sl false 1 (mp mkI x757004), .sl false 1 (mp mkI x757005)])), (376, some (.row 3 1 (mp mkI x9))), (512, some (.row 3 1 (mp mkI x10)))] S)) ?_ ?_
      ·
       rcases ite_orp h with ⟨c154, h⟩ | ⟨c154, h⟩
       ·
        obtain ⟨c155, h⟩ := ite_lp h
        refine rg1 [2, 4, 9, 10, 11, 12, 23, 24, 25, 30] [40, 376, 512] [(3, 34)] (fun K hK => by simp (decide := true) (maxSteps := 4000000) only [go_sem, Nat.reduceAdd, Nat.reduceMul, c151, c152, c153, c154, c155]; exact hK) ?_
        refine AL_meet ?_
        exact .inr (.inr (.inr (⟨_, _, _, _, _, _, _, _, _, _, _, _, _, _, _, _, by omega, h, At_keep [2, 4, 9, 10, 11, 12, 23, 24, 25, 30] [40, 376, 512]⟩)))
       ·
        refine rg1 [2, 4, 9, 10, 11, 12, 23, 24, 25, 30] [40, 376, 512] [(3, 34)] (fun K hK => by simp (decide := true) (maxSteps := 4000000) only [go_sem, Nat.reduceAdd, Nat.reduceMul, c151, c152, c153, c154]; exact hK) ?_
        refine AL_meet ?_
        exact .inr (.inr (.inr (⟨_, _, _, _, _, _, _, _, _, _, _, _, _, _, _, _, by omega, h, At_keep [2, 4, 9, 10, 11, 12, 23, 24, 25, 30] [40, 376, 512]⟩)))
      ·
       intro S hS
       rcases hS with hS | hS | hS | hS
       ·
        obtain ⟨kk156, x2, x11, x12, x23, x24, x25, x30, x757000, x757001, x757002, x757003, x757004, x757005, hkq157, h, hS⟩ := hS
        rcases kk156 with _ | n158
        · (rw [spec_KindChanges.j2] at h; cases h)
        rw [spec_KindChanges.j2] at h
        refine AW_at hS ?_
        rcases ite_orb h with ⟨c159, h⟩ | ⟨c159, h⟩
        ·
         refine AL_then (by simp (decide := true) only [go_sem, Nat.reduceAdd, Nat.reduceMul, c159]) ?_
         obtain ⟨c160, h⟩ := ite_l h
         have c160l := lim8 c160
         replace c160 := eq_true c160
         refine rg0 [2, 4, 9, 10, 23, 24, 25] [40, 376] (fun K hK => by simp (decide := true) only [go_sem, Nat.reduceAdd, Nat.reduceMul, c159, c160l, c160]; exact hK) ?_
         refine blockQ_n ?_
         refine blockQ_n ?_
         refine rg0 [2, 4, 9, 10, 23, 24, 25] [40, 376] (fun K hK => by simp (decide := true) only [go_sem, Nat.reduceAdd, Nat.reduceMul, c159, c160l, c160]; exact hK) ?_
         refine AL_again (m := n158) (by omega) ?_
         exact .inr (.inl ⟨_, _, _, _, _, _, _, _, _, _, _, by omega, h, At_keep [2, 4, 9, 10, 23, 24, 25] [40, 376]⟩)
        ·
         refine AL_else (by simp (decide := true) only [go_sem, Nat.reduceAdd, Nat.reduceMul, c159]) ?_
         refine AL_seq ?_
         rcases ite_orp h with ⟨c161, h⟩ | ⟨c161, h⟩
         ·
          obtain ⟨c162, h⟩ := ite_lp h
          obtain ⟨c163, h⟩ := ite_lp h
          refine rg1 [2, 4, 9, 10, 11, 23, 24, 25, 47] [40] [(3, 51)] (fun K hK => by simp (decide := true) (maxSteps := 4000000) only [go_sem, Nat.reduceAdd, Nat.reduceMul, c159, c161, c162, c163]; exact hK) ?_
          rcases ite_orp h with ⟨c164, h⟩ | ⟨c164, h⟩
          ·
           refine AL_then (by simp (decide := true) only [go_sem, Nat.reduceAdd, Nat.reduceMul, c159, c161, c162, c163, c164]) ?_
           obtain ⟨c165, h⟩ := ite_l h
           have c165l := lim8 c165
           replace c165 := eq_true c165
           refine rg0 [2, 4, 9, 10, 23, 24, 25] [40, 512] (fun K hK => by simp (decide := true) only [go_sem, Nat.reduceAdd, Nat.reduceMul, c159, c161, c162, c163, c164, c165l, c165]; exact hK) ?_
           refine blockQ_n ?_
           refine blockQ_n ?_
           refine rg0 [2, 4, 9, 10, 23, 24, 25] [40, 512] (fun K hK => by simp (decide := true) only [go_sem, Nat.reduceAdd, Nat.reduceMul, c159, c161, c162, c163, c164, c165l, c165]; exact hK) ?_
           refine AL_again (m := n158) (by omega) ?_
           exact .inr (.inr (.inl ⟨_, _, _, _, _, _, _, _, _, _, _, by omega, h, At_keep [2, 4, 9, 10, 23, 24, 25] [40, 512]⟩))
          ·
           refine AL_else (by simp (decide := true) only [go_sem, Nat.reduceAdd, Nat.reduceMul, c159, c161, c162, c163, c164]) ?_
           refine AL_skip ?_
           refine blockQ_n ?_
           refine blockQ_n ?_
           refine rg0 [2, 4, 9, 10, 23, 24, 25] [40] (fun K hK => by simp (decide := true) only [go_sem, Nat.reduceAdd, Nat.reduceMul, c159, c161, c162, c163, c164]; exact hK) ?_
           refine AL_again (m := n158) (by omega) ?_
           exact .inl ⟨_, _, _, _, _, _, _, _, _, _, by omega, h, At_keep [2, 4, 9, 10, 23, 24, 25] [40]⟩
         ·
          refine rg1 [2, 4, 9, 10, 11, 23, 24, 25, 47] [40] [(3, 51)] (fun K hK => by simp (decide := true) (maxSteps := 4000000) only [go_sem, Nat.reduceAdd, Nat.reduceMul, c159, c161]; exact hK) ?_
          refine AL_else (by simp (decide := true) only [go_sem, Nat.reduceAdd, Nat.reduceMul, c159, c161]) ?_
          refine AL_skip ?_
          refine blockQ_n ?_
          refine blockQ_n ?_
          refine rg0 [2, 4, 9, 10, 23, 24, 25] [40] (fun K hK => by simp (decide := true) only [go_sem, Nat.reduceAdd, Nat.reduceMul, c159, c161]; exact hK) ?_
          refine AL_again (m := n158) (by omega) ?_
          exact .inl ⟨_, _, _, _, _, _, _, _, _, _, by omega, h, At_keep [2, 4, 9, 10, 23, 24, 25] [40]⟩
       ·
        obtain ⟨kk166, x2, x11, x12, x23, x24, x25, x30, x757000, x757001, x757002, x757003, x757004, x757005, x9, hkq167, h, hS⟩ := hS
        rcases kk166 with _ | n168
        · (rw [spec_KindChanges.j2] at h; cases h)
        rw [spec_KindChanges.j2] at h
        refine AW_at hS ?_
        rcases ite_orb h with ⟨c169, h⟩ | ⟨c169, h⟩
        ·
         refine AL_then (by simp (decide := true) only [go_sem, Nat.reduceAdd, Nat.reduceMul, c169]) ?_
         obtain ⟨c170, h⟩ := ite_l h
         have c170l := lim8 c170
         replace c170 := eq_true c170
         refine rg0 [2, 4, 9, 10, 23, 24, 25] [40, 376] (fun K hK => by simp (decide := true) only [go_sem, Nat.reduceAdd, Nat.reduceMul, c169, c170l, c170]; exact hK) ?_
         refine blockQ_n ?_
         refine blockQ_n ?_
         refine rg0 [2, 4, 9, 10, 23, 24, 25] [40, 376] (fun K hK => by simp (decide := true) only [go_sem, Nat.reduceAdd, Nat.reduceMul, c169, c170l, c170]; exact hK) ?_
         refine AL_again (m := n168) (by omega) ?_
         exact .inr (.inl ⟨_, _, _, _, _, _, _, _, _, _, _, by omega, h, At_keep [2, 4, 9, 10, 23, 24, 25] [40, 376]⟩)
        ·
         refine AL_else (by simp (decide := true) only [go_sem, Nat.reduceAdd, Nat.reduceMul, c169]) ?_
         refine AL_seq ?_
         rcases ite_orp h with ⟨c171, h⟩ | ⟨c171, h⟩
         ·
          obtain ⟨c172, h⟩ := ite_lp h
          obtain ⟨c173, h⟩ := ite_lp h
          refine rg1 [2, 4, 9, 10, 11, 23, 24, 25, 47] [40, 376] [(3, 51)] (fun K hK => by simp (decide := true) (maxSteps := 4000000) only [go_sem, Nat.reduceAdd, Nat.reduceMul, c169, c171, c172, c173]; exact hK) ?_
          rcases ite_orp h with ⟨c174, h⟩ | ⟨c174, h⟩
          ·
           refine AL_then (by simp (decide := true) only [go_sem, Nat.reduceAdd, Nat.reduceMul, c169, c171, c172, c173, c174]) ?_
           obtain ⟨c175, h⟩ := ite_l h
           have c175l := lim8 c175
           replace c175 := eq_true c175
           refine rg0 [2, 4, 9, 10, 23, 24, 25] [40, 376, 512] (fun K hK => by simp (decide := true) only [go_sem, Nat.reduceAdd, Nat.reduceMul, c169, c171, c172, c173, c174, c175l, c175]; exact hK) ?_
           refine blockQ_n ?_
           refine blockQ_n ?_
           refine rg0 [2, 4, 9, 10, 23, 24, 25] [40, 376, 512] (fun K hK => by simp (decide := true) only [go_sem, Nat.reduceAdd, Nat.reduceMul, c169, c171, c172, c173, c174, c175l, c175]; exact hK) ?_
           refine AL_again (m := n168) (by omega) ?_
           exact .inr (.inr (.inr (⟨_, _, _, _, _, _, _, _, _, _, _, _, by omega, h, At_keep [2, 4, 9, 10, 23, 24, 25] [40, 376, 512]⟩)))
          ·
           refine AL_else (by simp (decide := true) only [go_sem, Nat.reduceAdd, Nat.reduceMul, c169, c171, c172, c173, c174]) ?_
           refine AL_skip ?_
           refine blockQ_n ?_
           refine blockQ_n ?_
           refine rg0 [2, 4, 9, 10, 23, 24, 25] [40, 376] (fun K hK => by simp (decide := true) only [go_sem, Nat.reduceAdd, Nat.reduceMul, c169, c171, c172, c173, c174]; exact hK) ?_
           refine AL_again (m := n168) (by omega) ?_
           exact .inr (.inl ⟨_, _, _, _, _, _, _, _, _, _, _, by omega, h, At_keep [2, 4, 9, 10, 23, 24, 25] [40, 376]⟩)
         ·
          refine rg1 [2, 4, 9, 10, 11, 23, 24, 25, 47] [40, 376] [(3, 51)] (fun K hK => by simp (decide := true) (maxSteps := 4000000) only [go_sem, Nat.reduceAdd, Nat.reduceMul, c169, c171]; exact hK) ?_
          refine AL_else (by simp (decide := true) only [go_sem, Nat.reduceAdd, Nat.reduceMul, c169, c171]) ?_
          refine AL_skip ?_
          refine blockQ_n ?_
          refine blockQ_n ?_
          refine rg0 [2, 4, 9, 10, 23, 24, 25] [40, 376] (fun K hK => by simp (decide := true) only [go_sem, Nat.reduceAdd, Nat.reduceMul, c169, c171]; exact hK) ?_
          refine AL_again (m := n168) (by omega) ?_
          exact .inr (.inl ⟨_, _, _, _, _, _, _, _, _, _, _, by omega, h, At_keep [2, 4, 9, 10, 23, 24, 25] [40, 376]⟩)
       ·
        obtain ⟨kk176, x2, x11, x12, x23, x24, x25, x30, x757000, x757001, x757002, x757003, x757004, x757005, x10, hkq177, h, hS⟩ := hS
        rcases kk176 with _ | n178
        · (rw [spec_KindChanges.j2] at h; cases h)
        rw [spec_KindChanges.j2] at h
        refine AW_at hS ?_
        rcases ite_orb h with ⟨c179, h⟩ | ⟨c179, h⟩
        ·
         refine AL_then (by simp (decide := true) only [go_sem, Nat.reduceAdd, Nat.reduceMul, c179]) ?_
         obtain ⟨c180, h⟩ := ite_l h
         have c180l := lim8 c180
         replace c180 := eq_true c180
         refine rg0 [2, 4, 9, 10, 23, 24, 25] [40, 376, 512] (fun K hK => by simp (decide := true) only [go_sem, Nat.reduceAdd, Nat.reduceMul, c179, c180l, c180]; exact hK) ?_
         refine blockQ_n ?_
         refine blockQ_n ?_
         refine rg0 [2, 4, 9, 10, 23, 24, 25] [40, 376, 512] (fun K hK => by simp (decide := true) only [go_sem, Nat.reduceAdd, Nat.reduceMul, c179, c180l, c180]; exact hK) ?_
         refine AL_again (m := n178) (by omega) ?_
         exact .inr (.inr (.inr (⟨_, _, _, _, _, _, _, _, _, _, _, _, by omega, h, At_keep [2, 4, 9, 10, 23, 24, 25] [40, 376, 512]⟩)))
        ·
         refine AL_else (by simp (decide := true) only [go_sem, Nat.reduceAdd, Nat.reduceMul, c179]) ?_
         refine AL_seq ?_
         rcases ite_orp h with ⟨c181, h⟩ | ⟨c181, h⟩
         ·
          obtain ⟨c182, h⟩ := ite_lp h
          obtain ⟨c183, h⟩ := ite_lp h
          refine rg1 [2, 4, 9, 10, 11, 23, 24, 25, 47] [40, 512] [(3, 51)] (fun K hK => by simp (decide := true) (maxSteps := 4000000) only [go_sem, Nat.reduceAdd, Nat.reduceMul, c179, c181, c182, c183]; exact hK) ?_
          rcases ite_orp h with ⟨c184, h⟩ | ⟨c184, h⟩
          ·
           refine AL_then (by simp (decide := true) only [go_sem, Nat.reduceAdd, Nat.reduceMul, c179, c181, c182, c183, c184]) ?_
           obtain ⟨c185, h⟩ := ite_l h
           have c185l := lim8 c185
           replace c185 := eq_true c185
           refine rg0 [2, 4, 9, 10, 23, 24, 25] [40, 512] (fun K hK => by simp (decide := true) only [go_sem, Nat.reduceAdd, Nat.reduceMul, c179, c181, c182, c183, c184, c185l, c185]; exact hK) ?_
           refine blockQ_n ?_
           refine blockQ_n ?_
           refine rg0 [2, 4, 9, 10, 23, 24, 25] [40, 512] (fun K hK => by simp (decide := true) only [go_sem, Nat.reduceAdd, Nat.reduceMul, c179, c181, c182, c183, c184, c185l, c185]; exact hK) ?_
           refine AL_again (m := n178) (by omega) ?_
           exact .inr (.inr (.inl ⟨_, _, _, _, _, _, _, _, _, _, _, by omega, h, At_keep [2, 4, 9, 10, 23, 24, 25] [40, 512]⟩))
          ·
           refine AL_else (by simp (decide := true) only [go_sem, Nat.reduceAdd, Nat.reduceMul, c179, c181, c182, c183, c184]) ?_
           refine AL_skip ?_
           refine blockQ_n ?_
           refine blockQ_n ?_
           refine rg0 [2, 4, 9, 10, 23, 24, 25] [40, 512] (fun K hK => by simp (decide := true) only [go_sem, Nat.reduceAdd, Nat.reduceMul, c179, c181, c182, c183, c184]; exact hK) ?_
           refine AL_again (m := n178) (by omega) ?_
           exact .inr (.inr (.inl ⟨_, _, _, _, _, _, _, _, _, _, _, by omega, h, At_keep [2, 4, 9, 10, 23, 24, 25] [40, 512]⟩))
         ·
          refine rg1 [2, 4, 9, 10, 11, 23, 24, 25, 47] [40, 512] [(3, 51)] (fun K hK => by simp (decide := true) (maxSteps := 4000000) only [go_sem, Nat.reduceAdd, Nat.reduceMul, c179, c181]; exact hK) ?_
          refine AL_else (by simp (decide := true) only [go_sem, Nat.reduceAdd, Nat.reduceMul, c179, c181]) ?_
          refine AL_skip ?_
          refine blockQ_n ?_
          refine blockQ_n ?_
          refine rg0 [2, 4, 9, 10, 23, 24, 25] [40, 512] (fun K hK => by simp (decide := true) only [go_sem, Nat.reduceAdd, Nat.reduceMul, c179, c181]; exact hK) ?_
          refine AL_again (m := n178) (by omega) ?_
          exact .inr (.inr (.inl ⟨_, _, _, _, _, _, _, _, _, _, _, by omega, h, At_keep [2, 4, 9, 10, 23, 24, 25] [40, 512]⟩))
       ·
        obtain ⟨kk186, x2, x11, x12, x23, x24, x25, x30, x757000, x757001, x757002, x757003, x757004, x757005, x9, x10, hkq187, h, hS⟩ := hS
        rcases kk186 with _ | n188
        · (rw [spec_KindChanges.j2] at h; cases h)
        rw [spec_KindChanges.j2] at h
        refine AW_at hS ?_
        rcases ite_orb h with ⟨c189, h⟩ | ⟨c189, h⟩
        ·
         refine AL_then (by simp (decide := true) only [go_sem, Nat.reduceAdd, Nat.reduceMul, c189]) ?_
         obtain ⟨c190, h⟩ := ite_l h
         have c190l := lim8 c190
         replace c190 := eq_true c190
         refine rg0 [2, 4, 9, 10, 23, 24, 25] [40, 376, 512] (fun K hK => by simp (decide := true) only [go_sem, Nat.reduceAdd, Nat.reduceMul, c189, c190l, c190]; exact hK) ?_
         refine blockQ_n ?_
         refine blockQ_n ?_
         refine rg0 [2, 4, 9, 10, 23, 24, 25] [40, 376, 512] (fun K hK => by simp (decide := true) only [go_sem, Nat.reduceAdd, Nat.reduceMul, c189, c190l, c190]; exact hK) ?_
         refine AL_again (m := n188) (by omega) ?_
         exact .inr (.inr (.inr (⟨_, _, _, _, _, _, _, _, _, _, _, _, by omega, h, At_keep [2, 4, 9, 10, 23, 24, 25] [40, 376, 512]⟩)))
        ·
         refine AL_else (by simp (decide := true) only [go_sem, Nat.reduceAdd, Nat.reduceMul, c189]) ?_
         refine AL_seq ?_
         rcases ite_orp h with ⟨c191, h⟩ | ⟨c191, h⟩
         ·
          obtain ⟨c192, h⟩ := ite_lp h
          obtain ⟨c193, h⟩ := ite_lp h
          refine rg1 [2, 4, 9, 10, 11, 23, 24, 25, 47] [40, 376, 512] [(3, 51)] (fun K hK => by simp (decide := true) (maxSteps := 4000000) only [go_sem, Nat.reduceAdd, Nat.reduceMul, c189, c191, c192, c193]; exact hK) ?_
          rcases ite_orp h with ⟨c194, h⟩ | ⟨c194, h⟩
          ·
           refine AL_then (by simp (decide := true) only [go_sem, Nat.reduceAdd, Nat.reduceMul, c189, c191, c192, c193, c194]) ?_
           obtain ⟨c195, h⟩ := ite_l h
           have c195l := lim8 c195
           replace c195 := eq_true c195
           refine rg0 [2, 4, 9, 10, 23, 24, 25] [40, 376, 512] (fun K hK => by simp (decide := true) only [go_sem, Nat.reduceAdd, Nat.reduceMul, c189, c191, c192, c193, c194, c195l, c195]; exact hK) ?_
           refine blockQ_n ?_
           refine blockQ_n ?_
           refine rg0 [2, 4, 9, 10, 23, 24, 25] [40, 376, 512] (fun K hK => by simp (decide := true) only [go_sem, Nat.reduceAdd, Nat.reduceMul, c189, c191, c192, c193, c194, c195l, c195]; exact hK) ?_
           refine AL_again (m := n188) (by omega) ?_
           exact .inr (.inr (.inr (⟨_, _, _, _, _, _, _, _, _, _, _, _, by omega, h, At_keep [2, 4, 9, 10, 23, 24, 25] [40, 376, 512]⟩)))
          ·
           refine AL_else (by simp (decide := true) only [go_sem, Nat.reduceAdd, Nat.reduceMul, c189, c191, c192, c193, c194]) ?_
           refine AL_skip ?_
           refine blockQ_n ?_
           refine blockQ_n ?_
           refine rg0 [2, 4, 9, 10, 23, 24, 25] [40, 376, 512] (fun K hK => by simp (decide := true) only [go_sem, Nat.reduceAdd, Nat.reduceMul, c189, c191, c192, c193, c194]; exact hK) ?_
           refine AL_again (m := n188) (by omega) ?_
           exact .inr (.inr (.inr (⟨_, _, _, _, _, _, _, _, _, _, _, _, by omega, h, At_keep [2, 4, 9, 10, 23, 24, 25] [40, 376, 512]⟩)))
         ·
          refine rg1 [2, 4, 9, 10, 11, 23, 24, 25, 47] [40, 376, 512] [(3, 51)] (fun K hK => by simp (decide := true) (maxSteps := 4000000) only [go_sem, Nat.reduceAdd, Nat.reduceMul, c189, c191]; exact hK) ?_
          refine AL_else (by simp (decide := true) only [go_sem, Nat.reduceAdd, Nat.reduceMul, c189, c191]) ?_
          refine AL_skip ?_
          refine blockQ_n ?_
          refine blockQ_n ?_
          refine rg0 [2, 4, 9, 10, 23, 24, 25] [40, 376, 512] (fun K hK => by simp (decide := true) only [go_sem, Nat.reduceAdd, Nat.reduceMul, c189, c191]; exact hK) ?_
          refine AL_again (m := n188) (by omega) ?_
          exact .inr (.inr (.inr (⟨_, _, _, _, _, _, _, _, _, _, _, _, by omega, h, At_keep [2, 4, 9, 10, 23, 24, 25] [40, 376, 512]⟩)))
     ·
      refine AL_else (by simp (decide := true) only [go_sem, Nat.reduceAdd, Nat.reduceMul, c151]) ?_
      refine AL_exit ?_
      repeat first | refine thenQ_x ?_ | refine blockQ_miss (by decide) ?_
      refine blockQ_hit ?_
      refine AL_seq ?_
      refine rg0 [6, 7, 8] [376, 512] (fun K hK => by simp (decide := true) only [go_sem, Nat.reduceAdd, Nat.reduceMul, c151]; exact hK) ?_
      replace h := Option.some.inj h
      obtain ⟨rfl, h1⟩ := Prod.mk.inj h
      obtain ⟨rfl, rfl⟩ := Prod.mk.inj h1
      refine AL_ret (fun _ => rfl) ?_
      exact retF_mk rfl (by exact ⟨trivial, trivial, trivial, trivial⟩) rfl (by exact ⟨rfl, rfl, rfl, trivial⟩) (by exact trivial) (by exact trivial)
/-! impl_GradeErrors : 65 -/
set_option maxRecDepth 100000 in
set_option maxHeartbeats 4000000 in
theorem impl_GradeErrors.V {k : Nat} {a0_0 : Int} {a0_1 : Int} {a0_2 : Int} {l0_3 : List Int} {l0_4 : List Int} {l0_5 : List Int} {a1_0 : Int} {a1_1 : Int} {a1_2 : Int} {l1_3 : List Int} {l1_4 : List Int} {l1_5 : List Int} {r1 : Int} {r2 : Int} {r3 : Bool} (h : impl_GradeErrors.f k a0_0 a0_1 a0_2 l0_3 l0_4 l0_5 a1_0 a1_1 a1_2 l1_3 l1_4 l1_5 = some (r1, r2, r3)) : FnV E 65 [.agg [.int .i64 a0_0, .int .i64 a0_1, .int .i64 a0_2, .sl false 1 (mp mkI l0_3), .sl false 1 (mp mkI l0_4), .sl false 1 (mp mkI l0_5)], .agg [.int .i64 a1_0, .int .i64 a1_1, .int .i64 a1_2, .sl false 1 (mp mkI l1_3), .sl false 1 (mp mkI l1_4), .sl false 1 (mp mkI l1_5)]] none (.tup [.int .i64 r1, .int .i64 r2, .bool r3]) [] none := by
 refine FnV_list E (rs := [.tmp 4, .tmp 5, .tmp 6]) Try.func65 (by rfl) rfl Try.ntmps65 rfl [] (by simp) rfl (by simp) rfl (fun us => ?_)
 simp only [argsL, memL, wrapL, wrap1, Nat.reduceAdd]
 unfold impl_GradeErrors.f at h
 refine AL_seq ?_
 refine rg0 [2, 3] [24, 32] (fun K hK => by simp (decide := true) only [go_sem, Nat.reduceAdd, Nat.reduceMul]; exact hK) ?_
 refine AL_seq ?_
 refine AL_seq ?_
 obtain ⟨t770, g1, h⟩ := bind_or h
 refine rg0 [2, 3, 14] [24, 32] (fun K hK => by simp (decide := true) only [go_sem, Nat.reduceAdd, Nat.reduceMul]; refine ⟨_, _, _, impl_areTwins.V g1, ?_⟩; simp (decide := true) only [go_sem, Nat.reduceAdd, Nat.reduceMul]; exact hK) ?_
 rcases ite_orb h with ⟨c2, h⟩ | ⟨c2, h⟩
 ·
  refine AL_else (by simp (decide := true) only [go_sem, Nat.reduceAdd, Nat.reduceMul, c2]) ?_
  refine AL_skip ?_
  refine AL_seq ?_
  refine rg0 [2, 3, 7, 8] [24, 32] (fun K hK => by simp (decide := true) only [go_sem, Nat.reduceAdd, Nat.reduceMul, c2]; exact hK) ?_
  refine AL_seq ?_
  refine AL_seq ?_
  refine rg0 [2, 3, 7, 8, 17, 18] [24, 32] (fun K hK => by simp (decide := true) only [go_sem, Nat.reduceAdd, Nat.reduceMul, c2]; exact hK) ?_
  refine AL_block ?_
  refine AL_loop (n := k) (fun n S => (∃ x7 x8 x17 x18 x769000 x769001 x769002 x769003 x769004 x769005 x770000 x770001 x770002 x770003 x770004 x770005, n ≤ k ∧ impl_GradeErrors.l0 n x7 x8 x17 x18 x769000 x769001 x769002 x769003 x769004 x769005 x770000 x770001 x770002 x770003 x770004 x770005 = some (r1, r2, r3) ∧ At [(2, .ptr 24 0 0), (3, .ptr 32 0 0), (7, .int .i64 x7), (8, .int .i64 x8), (17, .int .i64 x17), (18, .int .i64 x18)] [(24, some (.box [.int .i64 x769000, .int .i64 x769001, .int .i64 x769002, .sl false 1 (mp mkI x769003), .sl false 1 (mp mkI x769004), .sl false 1 (mp mkI x769005)])), (32, some (.box [.int .i64 x770000, .int .i64 x770001, .int .i64 x770002, .sl false 1 (mp mkI x770003), .sl false 1 (mp mkI x770004), .sl false 1 (mp mkI x770005)]))] S)) ?_ ?_
  · exact ⟨_, _, _, _, _, _, _, _, _, _, _, _, _, _, _, _, by omega, h, At_keep [2, 3, 7, 8, 17, 18] [24, 32]⟩
  ·
   intro n S hS
   obtain ⟨x7, x8, x17, x18, x769000, x769001, x769002, x769003, x769004, x769005, x770000, x770001, x770002, x770003, x770004, x770005, hkq3, h, hS⟩ := hS
   rcases n with _ | n4
   · (rw [impl_GradeErrors.l0] at h; cases h)
   rw [impl_GradeErrors.l0] at h
   refine AW_at hS ?_
   refine AL_seq ?_
   refine rg0 [2, 3, 7, 8, 17, 18, 19] [24, 32] (fun K hK => by simp (decide := true) only [go_sem, Nat.reduceAdd, Nat.reduceMul]; exact hK) ?_
   refine AL_seq ?_
   rcases ite_orp h with ⟨c5, h⟩ | ⟨c5, h⟩
   ·
    refine AL_then (by simp (decide := true) only [go_sem, Nat.reduceAdd, Nat.reduceMul, c5]) ?_
    refine AL_skip ?_
    refine AL_seq ?_
    refine AL_block ?_
    refine AL_seq ?_
    refine rg0 [2, 3, 7, 8, 9, 17, 18] [24, 32] (fun K hK => by simp (decide := true) only [go_sem, Nat.reduceAdd, Nat.reduceMul, c5]; exact hK) ?_
    refine AL_seq ?_
    obtain ⟨c6, h⟩ := ite_lp h
    obtain ⟨c7, h⟩ := ite_lp h
    obtain ⟨c8, h⟩ := ite_lp h
    obtain ⟨t773, g9, h⟩ := bind_or h
    refine rg0 [2, 3, 7, 8, 10, 17, 18] [24, 32] (fun K hK => by simp (decide := true) (maxSteps := 4000000) only [go_sem, Nat.reduceAdd, Nat.reduceMul, c5, c6, c7, c8]; refine ⟨_, _, _, impl_abs.V g9, ?_⟩; simp (decide := true) (maxSteps := 4000000) only [go_sem, Nat.reduceAdd, Nat.reduceMul, c5, c6, c7, c8]; exact hK) ?_
    refine AL_seq ?_
    refine rg0 [2, 3, 7, 8, 10, 17, 18] [24, 32] (fun K hK => by simp (decide := true) only [go_sem, Nat.reduceAdd, Nat.reduceMul, c5, c6, c7, c8]; exact hK) ?_
    refine rg0 [2, 3, 7, 8, 17, 18] [24, 32] (fun K hK => by simp (decide := true) only [go_sem, Nat.reduceAdd, Nat.reduceMul, c5, c6, c7, c8]; exact hK) ?_
    refine blockQ_n ?_
    refine rg0 [2, 3, 7, 8, 17, 18] [24, 32] (fun K hK => by simp (decide := true) only [go_sem, Nat.reduceAdd, Nat.reduceMul, c5, c6, c7, c8]; exact hK) ?_
    refine AL_again (m := n4) (by omega) ?_
    exact ⟨_, _, _, _, _, _, _, _, _, _, _, _, _, _, _, _, by omega, h, At_keep [2, 3, 7, 8, 17, 18] [24, 32]⟩
   ·
    refine AL_else (by simp (decide := true) only [go_sem, Nat.reduceAdd, Nat.reduceMul, c5]) ?_
    refine AL_exit ?_
    repeat first | refine thenQ_x ?_ | refine blockQ_miss (by decide) ?_
    refine blockQ_hit ?_
    refine AL_seq ?_
    refine rg0 [4, 5, 6] [] (fun K hK => by simp (decide := true) only [go_sem, Nat.reduceAdd, Nat.reduceMul, c5]; exact hK) ?_
    replace h := Option.some.inj h
    obtain ⟨rfl, h1⟩ := Prod.mk.inj h
    obtain ⟨rfl, rfl⟩ := Prod.mk.inj h1
    refine AL_ret (fun _ => rfl) ?_
    exact retF_mk rfl (by exact ⟨trivial, trivial, trivial, trivial⟩) rfl (by exact ⟨rfl, rfl, rfl, trivial⟩) (by exact trivial) (by exact trivial)
 ·
  refine AL_then (by simp (decide := true) only [go_sem, Nat.reduceAdd, Nat.reduceMul, c2]) ?_
  refine AL_seq ?_
  refine rg0 [4, 5, 6] [] (fun K hK => by simp (decide := true) only [go_sem, Nat.reduceAdd, Nat.reduceMul, c2]; exact hK) ?_
  replace h := Option.some.inj h
  obtain ⟨rfl, h1⟩ := Prod.mk.inj h
  obtain ⟨rfl, rfl⟩ := Prod.mk.inj h1
  refine AL_ret (fun _ => rfl) ?_
  exact retF_mk rfl (by exact ⟨trivial, trivial, trivial, trivial⟩) rfl (by exact ⟨rfl, rfl, rfl, trivial⟩) (by exact trivial) (by exact trivial)
/-! spec_GradeErrors : 66 -/
set_option maxRecDepth 100000 in
set_option maxHeartbeats 4000000 in
theorem spec_GradeErrors.V {k : Nat} {a0_0 : Int} {a0_1 : Int} {a0_2 : Int} {l0_3 : List Int} {l0_4 : List Int} {l0_5 : List Int} {a1_0 : Int} {a1_1 : Int} {a1_2 : Int} {l1_3 : List Int} {l1_4 : List Int} {l1_5 : List Int} {r1 : Int} {r2 : Int} {r3 : Bool} (h : spec_GradeErrors.f k a0_0 a0_1 a0_2 l0_3 l0_4 l0_5 a1_0 a1_1 a1_2 l1_3 l1_4 l1_5 = some (r1, r2, r3)) : FnV E 66 [.agg [.int .i64 a0_0, .int .i64 a0_1, .int .i64 a0_2, .sl false 1 (mp mkI l0_3), .sl false 1 (mp mkI l0_4), .sl false 1 (mp mkI l0_5)], .agg [.int .i64 a1_0, .int .i64 a1_1, .int .i64 a1_2, .sl false 1 (mp mkI l1_3), .sl false 1 (mp mkI l1_4), .sl false 1 (mp mkI l1_5)]] none (.tup [.int .i64 r1, .int .i64 r2, .bool r3]) [] none := by
 refine FnV_list E (rs := [.tmp 4, .tmp 5, .tmp 6]) Try.func66 (by rfl) rfl Try.ntmps66 rfl [] (by simp) rfl (by simp) rfl (fun us => ?_)
 simp only [argsL, memL, wrapL, wrap1, Nat.reduceAdd]
 unfold spec_GradeErrors.f at h
 refine AL_seq ?_
 refine rg0 [2, 3] [24, 32] (fun K hK => by simp (decide := true) only [go_sem, Nat.reduceAdd, Nat.reduceMul]; exact hK) ?_
 refine AL_seq ?_
 refine AL_seq ?_
 obtain ⟨t776, g1, h⟩ := bind_or h
 refine rg0 [2, 3, 15] [24, 32] (fun K hK => by simp (decide := true) only [go_sem, Nat.reduceAdd, Nat.reduceMul]; refine ⟨_, _, _, spec_bhTwo.V g1, ?_⟩; simp (decide := true) only [go_sem, Nat.reduceAdd, Nat.reduceMul]; exact hK) ?_
 rcases ite_orb h with ⟨c2, h⟩ | ⟨c2, h⟩
 ·
  refine AL_else (by simp (decide := true) only [go_sem, Nat.reduceAdd, Nat.reduceMul, c2]) ?_
  refine AL_skip ?_
  refine AL_seq ?_
  refine rg0 [2, 3, 7, 8] [24, 32] (fun K hK => by simp (decide := true) only [go_sem, Nat.reduceAdd, Nat.reduceMul, c2]; exact hK) ?_
  refine AL_seq ?_
  refine AL_seq ?_
  refine rg0 [3, 7, 8, 17, 18, 19] [32] (fun K hK => by simp (decide := true) only [go_sem, Nat.reduceAdd, Nat.reduceMul, c2]; exact hK) ?_
  refine AL_block ?_
  refine AL_loop (n := k) (fun n S => (∃ x7 x8 x17 x18 x19 x776000 x776001 x776002 x776003 x776004 x776005, n ≤ k ∧ spec_GradeErrors.l0 n x7 x8 x17 x18 x19 x776000 x776001 x776002 x776003 x776004 x776005 = some (r1, r2, r3) ∧ At [(3, .ptr 32 0 0), (7, .int .i64 x7), (8, .int .i64 x8), (17, .sl false 1 (mp mkI x17)), (18, .int .i64 x18), (19, .int .i64 x19)] [(32, some (.box [.int .i64 x776000, .int .i64 x776001, .int .i64 x776002, .sl false 1 (mp mkI x776003), .sl false 1 (mp mkI x776004), .sl false 1 (mp mkI x776005)]))] S)) ?_ ?_
  · exact ⟨_, _, _, _, _, _, _, _, _, _, _, by omega, h, At_keep [3, 7, 8, 17, 18, 19] [32]⟩
  ·
   intro n S hS
   obtain ⟨x7, x8, x17, x18, x19, x776000, x776001, x776002, x776003, x776004, x776005, hkq3, h, hS⟩ := hS
   rcases n with _ | n4
   · (rw [spec_GradeErrors.l0] at h; cases h)
   rw [spec_GradeErrors.l0] at h
   refine AW_at hS ?_
   refine AL_seq ?_
   refine rg0 [3, 7, 8, 17, 18, 19, 20] [32] (fun K hK => by simp (decide := true) only [go_sem, Nat.reduceAdd, Nat.reduceMul]; exact hK) ?_
   refine AL_seq ?_
   rcases ite_orp h with ⟨c5, h⟩ | ⟨c5, h⟩
   ·
    refine AL_then (by simp (decide := true) only [go_sem, Nat.reduceAdd, Nat.reduceMul, c5]) ?_
    refine AL_skip ?_
    refine AL_seq ?_
    refine AL_block ?_
    refine AL_seq ?_
    obtain ⟨c6, h⟩ := ite_lp h
    obtain ⟨c7, h⟩ := ite_lp h
    refine rg0 [3, 7, 8, 9, 10, 17, 18, 19] [32] (fun K hK => by simp (decide := true) only [go_sem, Nat.reduceAdd, Nat.reduceMul, c5, c6, c7]; exact hK) ?_
    refine AL_seq ?_
    obtain ⟨c8, h⟩ := ite_lp h
    obtain ⟨t779, g9, h⟩ := bind_or h
    refine rg0 [3, 7, 8, 11, 17, 18, 19] [32] (fun K hK => by simp (decide := true) only [go_sem, Nat.reduceAdd, Nat.reduceMul, c5, c6, c7, c8]; refine ⟨_, _, _, spec_l1Abs.V g9, ?_⟩; simp (decide := true) only [go_sem, Nat.reduceAdd, Nat.reduceMul, c5, c6, c7, c8]; exact hK) ?_
    refine AL_seq ?_
    refine rg0 [3, 7, 8, 11, 17, 18, 19] [32] (fun K hK => by simp (decide := true) only [go_sem, Nat.reduceAdd, Nat.reduceMul, c5, c6, c7, c8]; exact hK) ?_
    refine rg0 [3, 7, 8, 17, 18, 19] [32] (fun K hK => by simp (decide := true) only [go_sem, Nat.reduceAdd, Nat.reduceMul, c5, c6, c7, c8]; exact hK) ?_
    refine blockQ_n ?_
    refine rg0 [3, 7, 8, 17, 18, 19] [32] (fun K hK => by simp (decide := true) only [go_sem, Nat.reduceAdd, Nat.reduceMul, c5, c6, c7, c8]; exact hK) ?_
    refine AL_again (m := n4) (by omega) ?_
    exact ⟨_, _, _, _, _, _, _, _, _, _, _, by omega, h, At_keep [3, 7, 8, 17, 18, 19] [32]⟩
   ·
    refine AL_else (by simp (decide := true) only [go_sem, Nat.reduceAdd, Nat.reduceMul, c5]) ?_
    refine AL_exit ?_
    repeat first | refine thenQ_x ?_ | refine blockQ_miss (by decide) ?_
    refine blockQ_hit ?_
    refine AL_seq ?_
    refine rg0 [4, 5, 6] [] (fun K hK => by simp (decide := true) only [go_sem, Nat.reduceAdd, Nat.reduceMul, c5]; exact hK) ?_
    replace h := Option.some.inj h
    obtain ⟨rfl, h1⟩ := Prod.mk.inj h
    obtain ⟨rfl, rfl⟩ := Prod.mk.inj h1
    refine AL_ret (fun _ => rfl) ?_
    exact retF_mk rfl (by exact ⟨trivial, trivial, trivial, trivial⟩) rfl (by exact ⟨rfl, rfl, rfl, trivial⟩) (by exact trivial) (by exact trivial)
 ·
  refine AL_then (by simp (decide := true) only [go_sem, Nat.reduceAdd, Nat.reduceMul, c2]) ?_
  refine AL_seq ?_
  refine rg0 [4, 5, 6] [] (fun K hK => by simp (decide := true) only [go_sem, Nat.reduceAdd, Nat.reduceMul, c2]; exact hK) ?_
  replace h := Option.some.inj h
  obtain ⟨rfl, h1⟩ := Prod.mk.inj h
  obtain ⟨rfl, rfl⟩ := Prod.mk.inj h1
  refine AL_ret (fun _ => rfl) ?_
  exact retF_mk rfl (by exact ⟨trivial, trivial, trivial, trivial⟩) rfl (by exact ⟨rfl, rfl, rfl, trivial⟩) (by exact trivial) (by exact trivial)
/-! laws_pIn : 67 -/
set_option maxRecDepth 100000 in
set_option maxHeartbeats 4000000 in
theorem laws_pIn.V {k : Nat} {l0 : List Int} {a1 : Int} {r : Bool} (h : laws_pIn.f k l0 a1 = some r) : FnV E 67 [.sl false 1 (mp mkI l0), .int .i64 a1] none (.bool r) [] none := by
 refine FnV_list E (rs := [.tmp 4]) Try.func67 (by rfl) rfl Try.ntmps67 rfl [] (by simp) rfl (by simp) rfl (fun us => ?_)
 simp only [argsL, memL, wrapL, wrap1, Nat.reduceAdd]
 unfold laws_pIn.f at h
 refine AL_seq ?_
 refine rg0 [0, 1] [] (fun K hK => by simp (decide := true) only [go_sem, Nat.reduceAdd, Nat.reduceMul]; exact hK) ?_
 refine AL_seq ?_
 refine AL_seq ?_
 refine rg0 [1, 7, 8, 9] [] (fun K hK => by simp (decide := true) only [go_sem, Nat.reduceAdd, Nat.reduceMul]; exact hK) ?_
 refine AL_block ?_
 refine AL_loop (n := k) (fun n S => (∃ x1 x7 x8 x9, n ≤ k ∧ laws_pIn.l0 n x1 x7 x8 x9 = some r ∧ At [(1, .int .i64 x1), (7, .sl false 1 (mp mkI x7)), (8, .int .i64 x8), (9, .int .i64 x9)] [] S)) ?_ ?_
 · exact ⟨_, _, _, _, by omega, h, At_keep [1, 7, 8, 9] []⟩
 ·
  intro n S hS
  obtain ⟨x1, x7, x8, x9, hkq1, h, hS⟩ := hS
  rcases n with _ | n2
  · (rw [laws_pIn.l0] at h; cases h)
  rw [laws_pIn.l0] at h
  refine AW_at hS ?_
  refine AL_seq ?_
  refine rg0 [1, 7, 8, 9, 10] [] (fun K hK => by simp (decide := true) only [go_sem, Nat.reduceAdd, Nat.reduceMul]; exact hK) ?_
  refine AL_seq ?_
  rcases ite_orp h with ⟨c3, h⟩ | ⟨c3, h⟩
  ·
   refine AL_then (by simp (decide := true) only [go_sem, Nat.reduceAdd, Nat.reduceMul, c3]) ?_
   refine AL_skip ?_
   refine AL_seq ?_
   refine AL_block ?_
   refine AL_seq ?_
   obtain ⟨c4, h⟩ := ite_lp h
   obtain ⟨c5, h⟩ := ite_lp h
   refine rg0 [1, 6, 7, 8, 9] [] (fun K hK => by simp (decide := true) only [go_sem, Nat.reduceAdd, Nat.reduceMul, c3, c4, c5]; exact hK) ?_
   refine AL_seq ?_
   refine rg0 [1, 7, 8, 9, 15] [] (fun K hK => by simp (decide := true) only [go_sem, Nat.reduceAdd, Nat.reduceMul, c3, c4, c5]; exact hK) ?_
   rcases ite_orp h with ⟨c6, h⟩ | ⟨c6, h⟩
   ·
    refine AL_then (by simp (decide := true) only [go_sem, Nat.reduceAdd, Nat.reduceMul, c3, c4, c5, c6]) ?_
    refine AL_seq ?_
    refine rg0 [4] [] (fun K hK => by simp (decide := true) only [go_sem, Nat.reduceAdd, Nat.reduceMul, c3, c4, c5, c6]; exact hK) ?_
    obtain rfl := Option.some.inj h
    refine AL_ret (fun _ => rfl) ?_
    exact retF_mk rfl (by exact ⟨trivial, trivial⟩) rfl (by exact rfl) (by exact trivial) (by exact trivial)
   ·
    refine AL_else (by simp (decide := true) only [go_sem, Nat.reduceAdd, Nat.reduceMul, c3, c4, c5, c6]) ?_
    refine AL_skip ?_
    refine blockQ_n ?_
    refine rg0 [1, 7, 8, 9] [] (fun K hK => by simp (decide := true) only [go_sem, Nat.reduceAdd, Nat.reduceMul, c3, c4, c5, c6]; exact hK) ?_
    refine AL_again (m := n2) (by omega) ?_
    exact ⟨_, _, _, _, by omega, h, At_keep [1, 7, 8, 9] []⟩
  ·
   refine AL_else (by simp (decide := true) only [go_sem, Nat.reduceAdd, Nat.reduceMul, c3]) ?_
   refine AL_exit ?_
   repeat first | refine thenQ_x ?_ | refine blockQ_miss (by decide) ?_
   refine blockQ_hit ?_
   refine AL_seq ?_
   refine rg0 [4] [] (fun K hK => by simp (decide := true) only [go_sem, Nat.reduceAdd, Nat.reduceMul, c3]; exact hK) ?_
   obtain rfl := Option.some.inj h
   refine AL_ret (fun _ => rfl) ?_
   exact retF_mk rfl (by exact ⟨trivial, trivial⟩) rfl (by exact rfl) (by exact trivial) (by exact trivial)
/-! spec_DrawUpdateAll : 68 -/
set_option maxRecDepth 100000 in
set_option maxHeartbeats 4000000 in
theorem spec_DrawUpdateAll.V {k : Nat} {l0 : List Int} {r1 : Int} {r2 : Int} {r3 : Int} {r4 : List Int} {r5 : List Int} {r6 : List Int} {r7 : List (S68)} {r8 : Int} (h : spec_DrawUpdateAll.f k l0 = some (r1, r2, r3, r4, r5, r6, r7, r8)) : FnV E 68 [.sl false 1 (mp mkB l0)] none (.tup [.agg [.int .i64 r1, .int .i64 r2, .int .i64 r3, .sl true 1 (mp mkI r4), .sl true 1 (mp mkI r5), .sl true 1 (mp mkI r6)], .sl true 5 (mp mkS68 r7), .int .i64 r8]) [] none := by
 refine FnV_list E (rs := [.cell 2 27, .tmp 3, .tmp 4]) Try.func68 (by rfl) rfl Try.ntmps68 rfl [] (by simp) rfl (by simp) rfl (fun us => ?_)
 simp only [argsL, memL, wrapL, wrap1, Nat.reduceAdd]
 unfold spec_DrawUpdateAll.f at h
 refine AL_seq ?_
 refine rg0 [0, 2] [24] (fun K hK => by simp (decide := true) only [go_sem, Nat.reduceAdd, Nat.reduceMul]; exact hK) ?_
 refine AL_seq ?_
 refine rg0 [2, 5] [24, 80] (fun K hK => by simp (decide := true) only [go_sem, Nat.reduceAdd, Nat.reduceMul]; exact hK) ?_
 refine AL_seq ?_
 obtain ⟨⟨t783, t784, t785, t786, t789, t792, t795, t796⟩, g1, h⟩ := bind_or h
 dsimp only at h
 refine rg0 [2, 5, 6] [24, 56, 80] (fun K hK => by simp (decide := true) only [go_sem, Nat.reduceAdd, Nat.reduceMul]; refine ⟨_, _, _, spec_l1Cur_anyModel.V g1, ?_⟩; simp (decide := true) only [go_sem, Nat.reduceAdd, Nat.reduceMul]; exact hK) ?_
 refine AL_seq ?_
 obtain ⟨⟨t798, t801, t802⟩, g2, h⟩ := bind_or h
 dsimp only at h
 obtain ⟨⟨t806, t807, t808⟩, g3, h⟩ := bind_or h
 dsimp only at h
 refine rg2 [2, 3, 4] [24] [] ⟨[12], [16, 19], [80]⟩ [] (fun K hK => by simp (decide := true) (maxSteps := 4000000) only [go_sem, Nat.reduceAdd, Nat.reduceMul]; refine ⟨_, _, _, spec_l1Cur_holes.V g2, ?_⟩; simp (decide := true) (maxSteps := 4000000) only [go_sem, Nat.reduceAdd, Nat.reduceMul]; refine ⟨_, _, _, spec_l1Cur_among.V g3, ?_⟩; simp (decide := true) (maxSteps := 4000000) only [go_sem, Nat.reduceAdd, Nat.reduceMul]; exact hK) ?_
 replace h := Option.some.inj h
 obtain ⟨rfl, h1⟩ := Prod.mk.inj h
 obtain ⟨rfl, h2⟩ := Prod.mk.inj h1
 obtain ⟨rfl, h3⟩ := Prod.mk.inj h2
 obtain ⟨rfl, h4⟩ := Prod.mk.inj h3
 obtain ⟨rfl, h5⟩ := Prod.mk.inj h4
 obtain ⟨rfl, h6⟩ := Prod.mk.inj h5
 obtain ⟨rfl, rfl⟩ := Prod.mk.inj h6
 refine AL_ret (fun _ => rfl) ?_
 exact retF_mk rfl (by exact ⟨(by simp), trivial, trivial, trivial⟩) rfl (by exact ⟨⟨rfl, rfl, rfl, rfl, rfl, rfl, trivial⟩, rfl, rfl, trivial⟩) (by exact trivial) (by exact trivial)
/-! impl_copyModel : 118 -/
set_option maxRecDepth 100000 in
set_option maxHeartbeats 4000000 in
theorem impl_copyModel.V {a0_0 : Int} {a0_1 : Int} {a0_2 : Int} {l0_3 : List Int} {l0_4 : List Int} {l0_5 : List Int} {r1 : Int} {r2 : Int} {r3 : Int} {r4 : List Int} {r5 : List Int} {r6 : List Int} (h : impl_copyModel.f a0_0 a0_1 a0_2 l0_3 l0_4 l0_5 = some (r1, r2, r3, r4, r5, r6)) : FnV E 118 [.agg [.int .i64 a0_0, .int .i64 a0_1, .int .i64 a0_2, .sl false 1 (mp mkI l0_3), .sl false 1 (mp mkI l0_4), .sl false 1 (mp mkI l0_5)]] none (.agg [.int .i64 r1, .int .i64 r2, .int .i64 r3, .sl true 1 (mp mkI r4), .sl true 1 (mp mkI r5), .sl true 1 (mp mkI r6)]) [] none := by
 refine FnV_list E (rs := [.cell 2 27]) Try.func118 (by rfl) rfl Try.ntmps118 rfl [] (by simp) rfl (by simp) rfl (fun us => ?_)
 simp only [argsL, memL, wrapL, wrap1, Nat.reduceAdd]
 unfold impl_copyModel.f at h
 refine AL_seq ?_
 refine rg0 [1, 2] [16, 24] (fun K hK => by simp (decide := true) only [go_sem, Nat.reduceAdd, Nat.reduceMul]; exact hK) ?_
 refine AL_seq ?_
 obtain ⟨y811, hy811, h⟩ := bind_or h
 obtain rfl := Option.some.inj hy811
 obtain ⟨c1, h⟩ := ite_l h
 try simp only [List.length_nil] at c1
 have c1l := lim8b c1
 try simp only [List.length_cons, List.length_nil, List.length_append, Nat.reduceAdd, nlit] at c1
 replace c1 := eq_true c1
 refine rg2 [1, 2] [16, 24, 56] [3] ⟨[], [], []⟩ [] (fun K hK => by simp (decide := true) only [go_sem, Nat.reduceAdd, Nat.reduceMul, c1l, c1]; exact hK) ?_
 refine AL_seq ?_
 obtain ⟨y817, hy817, h⟩ := bind_or h
 obtain rfl := Option.some.inj hy817
 obtain ⟨c2, h⟩ := ite_l h
 try simp only [List.length_nil] at c2
 have c2l := lim8b c2
 try simp only [List.length_cons, List.length_nil, List.length_append, Nat.reduceAdd, nlit] at c2
 replace c2 := eq_true c2
 refine rg2 [1, 2] [16, 24, 56, 96] [8] ⟨[], [], []⟩ [] (fun K hK => by simp (decide := true) only [go_sem, Nat.reduceAdd, Nat.reduceMul, c1l, c1, c2l, c2]; exact hK) ?_
 refine AL_seq ?_
 obtain ⟨y823, hy823, h⟩ := bind_or h
 obtain rfl := Option.some.inj hy823
 obtain ⟨c3, h⟩ := ite_l h
 try simp only [List.length_nil] at c3
 have c3l := lim8b c3
 try simp only [List.length_cons, List.length_nil, List.length_append, Nat.reduceAdd, nlit] at c3
 replace c3 := eq_true c3
 refine rg2 [1, 2] [16, 24, 56, 96, 136] [13] ⟨[], [], []⟩ [] (fun K hK => by simp (decide := true) only [go_sem, Nat.reduceAdd, Nat.reduceMul, c1l, c1, c2l, c2, c3l, c3]; exact hK) ?_
 refine AL_seq ?_
 refine rg0 [2] [24, 56, 96, 136] (fun K hK => by simp (decide := true) only [go_sem, Nat.reduceAdd, Nat.reduceMul, c1l, c1, c2l, c2, c3l, c3]; exact hK) ?_
 replace h := Option.some.inj h
 obtain ⟨rfl, h1⟩ := Prod.mk.inj h
 obtain ⟨rfl, h2⟩ := Prod.mk.inj h1
 obtain ⟨rfl, h3⟩ := Prod.mk.inj h2
 obtain ⟨rfl, h4⟩ := Prod.mk.inj h3
 obtain ⟨rfl, rfl⟩ := Prod.mk.inj h4
 refine AL_ret (fun _ => rfl) ?_
 exact retF_mk rfl (by exact ⟨(by simp), trivial⟩) rfl (by exact ⟨rfl, rfl, rfl, rfl, rfl, rfl, trivial⟩) (by exact trivial) (by exact trivial)
set_option maxRecDepth 100000 in
set_option maxHeartbeats 4000000 in
theorem impl_copyModel.W {a0_0 : Int} {a0_1 : Int} {a0_2 : Int} {l0_3 : List Int} {l0_4 : List Int} {l0_5 : List Int} {r1 : Int} {r2 : Int} {r3 : Int} {r4 : List Int} {r5 : List Int} {r6 : List Int} (h : impl_copyModel.f a0_0 a0_1 a0_2 l0_3 l0_4 l0_5 = some (r1, r2, r3, r4, r5, r6)) : FnV E 118 [.agg [.int .i64 a0_0, .int .i64 a0_1, .int .i64 a0_2, .sl false 1 (mp mkI l0_3), .sl false 1 (mp mkI l0_4), .sl false 1 (mp mkI l0_5)]] none (.agg [.int .i64 r1, .int .i64 r2, .int .i64 r3, .ref 0, .ref 1, .ref 2]) [(3, 1, mp mkI r4), (3, 1, mp mkI r5), (3, 1, mp mkI r6)] none := by
 refine FnV_list E (rs := [.cell 2 27]) Try.func118 (by rfl) rfl Try.ntmps118 rfl [56, 96, 136] (by simp) rfl (by simp) rfl (fun us => ?_)
 simp only [argsL, memL, wrapL, wrap1, Nat.reduceAdd]
 unfold impl_copyModel.f at h
 refine AL_seq ?_
 refine rg0 [1, 2] [16, 24] (fun K hK => by simp (decide := true) only [go_sem, Nat.reduceAdd, Nat.reduceMul]; exact hK) ?_
 refine AL_seq ?_
 obtain ⟨y811, hy811, h⟩ := bind_or h
 obtain rfl := Option.some.inj hy811
 obtain ⟨c1, h⟩ := ite_l h
 try simp only [List.length_nil] at c1
 have c1l := lim8b c1
 try simp only [List.length_cons, List.length_nil, List.length_append, Nat.reduceAdd, nlit] at c1
 replace c1 := eq_true c1
 refine rg2 [1, 2] [16, 24, 56] [3] ⟨[], [], []⟩ [] (fun K hK => by simp (decide := true) only [go_sem, Nat.reduceAdd, Nat.reduceMul, c1l, c1]; exact hK) ?_
 refine AL_seq ?_
 obtain ⟨y817, hy817, h⟩ := bind_or h
 obtain rfl := Option.some.inj hy817
 obtain ⟨c2, h⟩ := ite_l h
 try simp only [List.length_nil] at c2
 have c2l := lim8b c2
 try simp only [List.length_cons, List.length_nil, List.length_append, Nat.reduceAdd, nlit] at c2
 replace c2 := eq_true c2
 refine rg2 [1, 2] [16, 24, 56, 96] [8] ⟨[], [], []⟩ [] (fun K hK => by simp (decide := true) only [go_sem, Nat.reduceAdd, Nat.reduceMul, c1l, c1, c2l, c2]; exact hK) ?_
 refine AL_seq ?_
 obtain ⟨y823, hy823, h⟩ := bind_or h
 obtain rfl := Option.some.inj hy823
 obtain ⟨c3, h⟩ := ite_l h
 try simp only [List.length_nil] at c3
 have c3l := lim8b c3
 try simp only [List.length_cons, List.length_nil, List.length_append, Nat.reduceAdd, nlit] at c3
 replace c3 := eq_true c3
 refine rg2 [1, 2] [16, 24, 56, 96, 136] [13] ⟨[], [], []⟩ [] (fun K hK => by simp (decide := true) only [go_sem, Nat.reduceAdd, Nat.reduceMul, c1l, c1, c2l, c2, c3l, c3]; exact hK) ?_
 refine AL_seq ?_
 refine rg0 [2] [24, 56, 96, 136] (fun K hK => by simp (decide := true) only [go_sem, Nat.reduceAdd, Nat.reduceMul, c1l, c1, c2l, c2, c3l, c3]; exact hK) ?_
 replace h := Option.some.inj h
 obtain ⟨rfl, h1⟩ := Prod.mk.inj h
 obtain ⟨rfl, h2⟩ := Prod.mk.inj h1
 obtain ⟨rfl, h3⟩ := Prod.mk.inj h2
 obtain ⟨rfl, h4⟩ := Prod.mk.inj h3
 obtain ⟨rfl, rfl⟩ := Prod.mk.inj h4
 refine AL_ret (fun _ => rfl) ?_
 exact retF_mk rfl (by exact ⟨(by simp), trivial⟩) rfl (by exact ⟨rfl, rfl, rfl, rfl, rfl, rfl, trivial⟩) (by exact ⟨rfl, rfl, rfl, trivial⟩) (by exact trivial)
end Go.Proofs.Ytfakhgopbhnocaa.PFnEstimates
