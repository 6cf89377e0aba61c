/- Each function's run, shown to compute what its plain function says. -/
import Derived.Test.YtfakhgopbhnocaaVFnEstimatesp2
import Derived.KernelRfl
set_option linter.unusedVariables false
set_option linter.unusedSimpArgs false
namespace Go.Proofs.Ytfakhgopbhnocaa.PFnEstimates
open Go Go.Proofs.YtfakhgopbhnocaaVM Go.Proofs.Ytfakhgopbhnocaa.VE Go.RowKit Go.Proofs.YtfakhgopbhnocaaW.PrintWords Go.Proofs.YtfakhgopbhnocaaW.PrintLast Go.Proofs.YtfakhgopbhnocaaW.PrintMore
attribute [local go_sem] runF_nil runF_cons kG_go kG_store kG_skip kG_pass kS_go kS_call kQ_go flagB_no inFl_some inFl_store hasB_nil hasB_hit hasB_miss flagB_eq clB_no wrB_no clB_yes wrB_store wrB_call opdL_load opdL_index opdL_len nm0_eq nmV_nil nmV_cons pt0_ptr pt0_int pt0_bool pt0_sl pt0_nil pt0_ref pt0_agg guardB_none guardB_some gL_some gB_true gB_false gB_skip look_hit look_miss tg_hit tg_miss bg_hit bg_miss ev_tmp ev_int ev_bool ev_nil ev_agg sQ_some stO_move stO_assign stO_pick stO_un stO_bin stO_field stO_load stO_index stO_extract stO_conv stO_box stO_alloc stO_len stO_call qUn_not qUn_neg qPick_true qPick_false qField_ptr qField_fat qLd_some qConv_some sB_some sA_some qLen_sl qLen_nil boxV_agg boxV_int boxV_bool boxV_nil boxV_sl boxV_ref qBin_add qBin_sub qBin_mul qBin_quo qBin_rem qBin_and qBin_or qBin_shr qBin_shl qBin_eql qBin_neq qBin_lss qBin_leq qBin_gtr qBin_geq qBin_beq qBin_bne qEx_tup keepT_cons keepB_nil keepB_cons keepT_nil qLoad_fat1 qLoad_fat2 qLoad_ptr ldB_box1 ld1_some ldB_box2 ldB_row ldR_1 ldR_2 unc_int unc_bool unc_nil unc_ref unc_sl unc_con_sl unc_con_nil rt_int rt_bool rt_nil rt_sl qIndex_sl ixT_some ixS_some qIndex_ref ixR_some ixR1_some argPtr_nil argPtr_ptr argPtr_int argPtr_bool argPtr_sl argPtr_ref argPtr_nl argPtr_agg memIn_none memIn_some mi1_box mi2_some viewL_int viewL_bool viewL_nil viewL_sl viewL_ref vwR_some cons2_some viewLs_nil viewLs_cons viewAs_nil viewAs_cons viewA_int viewA_bool viewA_nil viewA_sl viewA_ref viewA_agg agg1_some viewA_ptr sC_go sC2_some renT_int renT_bool renT_nil renT_sl renT_agg renT_tup renA_int renA_bool renA_nil renA_sl renA_agg renL_int renL_bool renL_nil renL_sl rowsD_nil memD_none memD_some md1_box mergeL_nil mergeL_int mergeL_bool mergeL_sl mergeL_nl stO_build sP_some sF_some fillV_nil fillV_cons fl1_go stO_nilCheck qNil_ptr stO_min qMin_int stO_max qMax_int stO_make sMe_some sM_some stO_slice sSe_some sS_own sS_fix rowsV_nil rowsV_cons rv1_some rowV_int rowV_bool rowV_nil rowV_sl rowV_agg stO_append sApp_new sApp_on qStore_eq qS2_some qS1_some qApp_eq qA0_some qA1_some qA2_nil qA2_ref stored1_ptr st1_box st1_row setL_nil setL_cons qA3_some absB_t absB_b0 absB_b1 absB_nil noBB_row noBB_box noTB_int noAB_int noLB_int killT_int killA_int killL_int noTB_bool noAB_bool noLB_bool killT_bool killA_bool killL_bool noTB_nil noAB_nil noLB_nil killT_nil killA_nil killL_nil noTB_und noAB_und noLB_und killT_und killA_und killL_und noTB_skip noAB_skip noLB_skip killT_skip killA_skip killL_skip noTB_sl noAB_sl noLB_sl killT_sl killA_sl killL_sl noTB_fat noAB_fat noLB_fat killT_fat killA_fat killL_fat noTB_ref noAB_ref noLB_ref killT_ref0 killT_ref killA_ref0 killA_ref killL_ref0 killL_ref noTB_ptr noAB_ptr noLB_ptr killT_ptr0 killT_ptr killA_ptr0 killA_ptr killL_ptr0 killL_ptr noTB_agg noAB_agg noTB_tup noLB_con_sl noLB_con_nil killT_agg killA_agg killT_tup killL_con_sl killL_con_nil killTL_nil killTL_cons killBL_nil killBL_none killBL_row killBL_box shut1_int shut1_bool shut1_nil shut1_sl scal_int scal_bool known1_int known1_bool known1_nil known1_sl known1_ref opdL_call nm0_func intsOf_nil intsOf_cons qBin_eqA qBin_neA eqA_eq eqA_ne nil_beq renT_ref renA_ref renL_ref rowsD_cons qLen_refR lenR_some tn_lt rowI_getn rowI_set nlit rowI_scal mp_nil rowI_cons rowI_len mkI_eq mkB_eq mp_length mp_app mp_ne rowI_one rowI_zero ibeq ibne true_and and_true and_self decide_true decide_false Bool.not_true Bool.not_false Bool.not_not List.length_map List.length_cons List.length_nil List.getElem?_cons_zero List.getElem?_cons_succ List.drop_zero List.drop_succ_cons List.take_succ_cons List.take_zero List.map_cons List.map_nil List.all_cons List.all_nil Bool.and_true Bool.true_and List.getD_cons_zero List.getD_cons_succ List.set_cons_zero List.set_cons_succ Option.isSome_none Option.isSome_some List.nil_append List.cons_append List.append_eq List.append_nil List.length_append cond_true cond_false ne_eq List.map_eq_nil_iff not_false_eq_true List.cons_ne_nil Bool.true_bne Bool.false_bne Bool.bne_true Bool.bne_false Bool.true_beq Bool.false_beq Int.zero_sub List.cons_beq_cons Option.map_some true_or or_true beq_self_eq_true Nat.zero_lt_succ ti_3 ti_5 ti_22 ti_24 ti_25 ti_27 ti_68 ti_127 ti_129 el_22 el_25 el_32 el_60 el_205 fo_24_0 fo_24_1 fo_24_2 fo_27_0 fo_27_1 fo_27_2 fo_27_3 fo_68_0 fo_68_1 fo_68_2 fo_68_3 fo_68_4 fo_129_0 fo_129_1 fo_129_2 bo_4 io_3 io_5 io_127 pl_24 pl_27 pl_68 pl_129 eqs_24 loud_6 loud_36 loud_38 loud_46 loud_50 loud_51 loud_52 loud_53 loud_56 loud_57 loud_58 loud_59 loud_60 loud_61 loud_62 loud_63 loud_64 loud_65 loud_66 loud_67 loud_68 loud_69 loud_70 loud_71 loud_96 loud_97 loud_100 loud_103 loud_105 loud_108 loud_109 loud_110 loud_111 loud_112 loud_118 loud_119 loud_120 loud_121 loud_122 loud_123 loud_124 loud_125 loud_127 loud_128 loud_129 loud_130 loud_131 loud_132 loud_133 loud_134 loud_135 loud_136 loud_137 loud_138 loud_139 loud_140 loud_141 loud_142 loud_143 loud_144 loud_145 loud_177 loud_178 loud_180 loud_183 loud_184 loud_185 loud_186 loud_187 loud_188 loud_189 loud_190 loud_191 loud_192 loud_193 loud_194 loud_195 i64w td_60 wl mx_rule mn_rule rowI_get rowB_get mkS68_eq rowS68_get rowS68_one rowS68_cons rowS68_len mkS24_eq rowS24_get rowS24_one rowS24_cons rowS24_len mkL_eq rowL_one rowL_cons rowL_len
/-! impl_KindChanges : 63 -/
set_option maxRecDepth 100000 in
set_option maxHeartbeats 4000000 in
theorem impl_KindChanges.V {k : Nat} {a0_0 : Int} {a0_1 : Int} {a0_2 : Int} {l0_3 : List Int} {l0_4 : List Int} {l0_5 : List Int} {a1_0 : Int} {a1_1 : Int} {a1_2 : Int} {l1_3 : List Int} {l1_4 : List Int} {l1_5 : List Int} {a2 : Int} {r1 : List Int} {r2 : List Int} {r3 : Bool} (h : impl_KindChanges.f k a0_0 a0_1 a0_2 l0_3 l0_4 l0_5 a1_0 a1_1 a1_2 l1_3 l1_4 l1_5 a2 = some (r1, r2, r3)) : FnV E 63 [.agg [.int .i64 a0_0, .int .i64 a0_1, .int .i64 a0_2, .sl false 1 (mp mkI l0_3), .sl false 1 (mp mkI l0_4), .sl false 1 (mp mkI l0_5)], .agg [.int .i64 a1_0, .int .i64 a1_1, .int .i64 a1_2, .sl false 1 (mp mkI l1_3), .sl false 1 (mp mkI l1_4), .sl false 1 (mp mkI l1_5)], .int .i64 a2] none (.tup [.sl true 1 (mp mkI r1), .sl true 1 (mp mkI r2), .bool r3]) [] none := by
 refine FnV_list E (rs := [.tmp 6, .tmp 7, .tmp 8]) Try.func63 (by rfl) rfl Try.ntmps63 rfl [] (by simp) rfl (by simp) rfl (fun us => ?_)
 simp only [argsL, memL, wrapL, wrap1, Nat.reduceAdd]
 unfold impl_KindChanges.f at h
 refine AL_seq ?_
 refine rg0 [2, 3, 4] [32, 40] (fun K hK => by simp (decide := true) only [go_sem, Nat.reduceAdd, Nat.reduceMul]; exact hK) ?_
 refine AL_seq ?_
 refine AL_seq ?_
 refine AL_cut (fun S => (∃ kk : Nat, ∃ x2 x25 x736000 x736001 x736002 x736003 x736004 x736005 x737000 x737001 x737002 x737003 x737004 x737005, kk ≤ k ∧ impl_KindChanges.j0 kk x2 x25 x736000 x736001 x736002 x736003 x736004 x736005 x737000 x737001 x737002 x737003 x737004 x737005 = some (r1, r2, r3) ∧ At [(2, .int .i64 x2), (3, .ptr 32 0 0), (4, .ptr 40 0 0), (25, .bool x25)] [(32, some (.box [.int .i64 x736000, .int .i64 x736001, .int .i64 x736002, .sl false 1 (mp mkI x736003), .sl false 1 (mp mkI x736004), .sl false 1 (mp mkI x736005)])), (40, some (.box [.int .i64 x737000, .int .i64 x737001, .int .i64 x737002, .sl false 1 (mp mkI x737003), .sl false 1 (mp mkI x737004), .sl false 1 (mp mkI x737005)]))] S)) ?_ ?_
 ·
  obtain ⟨t737, g1, h⟩ := bind_or h
  rcases ite_orb h with ⟨c2, h⟩ | ⟨c2, h⟩
  ·
   rcases ite_orp h with ⟨c3, h⟩ | ⟨c3, h⟩
   ·
    refine rg1 [2, 3, 4, 25] [32, 40] [(4, 18), (8, 22)] (fun K hK => by simp (decide := true) (maxSteps := 4000000) only [go_sem, Nat.reduceAdd, Nat.reduceMul, c2, c3]; refine ⟨_, _, _, impl_areTwins.V g1, ?_⟩; simp (decide := true) (maxSteps := 4000000) only [go_sem, Nat.reduceAdd, Nat.reduceMul, c2, c3]; exact hK) ?_
    refine AL_meet ?_
    exact ⟨_, _, _, _, _, _, _, _, _, _, _, _, _, _, _, by omega, h, At_keep [2, 3, 4, 25] [32, 40]⟩
   ·
    refine rg1 [2, 3, 4, 25] [32, 40] [(4, 18), (8, 22)] (fun K hK => by simp (decide := true) (maxSteps := 4000000) only [go_sem, Nat.reduceAdd, Nat.reduceMul, c2, c3]; refine ⟨_, _, _, impl_areTwins.V g1, ?_⟩; simp (decide := true) (maxSteps := 4000000) only [go_sem, Nat.reduceAdd, Nat.reduceMul, c2, c3]; exact hK) ?_
    refine AL_meet ?_
    exact ⟨_, _, _, _, _, _, _, _, _, _, _, _, _, _, _, by omega, h, At_keep [2, 3, 4, 25] [32, 40]⟩
  ·
   refine rg1 [2, 3, 4, 25] [32, 40] [(4, 18), (8, 22)] (fun K hK => by simp (decide := true) (maxSteps := 4000000) only [go_sem, Nat.reduceAdd, Nat.reduceMul, c2]; refine ⟨_, _, _, impl_areTwins.V g1, ?_⟩; simp (decide := true) (maxSteps := 4000000) only [go_sem, Nat.reduceAdd, Nat.reduceMul, c2]; exact hK) ?_
   refine AL_meet ?_
   exact ⟨_, _, _, _, _, _, _, _, _, _, _, _, _, _, _, by omega, h, At_keep [2, 3, 4, 25] [32, 40]⟩
 ·
  intro S hS
  obtain ⟨kk4, x2, x25, x736000, x736001, x736002, x736003, x736004, x736005, x737000, x737001, x737002, x737003, x737004, x737005, hkq5, h, hS⟩ := hS
  rcases kk4 with _ | n6
  · (rw [impl_KindChanges.j0] at h; cases h)
  rw [impl_KindChanges.j0] at h
  refine AW_at hS ?_
  rcases ite_orb h with ⟨c7, h⟩ | ⟨c7, h⟩
  ·
   refine AL_then (by simp (decide := true) only [go_sem, Nat.reduceAdd, Nat.reduceMul, c7]) ?_
   refine AL_seq ?_
   refine rg0 [6, 7, 8] [] (fun K hK => by simp (decide := true) only [go_sem, Nat.reduceAdd, Nat.reduceMul, c7]; exact hK) ?_
   replace h := Option.some.inj h
   obtain ⟨rfl, h1⟩ := Prod.mk.inj h
   obtain ⟨rfl, rfl⟩ := Prod.mk.inj h1
   refine AL_ret (fun _ => rfl) ?_
   exact retF_mk rfl (by exact ⟨trivial, trivial, trivial, trivial⟩) rfl (by exact ⟨rfl, rfl, rfl, trivial⟩) (by exact trivial) (by exact trivial)
  ·
   refine AL_else (by simp (decide := true) only [go_sem, Nat.reduceAdd, Nat.reduceMul, c7]) ?_
   refine AL_skip ?_
   refine AL_seq ?_
   refine rg2 [2, 3, 4, 9, 10] [32, 40, 216, 224] [26, 27] ⟨[], [], []⟩ [] (fun K hK => by simp (decide := true) only [go_sem, Nat.reduceAdd, Nat.reduceMul, c7]; exact hK) ?_
   refine AL_seq ?_
   refine AL_seq ?_
   refine rg0 [2, 3, 4, 9, 10, 30, 31] [32, 40, 216, 224] (fun K hK => by simp (decide := true) only [go_sem, Nat.reduceAdd, Nat.reduceMul, c7]; exact hK) ?_
   refine AL_block ?_
   refine AL_loop (n := n6) (fun n S => (∃ x2 x30 x31 x736000 x736001 x736002 x736003 x736004 x736005 x737000 x737001 x737002 x737003 x737004 x737005 x9 x10, n ≤ n6 ∧ impl_KindChanges.l0 n x2 x9 x10 x30 x31 x736000 x736001 x736002 x736003 x736004 x736005 x737000 x737001 x737002 x737003 x737004 x737005 = some (r1, r2, r3) ∧ At [(2, .int .i64 x2), (3, .ptr 32 0 0), (4, .ptr 40 0 0), (9, .ref 216), (10, .ref 224), (30, .int .i64 x30), (31, .int .i64 x31)] [(32, some (.box [.int .i64 x736000, .int .i64 x736001, .int .i64 x736002, .sl false 1 (mp mkI x736003), .sl false 1 (mp mkI x736004), .sl false 1 (mp mkI x736005)])), (40, some (.box [.int .i64 x737000, .int .i64 x737001, .int .i64 x737002, .sl false 1 (mp mkI x737003), .sl false 1 (mp mkI x737004), .sl false 1 (mp mkI x737005)])), (216, some (.row 3 1 (mp mkI x9))), (224, some (.row 3 1 (mp mkI x10)))] S) ∨ (∃ x2 x30 x31 x736000 x736001 x736002 x736003 x736004 x736005 x737000 x737001 x737002 x737003 x737004 x737005 x10 x9, n ≤ n6 ∧ impl_KindChanges.l0 n x2 x9 x10 x30 x31 x736000 x736001 x736002 x736003 x736004 x736005 x737000 x737001 x737002 x737003 x737004 x737005 = some (r1, r2, r3) ∧ At [(2, .int .i64 x2), (3, .ptr 32 0 0), (4, .ptr 40 0 0), (9, .ref 456), (10, .ref 224), (30, .int .i64 x30), (31, .int .i64 x31)] [(32, some (.box [.int .i64 x736000, .int .i64 x736001, .int .i64 x736002, .sl false 1 (mp mkI x736003), .sl false 1 (mp mkI x736004), .sl false 1 (mp mkI x736005)])), (40, some (.box [.int .i64 x737000, .int .i64 x737001, .int .i64 x737002, .sl false 1 (mp mkI x737003), .sl false 1 (mp mkI x737004), .sl false 1 (mp mkI x737005)])), (224, some (.row 3 1 (mp mkI x10))), (456, some (.row 3 1 (mp mkI x9)))] S) ∨ (∃ x2 x30 x31 x736000 x736001 x736002 x736003 x736004 x736005 x737000 x737001 x737002 x737003 x737004 x737005 x9 x10, n ≤ n6 ∧ impl_KindChanges.l0 n x2 x9 x10 x30 x31 x736000 x736001 x736002 x736003 x736004 x736005 x737000 x737001 x737002 x737003 x737004 x737005 = some (r1, r2, r3) ∧ At [(2, .int .i64 x2), (3, .ptr 32 0 0), (4, .ptr 40 0 0), (9, .ref 456), (10, .ref 528), (30, .int .i64 x30), (31, .int .i64 x31)] [(32, some (.box [.int .i64 x736000, .int .i64 x736001, .int .i64 x736002, .sl false 1 (mp mkI x736003), .sl false 1 (mp mkI x736004), .sl false 1 (mp mkI x736005)])), (40, some (.box [.int .i64 x737000, .int .i64 x737001, .int .i64 x737002, .sl false 1 (mp mkI x737003), .sl false 1 (mp mkI x737004), .sl false 1 (mp mkI x737005)])), (456, some (.row 3 1 (mp mkI x9))), (528, some (.row 3 1 (mp mkI x10)))] S) ∨ (∃ x2 x30 x31 x736000 x736001 x736002 x736003 x736004 x736005 x737000 x737001 x737002 x737003 x737004 x737005 x9 x10, n ≤ n6 ∧ impl_KindChanges.l0 n x2 x9 x10 x30 x31 x736000 x736001 x736002 x736003 x736004 x736005 x737000 x737001 x737002 x737003 x737004 x737005 = some (r1, r2, r3) ∧ At [(2, .int .i64 x2), (3, .ptr 32 0 0), (4, .ptr 40 0 0), (9, .ref 216), (10, .ref 528), (30, .int .i64 x30), (31, .int .i64 x31)] [(32, some (.box [.int .i64 x736000, .int .i64 x736001, .int .i64 x736002, .sl false 1 (mp mkI x736003), .sl false 1 (mp mkI x736004), .sl false 1 (mp mkI x736005)])), (40, some (.box [.int .i64 x737000, .int .i64 x737001, .int .i64 x737002, .sl false 1 (mp mkI x737003), .sl false 1 (mp mkI x737004), .sl false 1 (mp mkI x737005)])), (216, some (.row 3 1 (mp mkI x9))), (528, some (.row 3 1 (mp mkI x10)))] S)) ?_ ?_
   · exact .inl ⟨_, _, _, _, _, _, _, _, _, _, _, _, _, _, _, _, _, by omega, h, At_keep [2, 3, 4, 9, 10, 30, 31] [32, 40, 216, 224]⟩
   ·
    intro n S hS
    rcases hS with hS | hS | hS | hS
    ·
     obtain ⟨x2, x30, x31, x736000, x736001, x736002, x736003, x736004, x736005, x737000, x737001, x737002, x737003, x737004, x737005, x9, x10, hkq8, h, hS⟩ := hS
     rcases n with _ | n9
     · (rw [impl_KindChanges.l0] at h; cases h)
     rw [impl_KindChanges.l0] at h
     refine AW_at hS ?_
     refine AL_seq ?_
     refine rg0 [2, 3, 4, 9, 10, 30, 31, 32] [32, 40, 216, 224] (fun K hK => by simp (decide := true) only [go_sem, Nat.reduceAdd, Nat.reduceMul]; exact hK) ?_
     refine AL_seq ?_
     rcases ite_orp h with ⟨c10, h⟩ | ⟨c10, h⟩
     ·
      refine AL_then (by simp (decide := true) only [go_sem, Nat.reduceAdd, Nat.reduceMul, c10]) ?_
      refine AL_skip ?_
      refine AL_seq ?_
      refine AL_block ?_
      refine AL_seq ?_
      refine rg0 [2, 3, 4, 9, 10, 11, 30, 31] [32, 40, 216, 224] (fun K hK => by simp (decide := true) only [go_sem, Nat.reduceAdd, Nat.reduceMul, c10]; exact hK) ?_
      refine AL_seq ?_
      obtain ⟨c11, h⟩ := ite_lp h
      obtain ⟨c12, h⟩ := ite_lp h
      obtain ⟨c13, h⟩ := ite_lp h
      refine rg0 [2, 3, 4, 9, 10, 11, 12, 13, 30, 31] [32, 40, 216, 224] (fun K hK => by simp (decide := true) (maxSteps := 4000000) only [go_sem, Nat.reduceAdd, Nat.reduceMul, c10, c11, c12, c13]; exact hK) ?_
      refine AL_seq ?_
      refine AL_seq ?_
      refine AL_cut (fun S => (∃ kk : Nat, ∃ x2 x11 x12 x13 x30 x31 x52 x736000 x736001 x736002 x736003 x736004 x736005 x737000 x737001 x737002 x737003 x737004 x737005 x9 x10, kk ≤ n9 ∧ impl_KindChanges.j2 kk x2 x9 x10 x11 x12 x13 x30 x31 x52 x736000 x736001 x736002 x736003 x736004 x736005 x737000 x737001 x737002 x737003 x737004 x737005 = some (r1, r2, r3) ∧ At [(2, .int .i64 x2), (3, .ptr 32 0 0), (4, .ptr 40 0 0), (9, .ref 216), (10, .ref 224), (11, .int .i64 x11), (12, .bool x12), (13, .bool x13), (30, .int .i64 x30), (31, .int .i64 x31), (52, .bool x52)] [(32, some (.box [.int .i64 x736000, .int .i64 x736001, .int .i64 x736002, .sl false 1 (mp mkI x736003), .sl false 1 (mp mkI x736004), .sl false 1 (mp mkI x736005)])), (40, some (.box [.int .i64 x737000, .int .i64 x737001, .int .i64 x737002, .sl false 1 (mp mkI x737003), .sl false 1 (mp mkI x737004), .sl false 1 (mp mkI x737005)])), (216, some (.row 3 1 (mp mkI x9))), (224, some (.row 3 1 (mp mkI x10)))] S) ∨ (∃ kk : Nat, ∃ x2 x11 x12 x13 x30 x31 x52 x736000 x736001 x736002 x736003 x736004 x736005 x737000 x737001 x737002 x737003 x737004 x737005 x10 x9, kk ≤ n9 ∧ impl_KindChanges.j2 kk x2 x9 x10 x11 x12 x13 x30 x31 x52 x736000 x736001 x736002 x736003 x736004 x736005 x737000 x737001 x737002 x737003 x737004 x737005 = some (r1, r2, r3) ∧ At [(2, .int .i64 x2), (3, .ptr 32 0 0), (4, .ptr 40 0 0), (9, .ref 456), (10, .ref 224), (11, .int .i64 x11), (12, .bool x12), (13, .bool x13), (30, .int .i64 x30), (31, .int .i64 x31), (52, .bool x52)] [(32, some (.box [.int .i64 x736000, .int .i64 x736001, .int .i64 x736002, .sl false 1 (mp mkI x736003), .sl false 1 (mp mkI x736004), .sl false 1 (mp mkI x736005)])), (40, some (.box [.int .i64 x737000, .int .i64 x737001, .int .i64 x737002, .sl false 1 (mp mkI x737003), .sl false 1 (mp mkI x737004), .sl false 1 (mp mkI x737005)])), (224, some (.row 3 1 (mp mkI x10))), (456, some (.row 3 1 (mp mkI x9)))] S) ∨ (∃ kk : Nat, ∃ x2 x11 x12 x13 x30 x31 x52 x736000 x736001 x736002 x736003 x736004 x736005 x737000 x737001 x737002 x737003 x737004 x737005 x9 x10, kk ≤ n9 ∧ impl_KindChanges.j2 kk x2 x9 x10 x11 x12 x13 x30 x31 x52 x736000 x736001 x736002 x736003 x736004 x736005 x737000 x737001 x737002 x737003 x737004 x737005 = some (r1, r2, r3) ∧ At [(2, .int .i64 x2), (3, .ptr 32 0 0), (4, .ptr 40 0 0), (9, .ref 456), (10, .ref 528), (11, .int .i64 x11), (12, .bool x12), (13, .bool x13), (30, .int .i64 x30), (31, .int .i64 x31), (52, .bool x52)] [(32, some (.box [.int .i64 x736000, .int .i64 x736001, .int .i64 x736002, .sl false 1 (mp mkI x736003), .sl false 1 (mp mkI x736004), .sl false 1 (mp mkI x736005)])), (40, some (.box [.int .i64 x737000, .int .i64 x737001, .int .i64 x737002, .sl false 1 (mp mkI x737003), .sl false 1 (mp mkI x737004), .sl false 1 (mp mkI x737005)])), (456, some (.row 3 1 (mp mkI x9))), (528, some (.row 3 1 (mp mkI x10)))] S) ∨ (∃ kk : Nat, ∃ x2 x11 x12 x13 x30 x31 x52 x736000 x736001 x736002 x736003 x736004 x736005 x737000 x737001 x737002 x737003 x737004 x737005 x9 x10, kk ≤ n9 ∧ impl_KindChanges.j2 kk x2 x9 x10 x11 x12 x13 x30 x31 x52 x736000 x736001 x736002 x736003 x736004 x736005 x737000 x737001 x737002 x737003 x737004 x737005 = some (r1, r2, r3) ∧ At [(2, .int .i64 x2), (3, .ptr 32 0 0), (4, .ptr 40 0 0), (9, .ref 216), (10, .ref 528), (11, .int .i64 x11), (12, .bool x12), (13, .bool x13), (30, .int .i64 x30), (31, .int .i64 x31), (52, .bool x52)] [(32, some (.box [.int .i64 x736000, .int .i64 x736001, .int .i64 x736002, .sl false 1 (mp mkI x736003), .sl false 1 (mp mkI x736004), .sl false 1 (mp mkI x736005)])), (40, some (.box [.int .i64 x737000, .int .i64 x737001, .int .i64 x737002, .sl false 1 (mp mkI x737003), .sl false 1 (mp mkI x737004), .sl false 1 (mp mkI x737005)])), (216, some (.row 3 1 (mp mkI x9))), (528, some (.row 3 1 (mp mkI x10)))] S)) ?_ ?_
      ·
       rcases ite_orp h with ⟨c14, h⟩ | ⟨c14, h⟩
       ·
        refine rg1 [2, 3, 4, 9, 10, 11, 12, 13, 30, 31, 52] [32, 40, 216, 224] [(1, 49)] (fun K hK => by simp (decide := true) only [go_sem, Nat.reduceAdd, Nat.reduceMul, c10, c11, c12, c13, c14]; exact hK) ?_
        refine AL_meet ?_
        try simp only [c14, decide_true, decide_false, Bool.not_true, Bool.not_false] at h
        exact .inl ⟨_, _, _, _, _, _, _, _, _, _, _, _, _, _, _, _, _, _, _, _, _, _, by omega, h, At_keep [2, 3, 4, 9, 10, 11, 12, 13, 30, 31, 52] [32, 40, 216, 224]⟩
       ·
        refine rg1 [2, 3, 4, 9, 10, 11, 12, 13, 30, 31, 52] [32, 40, 216, 224] [(1, 49)] (fun K hK => by simp (decide := true) only [go_sem, Nat.reduceAdd, Nat.reduceMul, c10, c11, c12, c13, c14]; exact hK) ?_
        refine AL_meet ?_
        try simp only [c14, decide_true, decide_false, Bool.not_true, Bool.not_false] at h
        exact .inl ⟨_, _, _, _, _, _, _, _, _, _, _, _, _, _, _, _, _, _, _, _, _, _, by omega, h, At_keep [2, 3, 4, 9, 10, 11, 12, 13, 30, 31, 52] [32, 40, 216, 224]⟩
      ·
       intro S hS
       rcases hS with hS | hS | hS | hS
       ·
        obtain ⟨kk15, x2, x11, x12, x13, x30, x31, x52, x736000, x736001, x736002, x736003, x736004, x736005, x737000, x737001, x737002, x737003, x737004, x737005, x9, x10, hkq16, h, hS⟩ := hS
        rcases kk15 with _ | n17
        · (rw [impl_KindChanges.j2] at h; cases h)
        rw [impl_KindChanges.j2] at h
        refine AW_at hS ?_
        rcases ite_orb h with ⟨c18, h⟩ | ⟨c18, h⟩
        ·
         refine AL_then (by simp (decide := true) only [go_sem, Nat.reduceAdd, Nat.reduceMul, c18]) ?_
         obtain ⟨c19, h⟩ := ite_l h
         have c19l := lim8 c19
         replace c19 := eq_true c19
         obtain ⟨y746, hy746, h⟩ := bind_or h
         obtain rfl := Option.some.inj hy746
         refine rg0 [2, 3, 4, 9, 10, 11, 12, 13, 30, 31] [32, 40, 224, 456] (fun K hK => by simp (decide := true) only [go_sem, Nat.reduceAdd, Nat.reduceMul, c18, c19l, c19]; exact hK) ?_
         refine AL_seq ?_
         rcases ite_orb h with ⟨c20, h⟩ | ⟨c20, h⟩
         ·
          refine rg1 [2, 3, 4, 9, 10, 11, 30, 31, 61] [32, 40, 224, 456] [(1, 58)] (fun K hK => by simp (decide := true) only [go_sem, Nat.reduceAdd, Nat.reduceMul, c18, c19l, c19, c20]; exact hK) ?_
          rcases ite_orb h with ⟨c21, h⟩ | ⟨c21, h⟩
          ·
           refine AL_else (by simp (decide := true) only [go_sem, Nat.reduceAdd, Nat.reduceMul, c18, c19l, c19, c20, c21]) ?_
           refine AL_skip ?_
           refine blockQ_n ?_
           refine rg0 [2, 3, 4, 9, 10, 30, 31] [32, 40, 224, 456] (fun K hK => by simp (decide := true) only [go_sem, Nat.reduceAdd, Nat.reduceMul, c18, c19l, c19, c20, c21]; exact hK) ?_
           refine AL_again (m := n17) (by omega) ?_
           exact .inr (.inl ⟨_, _, _, _, _, _, _, _, _, _, _, _, _, _, _, _, _, by omega, h, At_keep [2, 3, 4, 9, 10, 30, 31] [32, 40, 224, 456]⟩)
          ·
           refine AL_then (by simp (decide := true) only [go_sem, Nat.reduceAdd, Nat.reduceMul, c18, c19l, c19, c20, c21]) ?_
           obtain ⟨c22, h⟩ := ite_l h
           have c22l := lim8 c22
           replace c22 := eq_true c22
           refine rg0 [2, 3, 4, 9, 10, 30, 31] [32, 40, 456, 528] (fun K hK => by simp (decide := true) only [go_sem, Nat.reduceAdd, Nat.reduceMul, c18, c19l, c19, c20, c21, c22l, c22]; exact hK) ?_
           refine blockQ_n ?_
           refine rg0 [2, 3, 4, 9, 10, 30, 31] [32, 40, 456, 528] (fun K hK => by simp (decide := true) only [go_sem, Nat.reduceAdd, Nat.reduceMul, c18, c19l, c19, c20, c21, c22l, c22]; exact hK) ?_
           refine AL_again (m := n17) (by omega) ?_
           exact .inr (.inr (.inl ⟨_, _, _, _, _, _, _, _, _, _, _, _, _, _, _, _, _, by omega, h, At_keep [2, 3, 4, 9, 10, 30, 31] [32, 40, 456, 528]⟩))
         ·
          refine rg1 [2, 3, 4, 9, 10, 11, 30, 31, 61] [32, 40, 224, 456] [(1, 58)] (fun K hK => by simp (decide := true) only [go_sem, Nat.reduceAdd, Nat.reduceMul, c18, c19l, c19, c20]; exact hK) ?_
          refine AL_else (by simp (decide := true) only [go_sem, Nat.reduceAdd, Nat.reduceMul, c18, c19l, c19, c20]) ?_
          refine AL_skip ?_
          refine blockQ_n ?_
          refine rg0 [2, 3, 4, 9, 10, 30, 31] [32, 40, 224, 456] (fun K hK => by simp (decide := true) only [go_sem, Nat.reduceAdd, Nat.reduceMul, c18, c19l, c19, c20]; exact hK) ?_
          refine AL_again (m := n17) (by omega) ?_
          exact .inr (.inl ⟨_, _, _, _, _, _, _, _, _, _, _, _, _, _, _, _, _, by omega, h, At_keep [2, 3, 4, 9, 10, 30, 31] [32, 40, 224, 456]⟩)
        ·
         refine AL_else (by simp (decide := true) only [go_sem, Nat.reduceAdd, Nat.reduceMul, c18]) ?_
         refine AL_skip ?_
         refine AL_seq ?_
         rcases ite_orb h with ⟨c23, h⟩ | ⟨c23, h⟩
         ·
          refine rg1 [2, 3, 4, 9, 10, 11, 30, 31, 61] [32, 40, 216, 224] [(1, 58)] (fun K hK => by simp (decide := true) only [go_sem, Nat.reduceAdd, Nat.reduceMul, c18, c23]; exact hK) ?_
          rcases ite_orb h with ⟨c24, h⟩ | ⟨c24, h⟩
          ·
           refine AL_else (by simp (decide := true) only [go_sem, Nat.reduceAdd, Nat.reduceMul, c18, c23, c24]) ?_
           refine AL_skip ?_
           refine blockQ_n ?_
           refine rg0 [2, 3, 4, 9, 10, 30, 31] [32, 40, 216, 224] (fun K hK => by simp (decide := true) only [go_sem, Nat.reduceAdd, Nat.reduceMul, c18, c23, c24]; exact hK) ?_
           refine AL_again (m := n17) (by omega) ?_
           exact .inl ⟨_, _, _, _, _, _, _, _, _, _, _, _, _, _, _, _, _, by omega, h, At_keep [2, 3, 4, 9, 10, 30, 31] [32, 40, 216, 224]⟩
          ·
           refine AL_then (by simp (decide := true) only [go_sem, Nat.reduceAdd, Nat.reduceMul, c18, c23, c24]) ?_
           obtain ⟨c25, h⟩ := ite_l h
           have c25l := lim8 c25
           replace c25 := eq_true c25
           refine rg0 [2, 3, 4, 9, 10, 30, 31] [32, 40, 216, 528] (fun K hK => by simp (decide := true) only [go_sem, Nat.reduceAdd, Nat.reduceMul, c18, c23, c24, c25l, c25]; exact hK) ?_
           refine blockQ_n ?_
           refine rg0 [2, 3, 4, 9, 10, 30, 31] [32, 40, 216, 528] (fun K hK => by simp (decide := true) only [go_sem, Nat.reduceAdd, Nat.reduceMul, c18, c23, c24, c25l, c25]; exact hK) ?_
           refine AL_again (m := n17) (by omega) ?_
           exact .inr (.inr (.inr (⟨_, _, _, _, _, _, _, _, _, _, _, _, _, _, _, _, _, by omega, h, At_keep [2, 3, 4, 9, 10, 30, 31] [32, 40, 216, 528]⟩)))
         ·
          refine rg1 [2, 3, 4, 9, 10, 11, 30, 31, 61] [32, 40, 216, 224] [(1, 58)] (fun K hK => by simp (decide := true) only [go_sem, Nat.reduceAdd, Nat.reduceMul, c18, c23]; exact hK) ?_
          refine AL_else (by simp (decide := true) only [go_sem, Nat.reduceAdd, Nat.reduceMul, c18, c23]) ?_
          refine AL_skip ?_
          refine blockQ_n ?_
          refine rg0 [2, 3, 4, 9, 10, 30, 31] [32, 40, 216, 224] (fun K hK => by simp (decide := true) only [go_sem, Nat.reduceAdd, Nat.reduceMul, c18, c23]; exact hK) ?_
          refine AL_again (m := n17) (by omega) ?_
          exact .inl ⟨_, _, _, _, _, _, _, _, _, _, _, _, _, _, _, _, _, by omega, h, At_keep [2, 3, 4, 9, 10, 30, 31] [32, 40, 216, 224]⟩
       ·
        obtain ⟨kk26, x2, x11, x12, x13, x30, x31, x52, x736000, x736001, x736002, x736003, x736004, x736005, x737000, x737001, x737002, x737003, x737004, x737005, x10, x9, hkq27, h, hS⟩ := hS
        rcases kk26 with _ | n28
        · (rw [impl_KindChanges.j2] at h; cases h)
        rw [impl_KindChanges.j2] at h
        refine AW_at hS ?_
        rcases ite_orb h with ⟨c29, h⟩ | ⟨c29, h⟩
        ·
         refine AL_then (by simp (decide := true) only [go_sem, Nat.reduceAdd, Nat.reduceMul, c29]) ?_
         obtain ⟨c30, h⟩ := ite_l h
         have c30l := lim8 c30
         replace c30 := eq_true c30
         obtain ⟨y746, hy746, h⟩ := bind_or h
         obtain rfl := Option.some.inj hy746
         refine rg0 [2, 3, 4, 9, 10, 11, 12, 13, 30, 31] [32, 40, 224, 456] (fun K hK => by simp (decide := true) only [go_sem, Nat.reduceAdd, Nat.reduceMul, c29, c30l, c30]; exact hK) ?_
         refine AL_seq ?_
         rcases ite_orb h with ⟨c31, h⟩ | ⟨c31, h⟩
         ·
          refine rg1 [2, 3, 4, 9, 10, 11, 30, 31, 61] [32, 40, 224, 456] [(1, 58)] (fun K hK => by simp (decide := true) only [go_sem, Nat.reduceAdd, Nat.reduceMul, c29, c30l, c30, c31]; exact hK) ?_
          rcases ite_orb h with ⟨c32, h⟩ | ⟨c32, h⟩
          ·
           refine AL_else (by simp (decide := true) only [go_sem, Nat.reduceAdd, Nat.reduceMul, c29, c30l, c30, c31, c32]) ?_
           refine AL_skip ?_
           refine blockQ_n ?_
           refine rg0 [2, 3, 4, 9, 10, 30, 31] [32, 40, 224, 456] (fun K hK => by simp (decide := true) only [go_sem, Nat.reduceAdd, Nat.reduceMul, c29, c30l, c30, c31, c32]; exact hK) ?_
           refine AL_again (m := n28) (by omega) ?_
           exact .inr (.inl ⟨_, _, _, _, _, _, _, _, _, _, _, _, _, _, _, _, _, by omega, h, At_keep [2, 3, 4, 9, 10, 30, 31] [32, 40, 224, 456]⟩)
          ·
           refine AL_then (by simp (decide := true) only [go_sem, Nat.reduceAdd, Nat.reduceMul, c29, c30l, c30, c31, c32]) ?_
           obtain ⟨c33, h⟩ := ite_l h
           have c33l := lim8 c33
           replace c33 := eq_true c33
           refine rg0 [2, 3, 4, 9, 10, 30, 31] [32, 40, 456, 528] (fun K hK => by simp (decide := true) only [go_sem, Nat.reduceAdd, Nat.reduceMul, c29, c30l, c30, c31, c32, c33l, c33]; exact hK) ?_
           refine blockQ_n ?_
           refine rg0 [2, 3, 4, 9, 10, 30, 31] [32, 40, 456, 528] (fun K hK => by simp (decide := true) only [go_sem, Nat.reduceAdd, Nat.reduceMul, c29, c30l, c30, c31, c32, c33l, c33]; exact hK) ?_
           refine AL_again (m := n28) (by omega) ?_
           exact .inr (.inr (.inl ⟨_, _, _, _, _, _, _, _, _, _, _, _, _, _, _, _, _, by omega, h, At_keep [2, 3, 4, 9, 10, 30, 31] [32, 40, 456, 528]⟩))
         ·
          refine rg1 [2, 3, 4, 9, 10, 11, 30, 31, 61] [32, 40, 224, 456] [(1, 58)] (fun K hK => by simp (decide := true) only [go_sem, Nat.reduceAdd, Nat.reduceMul, c29, c30l, c30, c31]; exact hK) ?_
          refine AL_else (by simp (decide := true) only [go_sem, Nat.reduceAdd, Nat.reduceMul, c29, c30l, c30, c31]) ?_
          refine AL_skip ?_
          refine blockQ_n ?_
          refine rg0 [2, 3, 4, 9, 10, 30, 31] [32, 40, 224, 456] (fun K hK => by simp (decide := true) only [go_sem, Nat.reduceAdd, Nat.reduceMul, c29, c30l, c30, c31]; exact hK) ?_
          refine AL_again (m := n28) (by omega) ?_
          exact .inr (.inl ⟨_, _, _, _, _, _, _, _, _, _, _, _, _, _, _, _, _, by omega, h, At_keep [2, 3, 4, 9, 10, 30, 31] [32, 40, 224, 456]⟩)
        ·
         refine AL_else (by simp (decide := true) only [go_sem, Nat.reduceAdd, Nat.reduceMul, c29]) ?_
         refine AL_skip ?_
         refine AL_seq ?_
         rcases ite_orb h with ⟨c34, h⟩ | ⟨c34, h⟩
         ·
          refine rg1 [2, 3, 4, 9, 10, 11, 30, 31, 61] [32, 40, 224, 456] [(1, 58)] (fun K hK => by simp (decide := true) only [go_sem, Nat.reduceAdd, Nat.reduceMul, c29, c34]; exact hK) ?_
          rcases ite_orb h with ⟨c35, h⟩ | ⟨c35, h⟩
          ·
           refine AL_else (by simp (decide := true) only [go_sem, Nat.reduceAdd, Nat.reduceMul, c29, c34, c35]) ?_
           refine AL_skip ?_
           refine blockQ_n ?_
           refine rg0 [2, 3, 4, 9, 10, 30, 31] [32, 40, 224, 456] (fun K hK => by simp (decide := true) only [go_sem, Nat.reduceAdd, Nat.reduceMul, c29, c34, c35]; exact hK) ?_
           refine AL_again (m := n28) (by omega) ?_
           exact .inr (.inl ⟨_, _, _, _, _, _, _, _, _, _, _, _, _, _, _, _, _, by omega, h, At_keep [2, 3, 4, 9, 10, 30, 31] [32, 40, 224, 456]⟩)
          ·
           refine AL_then (by simp (decide := true) only [go_sem, Nat.reduceAdd, Nat.reduceMul, c29, c34, c35]) ?_
           obtain ⟨c36, h⟩ := ite_l h
           have c36l := lim8 c36
           replace c36 := eq_true c36
           refine rg0 [2, 3, 4, 9, 10, 30, 31] [32, 40, 456, 528] (fun K hK => by simp (decide := true) only [go_sem, Nat.reduceAdd, Nat.reduceMul, c29, c34, c35, c36l, c36]; exact hK) ?_
           refine blockQ_n ?_
           refine rg0 [2, 3, 4, 9, 10, 30, 31] [32, 40, 456, 528] (fun K hK => by simp (decide := true) only [go_sem, Nat.reduceAdd, Nat.reduceMul, c29, c34, c35, c36l, c36]; exact hK) ?_
           refine AL_again (m := n28) (by omega) ?_
           exact .inr (.inr (.inl ⟨_, _, _, _, _, _, _, _, _, _, _, _, _, _, _, _, _, by omega, h, At_keep [2, 3, 4, 9, 10, 30, 31] [32, 40, 456, 528]⟩))
         ·
          refine rg1 [2, 3, 4, 9, 10, 11, 30, 31, 61] [32, 40, 224, 456] [(1, 58)] (fun K hK => by simp (decide := true) only [go_sem, Nat.reduceAdd, Nat.reduceMul, c29, c34]; exact hK) ?_
          refine AL_else (by simp (decide := true) only [go_sem, Nat.reduceAdd, Nat.reduceMul, c29, c34]) ?_
          refine AL_skip ?_
          refine blockQ_n ?_
          refine rg0 [2, 3, 4, 9, 10, 30, 31] [32, 40, 224, 456] (fun K hK => by simp (decide := true) only [go_sem, Nat.reduceAdd, Nat.reduceMul, c29, c34]; exact hK) ?_
          refine AL_again (m := n28) (by omega) ?_
          exact .inr (.inl ⟨_, _, _, _, _, _, _, _, _, _, _, _, _, _, _, _, _, by omega, h, At_keep [2, 3, 4, 9, 10, 30, 31] [32, 40, 224, 456]⟩)
       ·
        obtain ⟨kk37, x2, x11, x12, x13, x30, x31, x52, x736000, x736001, x736002, x736003, x736004, x736005, x737000, x737001, x737002, x737003, x737004, x737005, x9, x10, hkq38, h, hS⟩ := hS
        rcases kk37 with _ | n39
        · (rw [impl_KindChanges.j2] at h; cases h)
        rw [impl_KindChanges.j2] at h
        refine AW_at hS ?_
        rcases ite_orb h with ⟨c40, h⟩ | ⟨c40, h⟩
        ·
         refine AL_then (by simp (decide := true) only [go_sem, Nat.reduceAdd, Nat.reduceMul, c40]) ?_
         obtain ⟨c41, h⟩ := ite_l h
         have c41l := lim8 c41
         replace c41 := eq_true c41
         obtain ⟨y746, hy746, h⟩ := bind_or h
         obtain rfl := Option.some.inj hy746
         refine rg0 [2, 3, 4, 9, 10, 11, 12, 13, 30, 31] [32, 40, 456, 528] (fun K hK => by simp (decide := true) only [go_sem, Nat.reduceAdd, Nat.reduceMul, c40, c41l, c41]; exact hK) ?_
         refine AL_seq ?_
         rcases ite_orb h with ⟨c42, h⟩ | ⟨c42, h⟩
         ·
          refine rg1 [2, 3, 4, 9, 10, 11, 30, 31, 61] [32, 40, 456, 528] [(1, 58)] (fun K hK => by simp (decide := true) only [go_sem, Nat.reduceAdd, Nat.reduceMul, c40, c41l, c41, c42]; exact hK) ?_
          rcases ite_orb h with ⟨c43, h⟩ | ⟨c43, h⟩
          ·
           refine AL_else (by simp (decide := true) only [go_sem, Nat.reduceAdd, Nat.reduceMul, c40, c41l, c41, c42, c43]) ?_
           refine AL_skip ?_
           refine blockQ_n ?_
           refine rg0 [2, 3, 4, 9, 10, 30, 31] [32, 40, 456, 528] (fun K hK => by simp (decide := true) only [go_sem, Nat.reduceAdd, Nat.reduceMul, c40, c41l, c41, c42, c43]; exact hK) ?_
           refine AL_again (m := n39) (by omega) ?_
           exact .inr (.inr (.inl ⟨_, _, _, _, _, _, _, _, _, _, _, _, _, _, _, _, _, by omega, h, At_keep [2, 3, 4, 9, 10, 30, 31] [32, 40, 456, 528]⟩))
          ·
           refine AL_then (by simp (decide := true) only [go_sem, Nat.reduceAdd, Nat.reduceMul, c40, c41l, c41, c42, c43]) ?_
           obtain ⟨c44, h⟩ := ite_l h
           have c44l := lim8 c44
           replace c44 := eq_true c44
           refine rg0 [2, 3, 4, 9, 10, 30, 31] [32, 40, 456, 528] (fun K hK => by simp (decide := true) only [go_sem, Nat.reduceAdd, Nat.reduceMul, c40, c41l, c41, c42, c43, c44l, c44]; exact hK) ?_
           refine blockQ_n ?_
           refine rg0 [2, 3, 4, 9, 10, 30, 31] [32, 40, 456, 528] (fun K hK => by simp (decide := true) only [go_sem, Nat.reduceAdd, Nat.reduceMul, c40, c41l, c41, c42, c43, c44l, c44]; exact hK) ?_
           refine AL_again (m := n39) (by omega) ?_
           exact .inr (.inr (.inl ⟨_, _, _, _, _, _, _, _, _, _, _, _, _, _, _, _, _, by omega, h, At_keep [2, 3, 4, 9, 10, 30, 31] [32, 40, 456, 528]⟩))
         ·
          refine rg1 [2, 3, 4, 9, 10, 11, 30, 31, 61] [32, 40, 456, 528] [(1, 58)] (fun K hK => by simp (decide := true) only [go_sem, Nat.reduceAdd, Nat.reduceMul, c40, c41l, c41, c42]; exact hK) ?_
          refine AL_else (by simp (decide := true) only [go_sem, Nat.reduceAdd, Nat.reduceMul, c40, c41l, c41, c42]) ?_
          refine AL_skip ?_
          refine blockQ_n ?_
          refine rg0 [2, 3, 4, 9, 10, 30, 31] [32, 40, 456, 528] (fun K hK => by simp (decide := true) only [go_sem, Nat.reduceAdd, Nat.reduceMul, c40, c41l, c41, c42]; exact hK) ?_
          refine AL_again (m := n39) (by omega) ?_
          exact .inr (.inr (.inl ⟨_, _, _, _, _, _, _, _, _, _, _, _, _, _, _, _, _, by omega, h, At_keep [2, 3, 4, 9, 10, 30, 31] [32, 40, 456, 528]⟩))
        ·
         refine AL_else (by simp (decide := true) only [go_sem, Nat.reduceAdd, Nat.reduceMul, c40]) ?_
         refine AL_skip ?_
         refine AL_seq ?_
         rcases ite_orb h with ⟨c45, h⟩ | ⟨c45, h⟩
         ·
          refine rg1 [2, 3, 4, 9, 10, 11, 30, 31, 61] [32, 40, 456, 528] [(1, 58)] (fun K hK => by simp (decide := true) only [go_sem, Nat.reduceAdd, Nat.reduceMul, c40, c45]; exact hK) ?_
          rcases ite_orb h with ⟨c46, h⟩ | ⟨c46, h⟩
          ·
           refine AL_else (by simp (decide := true) only [go_sem, Nat.reduceAdd, Nat.reduceMul, c40, c45, c46]) ?_
           refine AL_skip ?_
           refine blockQ_n ?_
           refine rg0 [2, 3, 4, 9, 10, 30, 31] [32, 40, 456, 528] (fun K hK => by simp (decide := true) only [go_sem, Nat.reduceAdd, Nat.reduceMul, c40, c45, c46]; exact hK) ?_
           refine AL_again (m := n39) (by omega) ?_
           exact .inr (.inr (.inl ⟨_, _, _, _, _, _, _, _, _, _, _, _, _, _, _, _, _, by omega, h, At_keep [2, 3, 4, 9, 10, 30, 31] [32, 40, 456, 528]⟩))
          ·
           refine AL_then (by simp (decide := true) only [go_sem, Nat.reduceAdd, Nat.reduceMul, c40, c45, c46]) ?_
           obtain ⟨c47, h⟩ := ite_l h
           have c47l := lim8 c47
           replace c47 := eq_true c47
           refine rg0 [2, 3, 4, 9, 10, 30, 31] [32, 40, 456, 528] (fun K hK => by simp (decide := true) only [go_sem, Nat.reduceAdd, Nat.reduceMul, c40, c45, c46, c47l, c47]; exact hK) ?_
           refine blockQ_n ?_
           refine rg0 [2, 3, 4, 9, 10, 30, 31] [32, 40, 456, 528] (fun K hK => by simp (decide := true) only [go_sem, Nat.reduceAdd, Nat.reduceMul, c40, c45, c46, c47l, c47]; exact hK) ?_
           refine AL_again (m := n39) (by omega) ?_
           exact .inr (.inr (.inl ⟨_, _, _, _, _, _, _, _, _, _, _, _, _, _, _, _, _, by omega, h, At_keep [2, 3, 4, 9, 10, 30, 31] [32, 40, 456, 528]⟩))
         ·
          refine rg1 [2, 3, 4, 9, 10, 11, 30, 31, 61] [32, 40, 456, 528] [(1, 58)] (fun K hK => by simp (decide := true) only [go_sem, Nat.reduceAdd, Nat.reduceMul, c40, c45]; exact hK) ?_
          refine AL_else (by simp (decide := true) only [go_sem, Nat.reduceAdd, Nat.reduceMul, c40, c45]) ?_
          refine AL_skip ?_
          refine blockQ_n ?_
          refine rg0 [2, 3, 4, 9, 10, 30, 31] [32, 40, 456, 528] (fun K hK => by simp (decide := true) only [go_sem, Nat.reduceAdd, Nat.reduceMul, c40, c45]; exact hK) ?_
          refine AL_again (m := n39) (by omega) ?_
          exact .inr (.inr (.inl ⟨_, _, _, _, _, _, _, _, _, _, _, _, _, _, _, _, _, by omega, h, At_keep [2, 3, 4, 9, 10, 30, 31] [32, 40, 456, 528]⟩))
       ·
        obtain ⟨kk48, x2, x11, x12, x13, x30, x31, x52, x736000, x736001, x736002, x736003, x736004, x736005, x737000, x737001, x737002, x737003, x737004, x737005, x9, x10, hkq49, h, hS⟩ := hS
        rcases kk48 with _ | n50
        · (rw [impl_KindChanges.j2] at h; cases h)
        rw [impl_KindChanges.j2] at h
        refine AW_at hS ?_
        rcases ite_orb h with ⟨c51, h⟩ | ⟨c51, h⟩
        ·
         refine AL_then (by simp (decide := true) only [go_sem, Nat.reduceAdd, Nat.reduceMul, c51]) ?_
         obtain ⟨c52, h⟩ := ite_l h
         have c52l := lim8 c52
         replace c52 := eq_true c52
         obtain ⟨y746, hy746, h⟩ := bind_or h
         obtain rfl := Option.some.inj hy746
         refine rg0 [2, 3, 4, 9, 10, 11, 12, 13, 30, 31] [32, 40, 456, 528] (fun K hK => by simp (decide := true) only [go_sem, Nat.reduceAdd, Nat.reduceMul, c51, c52l, c52]; exact hK) ?_
         refine AL_seq ?_
         rcases ite_orb h with ⟨c53, h⟩ | ⟨c53, h⟩
         ·
          refine rg1 [2, 3, 4, 9, 10, 11, 30, 31, 61] [32, 40, 456, 528] [(1, 58)] (fun K hK => by simp (decide := true) only [go_sem, Nat.reduceAdd, Nat.reduceMul, c51, c52l, c52, c53]; exact hK) ?_
          rcases ite_orb h with ⟨c54, h⟩ | ⟨c54, h⟩
          ·
           refine AL_else (by simp (decide := true) only [go_sem, Nat.reduceAdd, Nat.reduceMul, c51, c52l, c52, c53, c54]) ?_
           refine AL_skip ?_
           refine blockQ_n ?_
           refine rg0 [2, 3, 4, 9, 10, 30, 31] [32, 40, 456, 528] (fun K hK => by simp (decide := true) only [go_sem, Nat.reduceAdd, Nat.reduceMul, c51, c52l, c52, c53, c54]; exact hK) ?_
           refine AL_again (m := n50) (by omega) ?_
           exact .inr (.inr (.inl ⟨_, _, _, _, _, _, _, _, _, _, _, _, _, _, _, _, _, by omega, h, At_keep [2, 3, 4, 9, 10, 30, 31] [32, 40, 456, 528]⟩))
          ·
           refine AL_then (by simp (decide := true) only [go_sem, Nat.reduceAdd, Nat.reduceMul, c51, c52l, c52, c53, c54]) ?_
           obtain ⟨c55, h⟩ := ite_l h
           have c55l := lim8 c55
           replace c55 := eq_true c55
           refine rg0 [2, 3, 4, 9, 10, 30, 31] [32, 40, 456, 528] (fun K hK => by simp (decide := true) only [go_sem, Nat.reduceAdd, Nat.reduceMul, c51, c52l, c52, c53, c54, c55l, c55]; exact hK) ?_
           refine blockQ_n ?_
           refine rg0 [2, 3, 4, 9, 10, 30, 31] [32, 40, 456, 528] (fun K hK => by simp (decide := true) only [go_sem, Nat.reduceAdd, Nat.reduceMul, c51, c52l, c52, c53, c54, c55l, c55]; exact hK) ?_
           refine AL_again (m := n50) (by omega) ?_
           exact .inr (.inr (.inl ⟨_, _, _, _, _, _, _, _, _, _, _, _, _, _, _, _, _, by omega, h, At_keep [2, 3, 4, 9, 10, 30, 31] [32, 40, 456, 528]⟩))
         ·
          refine rg1 [2, 3, 4, 9, 10, 11, 30, 31, 61] [32, 40, 456, 528] [(1, 58)] (fun K hK => by simp (decide := true) only [go_sem, Nat.reduceAdd, Nat.reduceMul, c51, c52l, c52, c53]; exact hK) ?_
          refine AL_else (by simp (decide := true) only [go_sem, Nat.reduceAdd, Nat.reduceMul, c51, c52l, c52, c53]) ?_
          refine AL_skip ?_
          refine blockQ_n ?_
          refine rg0 [2, 3, 4, 9, 10, 30, 31] [32, 40, 456, 528] (fun K hK => by simp (decide := true) only [go_sem, Nat.reduceAdd, Nat.reduceMul, c51, c52l, c52, c53]; exact hK) ?_
          refine AL_again (m := n50) (by omega) ?_
          exact .inr (.inr (.inl ⟨_, _, _, _, _, _, _, _, _, _, _, _, _, _, _, _, _, by omega, h, At_keep [2, 3, 4, 9, 10, 30, 31] [32, 40, 456, 528]⟩))
        ·
         refine AL_else (by simp (decide := true) only [go_sem, Nat.reduceAdd, Nat.reduceMul, c51]) ?_
         refine AL_skip ?_
         refine AL_seq ?_
         rcases ite_orb h with ⟨c56, h⟩ | ⟨c56, h⟩
         ·
          refine rg1 [2, 3, 4, 9, 10, 11, 30, 31, 61] [32, 40, 216, 528] [(1, 58)] (fun K hK => by simp (decide := true) only [go_sem, Nat.reduceAdd, Nat.reduceMul, c51, c56]; exact hK) ?_
          rcases ite_orb h with ⟨c57, h⟩ | ⟨c57, h⟩
          ·
           refine AL_else (by simp (decide := true) only [go_sem, Nat.reduceAdd, Nat.reduceMul, c51, c56, c57]) ?_
           refine AL_skip ?_
           refine blockQ_n ?_
           refine rg0 [2, 3, 4, 9, 10, 30, 31] [32, 40, 216, 528] (fun K hK => by simp (decide := true) only [go_sem, Nat.reduceAdd, Nat.reduceMul, c51, c56, c57]; exact hK) ?_
           refine AL_again (m := n50) (by omega) ?_
           exact .inr (.inr (.inr (⟨_, _, _, _, _, _, _, _, _, _, _, _, _, _, _, _, _, by omega, h, At_keep [2, 3, 4, 9, 10, 30, 31] [32, 40, 216, 528]⟩)))
          ·
           refine AL_then (by simp (decide := true) only [go_sem, Nat.reduceAdd, Nat.reduceMul, c51, c56, c57]) ?_
           obtain ⟨c58, h⟩ := ite_l h
           have c58l := lim8 c58
           replace c58 := eq_true c58
           refine rg0 [2, 3, 4, 9, 10, 30, 31] [32, 40, 216, 528] (fun K hK => by simp (decide := true) only [go_sem, Nat.reduceAdd, Nat.reduceMul, c51, c56, c57, c58l, c58]; exact hK) ?_
           refine blockQ_n ?_
           refine rg0 [2, 3, 4, 9, 10, 30, 31] [32, 40, 216, 528] (fun K hK => by simp (decide := true) only [go_sem, Nat.reduceAdd, Nat.reduceMul, c51, c56, c57, c58l, c58]; exact hK) ?_
           refine AL_again (m := n50) (by omega) ?_
           exact .inr (.inr (.inr (⟨_, _, _, _, _, _, _, _, _, _, _, _, _, _, _, _, _, by omega, h, At_keep [2, 3, 4, 9, 10, 30, 31] [32, 40, 216, 528]⟩)))
         ·
          refine rg1 [2, 3, 4, 9, 10, 11, 30, 31, 61] [32, 40, 216, 528] [(1, 58)] (fun K hK => by simp (decide := true) only [go_sem, Nat.reduceAdd, Nat.reduceMul, c51, c56]; exact hK) ?_
          refine AL_else (by simp (decide := true) only [go_sem, Nat.reduceAdd, Nat.reduceMul, c51, c56]) ?_
          refine AL_skip ?_
          refine blockQ_n ?_
          refine rg0 [2, 3, 4, 9, 10, 30, 31] [32, 40, 216, 528] (fun K hK => by simp (decide := true) only [go_sem, Nat.reduceAdd, Nat.reduceMul, c51, c56]; exact hK) ?_
          refine AL_again (m := n50) (by omega) ?_
          exact .inr (.inr (.inr (⟨_, _, _, _, _, _, _, _, _, _, _, _, _, _, _, _, _, by omega, h, At_keep [2, 3, 4, 9, 10, 30, 31] [32, 40, 216, 528]⟩)))
     ·
      refine AL_else (by simp (decide := true) only [go_sem, Nat.reduceAdd, Nat.reduceMul, c10]) ?_
      refine AL_exit ?_
      repeat first | refine thenQ_x ?_ | refine blockQ_miss (by decide) ?_
      refine blockQ_hit ?_
      refine AL_seq ?_
      refine rg0 [6, 7, 8] [216, 224] (fun K hK => by simp (decide := true) only [go_sem, Nat.reduceAdd, Nat.reduceMul, c10]; exact hK) ?_
      replace h := Option.some.inj h
      obtain ⟨rfl, h1⟩ := Prod.mk.inj h
      obtain ⟨rfl, rfl⟩ := Prod.mk.inj h1
      refine AL_ret (fun _ => rfl) ?_
      exact retF_mk rfl (by exact ⟨trivial, trivial, trivial, trivial⟩) rfl (by exact ⟨rfl, rfl, rfl, trivial⟩) (by exact trivial) (by exact trivial)
    ·
     obtain ⟨x2, x30, x31, x736000, x736001, x736002, x736003, x736004, x736005, x737000, x737001, x737002, x737003, x737004, x737005, x10, x9, hkq59, h, hS⟩ := hS
     rcases n with _ | n60
     · (rw [impl_KindChanges.l0] at h; cases h)
     rw [impl_KindChanges.l0] at h
     refine AW_at hS ?_
     refine AL_seq ?_
     refine rg0 [2, 3, 4, 9, 10, 30, 31, 32] [32, 40, 224, 456] (fun K hK => by simp (decide := true) only [go_sem, Nat.reduceAdd, Nat.reduceMul]; exact hK) ?_
     refine AL_seq ?_
     rcases ite_orp h with ⟨c61, h⟩ | ⟨c61, h⟩
     ·
      refine AL_then (by simp (decide := true) only [go_sem, Nat.reduceAdd, Nat.reduceMul, c61]) ?_
      refine AL_skip ?_
      refine AL_seq ?_
      refine AL_block ?_
      refine AL_seq ?_
      refine rg0 [2, 3, 4, 9, 10, 11, 30, 31] [32, 40, 224, 456] (fun K hK => by simp (decide := true) only [go_sem, Nat.reduceAdd, Nat.reduceMul, c61]; exact hK) ?_
      refine AL_seq ?_
      obtain ⟨c62, h⟩ := ite_lp h
      obtain ⟨c63, h⟩ := ite_lp h
      obtain ⟨c64, h⟩ := ite_lp h
      refine rg0 [2, 3, 4, 9, 10, 11, 12, 13, 30, 31] [32, 40, 224, 456] (fun K hK => by simp (decide := true) (maxSteps := 4000000) only [go_sem, Nat.reduceAdd, Nat.reduceMul, c61, c62, c63, c64]; exact hK) ?_
      refine AL_seq ?_
      refine AL_seq ?_
      refine AL_cut (fun S => (∃ kk : Nat, ∃ x2 x11 x12 x13 x30 x31 x52 x736000 x736001 x736002 x736003 x736004 x736005 x737000 x737001 x737002 x737003 x737004 x737005 x9 x10, kk ≤ n60 ∧ impl_KindChanges.j2 kk x2 x9 x10 x11 x12 x13 x30 x31 x52 x736000 x736001 x736002 x736003 x736004 x736005 x737000 x737001 x737002 x737003 x737004 x737005 = some (r1, r2, r3) ∧ At [(2, .int .i64 x2), (3, .ptr 32 0 0), (4, .ptr 40 0 0), (9, .ref 216), (10, .ref 224), (11, .int .i64 x11), (12, .bool x12), (13, .bool x13), (30, .int .i64 x30), (31, .int .i64 x31), (52, .bool x52)] [(32, some (.box [.int .i64 x736000, .int .i64 x736001, .int .i64 x736002, .sl false 1 (mp mkI x736003), .sl false 1 (mp mkI x736004), .sl false 1 (mp mkI x736005)])), (40, some (.box [.int .i64 x737000, .int .i64 x737001, .int .i64 x737002, .sl false 1 (mp mkI x737003), .sl false 1 (mp mkI x737004), .sl false 1 (mp mkI x737005)])), (216, some (.row 3 1 (mp mkI x9))), (224, some (.row 3 1 (mp mkI x10)))] S) ∨ (∃ kk : Nat, ∃ x2 x11 x12 x13 x30 x31 x52 x736000 x736001 x736002 x736003 x736004 x736005 x737000 x737001 x737002 x737003 x737004 x737005 x10 x9, kk ≤ n60 ∧ impl_KindChanges.j2 kk x2 x9 x10 x11 x12 x13 x30 x31 x52 x736000 x736001 x736002 x736003 x736004 x736005 x737000 x737001 x737002 x737003 x737004 x737005 = some (r1, r2, r3) ∧ At [(2, .int .i64 x2), (3, .ptr 32 0 0), (4, .ptr 40 0 0), (9, .ref 456), (10, .ref 224), (11, .int .i64 x11), (12, .bool x12), (13, .bool x13), (30, .int .i64 x30), (31, .int .i64 x31), (52, .bool x52)] [(32, some (.box [.int .i64 x736000, .int .i64 x736001, .int .i64 x736002, .sl false 1 (mp mkI x736003), .sl false 1 (mp mkI x736004), .sl false 1 (mp mkI x736005)])), (40, some (.box [.int .i64 x737000, .int .i64 x737001, .int .i64 x737002, .sl false 1 (mp mkI x737003), .sl false 1 (mp mkI x737004), .sl false 1 (mp mkI x737005)])), (224, some (.row 3 1 (mp mkI x10))), (456, some (.row 3 1 (mp mkI x9)))] S) ∨ (∃ kk : Nat, ∃ x2 x11 x12 x13 x30 x31 x52 x736000 x736001 x736002 x736003 x736004 x736005 x737000 x737001 x737002 x737003 x737004 x737005 x9 x10, kk ≤ n60 ∧ impl_KindChanges.j2 kk x2 x9 x10 x11 x12 x13 x30 x31 x52 x736000 x736001 x736002 x736003 x736004 x736005 x737000 x737001 x737002 x737003 x737004 x737005 = some (r1, r2, r3) ∧ At [(2, .int .i64 x2), (3, .ptr 32 0 0), (4, .ptr 40 0 0), (9, .ref 456), (10, .ref 528), (11, .int .i64 x11), (12, .bool x12), (13, .bool x13), (30, .int .i64 x30), (31, .int .i64 x31), (52, .bool x52)] [(32, some (.box [.int .i64 x736000, .int .i64 x736001, .int .i64 x736002, .sl false 1 (mp mkI x736003), .sl false 1 (mp mkI x736004), .sl false 1 (mp mkI x736005)])), (40, some (.box [.int .i64 x737000, .int .i64 x737001, .int .i64 x737002, .sl false 1 (mp mkI x737003), .sl false 1 (mp mkI x737004), .sl false 1 (mp mkI x737005)])), (456, some (.row 3 1 (mp mkI x9))), (528, some (.row 3 1 (mp mkI x10)))] S) ∨ (∃ kk : Nat, ∃ x2 x11 x12 x13 x30 x31 x52 x736000 x736001 x736002 x736003 x736004 x736005 x737000 x737001 x737002 x737003 x737004 x737005 x9 x10, kk ≤ n60 ∧ impl_KindChanges.j2 kk x2 x9 x10 x11 x12 x13 x30 x31 x52 x736000 x736001 x736002 x736003 x736004 x736005 x737000 x737001 x737002 x737003 x737004 x737005 = some (r1, r2, r3) ∧ At [(2, .int .i64 x2), (3, .ptr 32 0 0), (4, .ptr 40 0 0), (9, .ref 216), (10, .ref 528), (11, .int .i64 x11), (12, .bool x12), (13, .bool x13), (30, .int .i64 x30), (31, .int .i64 x31), (52, .bool x52)] [(32, some (.box [.int .i64 x736000, .int .i64 x736001, .int .i64 x736002, .sl false 1 (mp mkI x736003), .sl false 1 (mp mkI x736004), .sl false 1 (mp mkI x736005)])), (40, some (.box [.int .i64 x737000, .int .i64 x737001, .int .i64 x737002, .sl false 1 (mp mkI x737003), .sl false 1 (mp mkI x737004), .sl false 1 (mp mkI x737005)])), (216, some (.row 3 1 (mp mkI x9))), (528, some (.row 3 1 (mp mkI x10)))] S)) ?_ ?_
      ·
       rcases ite_orp h with ⟨c65, h⟩ | ⟨c65, h⟩
       ·
        refine rg1 [2, 3, 4, 9, 10, 11, 12, 13, 30, 31, 52] [32, 40, 224, 456] [(1, 49)] (fun K hK => by simp (decide := true) only [go_sem, Nat.reduceAdd, Nat.reduceMul, c61, c62, c63, c64, c65]; exact hK) ?_
        refine AL_meet ?_
        try simp only [c65, decide_true, decide_false, Bool.not_true, Bool.not_false] at h
        exact .inr (.inl ⟨_, _, _, _, _, _, _, _, _, _, _, _, _, _, _, _, _, _, _, _, _, _, by omega, h, At_keep [2, 3, 4, 9, 10, 11, 12, 13, 30, 31, 52] [32, 40, 224, 456]⟩)
       ·
        refine rg1 [2, 3, 4, 9, 10, 11, 12, 13, 30, 31, 52] [32, 40, 224, 456] [(1, 49)] (fun K hK => by simp (decide := true) only [go_sem, Nat.reduceAdd, Nat.reduceMul, c61, c62, c63, c64, c65]; exact hK) ?_
        refine AL_meet ?_
        try simp only [c65, decide_true, decide_false, Bool.not_true, Bool.not_false] at h
        exact .inr (.inl ⟨_, _, _, _, _, _, _, _, _, _, _, _, _, _, _, _, _, _, _, _, _, _, by omega, h, At_keep [2, 3, 4, 9, 10, 11, 12, 13, 30, 31, 52] [32, 40, 224, 456]⟩)
      ·
       intro S hS
       rcases hS with hS | hS | hS | hS
       ·
        obtain ⟨kk66, x2, x11, x12, x13, x30, x31, x52, x736000, x736001, x736002, x736003, x736004, x736005, x737000, x737001, x737002, x737003, x737004, x737005, x9, x10, hkq67, h, hS⟩ := hS
        rcases kk66 with _ | n68
        · (rw [impl_KindChanges.j2] at h; cases h)
        rw [impl_KindChanges.j2] at h
        refine AW_at hS ?_
        rcases ite_orb h with ⟨c69, h⟩ | ⟨c69, h⟩
        ·
         refine AL_then (by simp (decide := true) only [go_sem, Nat.reduceAdd, Nat.reduceMul, c69]) ?_
         obtain ⟨c70, h⟩ := ite_l h
         have c70l := lim8 c70
         replace c70 := eq_true c70
         obtain ⟨y746, hy746, h⟩ := bind_or h
         obtain rfl := Option.some.inj hy746
         refine rg0 [2, 3, 4, 9, 10, 11, 12, 13, 30, 31] [32, 40, 224, 456] (fun K hK => by simp (decide := true) only [go_sem, Nat.reduceAdd, Nat.reduceMul, c69, c70l, c70]; exact hK) ?_
         refine AL_seq ?_
         rcases ite_orb h with ⟨c71, h⟩ | ⟨c71, h⟩
         ·
          refine rg1 [2, 3, 4, 9, 10, 11, 30, 31, 61] [32, 40, 224, 456] [(1, 58)] (fun K hK => by simp (decide := true) only [go_sem, Nat.reduceAdd, Nat.reduceMul, c69, c70l, c70, c71]; exact hK) ?_
          rcases ite_orb h with ⟨c72, h⟩ | ⟨c72, h⟩
          ·
           refine AL_else (by simp (decide := true) only [go_sem, Nat.reduceAdd, Nat.reduceMul, c69, c70l, c70, c71, c72]) ?_
           refine AL_skip ?_
           refine blockQ_n ?_
           refine rg0 [2, 3, 4, 9, 10, 30, 31] [32, 40, 224, 456] (fun K hK => by simp (decide := true) only [go_sem, Nat.reduceAdd, Nat.reduceMul, c69, c70l, c70, c71, c72]; exact hK) ?_
           refine AL_again (m := n68) (by omega) ?_
           exact .inr (.inl ⟨_, _, _, _, _, _, _, _, _, _, _, _, _, _, _, _, _, by omega, h, At_keep [2, 3, 4, 9, 10, 30, 31] [32, 40, 224, 456]⟩)
          ·
           refine AL_then (by simp (decide := true) only [go_sem, Nat.reduceAdd, Nat.reduceMul, c69, c70l, c70, c71, c72]) ?_
           obtain ⟨c73, h⟩ := ite_l h
           have c73l := lim8 c73
           replace c73 := eq_true c73
           refine rg0 [2, 3, 4, 9, 10, 30, 31] [32, 40, 456, 528] (fun K hK => by simp (decide := true) only [go_sem, Nat.reduceAdd, Nat.reduceMul, c69, c70l, c70, c71, c72, c73l, c73]; exact hK) ?_
           refine blockQ_n ?_
           refine rg0 [2, 3, 4, 9, 10, 30, 31] [32, 40, 456, 528] (fun K hK => by simp (decide := true) only [go_sem, Nat.reduceAdd, Nat.reduceMul, c69, c70l, c70, c71, c72, c73l, c73]; exact hK) ?_
           refine AL_again (m := n68) (by omega) ?_
           exact .inr (.inr (.inl ⟨_, _, _, _, _, _, _, _, _, _, _, _, _, _, _, _, _, by omega, h, At_keep [2, 3, 4, 9, 10, 30, 31] [32, 40, 456, 528]⟩))
         ·
          refine rg1 [2, 3, 4, 9, 10, 11, 30, 31, 61] [32, 40, 224, 456] [(1, 58)] (fun K hK => by simp (decide := true) only [go_sem, Nat.reduceAdd, Nat.reduceMul, c69, c70l, c70, c71]; exact hK) ?_
          refine AL_else (by simp (decide := true) only [go_sem, Nat.reduceAdd, Nat.reduceMul, c69, c70l, c70, c71]) ?_
          refine AL_skip ?_
          refine blockQ_n ?_
          refine rg0 [2, 3, 4, 9, 10, 30, 31] [32, 40, 224, 456] (fun K hK => by simp (decide := true) only [go_sem, Nat.reduceAdd, Nat.reduceMul, c69, c70l, c70, c71]; exact hK) ?_
          refine AL_again (m := n68) (by omega) ?_
          exact .inr (.inl ⟨_, _, _, _, _, _, _, _, _, _, _, _, _, _, _, _, _, by omega, h, At_keep [2, 3, 4, 9, 10, 30, 31] [32, 40, 224, 456]⟩)
        ·
         refine AL_else (by simp (decide := true) only [go_sem, Nat.reduceAdd, Nat.reduceMul, c69]) ?_
         refine AL_skip ?_
         refine AL_seq ?_
         rcases ite_orb h with ⟨c74, h⟩ | ⟨c74, h⟩
         ·
          refine rg1 [2, 3, 4, 9, 10, 11, 30, 31, 61] [32, 40, 216, 224] [(1, 58)] (fun K hK => by simp (decide := true) only [go_sem, Nat.reduceAdd, Nat.reduceMul, c69, c74]; exact hK) ?_
          rcases ite_orb h with ⟨c75, h⟩ | ⟨c75, h⟩
          ·
           refine AL_else (by simp (decide := true) only [go_sem, Nat.reduceAdd, Nat.reduceMul, c69, c74, c75]) ?_
           refine AL_skip ?_
           refine blockQ_n ?_
           refine rg0 [2, 3, 4, 9, 10, 30, 31] [32, 40, 216, 224] (fun K hK => by simp (decide := true) only [go_sem, Nat.reduceAdd, Nat.reduceMul, c69, c74, c75]; exact hK) ?_
           refine AL_again (m := n68) (by omega) ?_
           exact .inl ⟨_, _, _, _, _, _, _, _, _, _, _, _, _, _, _, _, _, by omega, h, At_keep [2, 3, 4, 9, 10, 30, 31] [32, 40, 216, 224]⟩
          ·
           refine AL_then (by simp (decide := true) only [go_sem, Nat.reduceAdd, Nat.reduceMul, c69, c74, c75]) ?_
           obtain ⟨c76, h⟩ := ite_l h
           have c76l := lim8 c76
           replace c76 := eq_true c76
           refine rg0 [2, 3, 4, 9, 10, 30, 31] [32, 40, 216, 528] (fun K hK => by simp (decide := true) only [go_sem, Nat.reduceAdd, Nat.reduceMul, c69, c74, c75, c76l, c76]; exact hK) ?_
           refine blockQ_n ?_
           refine rg0 [2, 3, 4, 9, 10, 30, 31] [32, 40, 216, 528] (fun K hK => by simp (decide := true) only [go_sem, Nat.reduceAdd, Nat.reduceMul, c69, c74, c75, c76l, c76]; exact hK) ?_
           refine AL_again (m := n68) (by omega) ?_
           exact .inr (.inr (.inr (⟨_, _, _, _, _, _, _, _, _, _, _, _, _, _, _, _, _, by omega, h, At_keep [2, 3, 4, 9, 10, 30, 31] [32, 40, 216, 528]⟩)))
         ·
          refine rg1 [2, 3, 4, 9, 10, 11, 30, 31, 61] [32, 40, 216, 224] [(1, 58)] (fun K hK => by simp (decide := true) only [go_sem, Nat.reduceAdd, Nat.reduceMul, c69, c74]; exact hK) ?_
          refine AL_else (by simp (decide := true) only [go_sem, Nat.reduceAdd, Nat.reduceMul, c69, c74]) ?_
          refine AL_skip ?_
          refine blockQ_n ?_
          refine rg0 [2, 3, 4, 9, 10, 30, 31] [32, 40, 216, 224] (fun K hK => by simp (decide := true) only [go_sem, Nat.reduceAdd, Nat.reduceMul, c69, c74]; exact hK) ?_
          refine AL_again (m := n68) (by omega) ?_
          exact .inl ⟨_, _, _, _, _, _, _, _, _, _, _, _, _, _, _, _, _, by omega, h, At_keep [2, 3, 4, 9, 10, 30, 31] [32, 40, 216, 224]⟩
       ·
        obtain ⟨kk77, x2, x11, x12, x13, x30, x31, x52, x736000, x736001, x736002, x736003, x736004, x736005, x737000, x737001, x737002, x737003, x737004, x737005, x10, x9, hkq78, h, hS⟩ := hS
        rcases kk77 with _ | n79
        · (rw [impl_KindChanges.j2] at h; cases h)
        rw [impl_KindChanges.j2] at h
        refine AW_at hS ?_
        rcases ite_orb h with ⟨c80, h⟩ | ⟨c80, h⟩
        ·
         refine AL_then (by simp (decide := true) only [go_sem, Nat.reduceAdd, Nat.reduceMul, c80]) ?_
         obtain ⟨c81, h⟩ := ite_l h
         have c81l := lim8 c81
         replace c81 := eq_true c81
         obtain ⟨y746, hy746, h⟩ := bind_or h
         obtain rfl := Option.some.inj hy746
         refine rg0 [2, 3, 4, 9, 10, 11, 12, 13, 30, 31] [32, 40, 224, 456] (fun K hK => by simp (decide := true) only [go_sem, Nat.reduceAdd, Nat.reduceMul, c80, c81l, c81]; exact hK) ?_
         refine AL_seq ?_
         rcases ite_orb h with ⟨c82, h⟩ | ⟨c82, h⟩
         ·
          refine rg1 [2, 3, 4, 9, 10, 11, 30, 31, 61] [32, 40, 224, 456] [(1, 58)] (fun K hK => by simp (decide := true) only [go_sem, Nat.reduceAdd, Nat.reduceMul, c80, c81l, c81, c82]; exact hK) ?_
          rcases ite_orb h with ⟨c83, h⟩ | ⟨c83, h⟩
          ·
           refine AL_else (by simp (decide := true) only [go_sem, Nat.reduceAdd, Nat.reduceMul, c80, c81l, c81, c82, c83]) ?_
           refine AL_skip ?_
           refine blockQ_n ?_
           refine rg0 [2, 3, 4, 9, 10, 30, 31] [32, 40, 224, 456] (fun K hK => by simp (decide := true) only [go_sem, Nat.reduceAdd, Nat.reduceMul, c80, c81l, c81, c82, c83]; exact hK) ?_
           refine AL_again (m := n79) (by omega) ?_
           exact .inr (.inl ⟨_, _, _, _, _, _, _, _, _, _, _, _, _, _, _, _, _, by omega, h, At_keep [2, 3, 4, 9, 10, 30, 31] [32, 40, 224, 456]⟩)
          ·
           refine AL_then (by simp (decide := true) only [go_sem, Nat.reduceAdd, Nat.reduceMul, c80, c81l, c81, c82, c83]) ?_
           obtain ⟨c84, h⟩ := ite_l h
           have c84l := lim8 c84
           replace c84 := eq_true c84
           refine rg0 [2, 3, 4, 9, 10, 30, 31] [32, 40, 456, 528] (fun K hK => by simp (decide := true) only [go_sem, Nat.reduceAdd, Nat.reduceMul, c80, c81l, c81, c82, c83, c84l, c84]; exact hK) ?_
           refine blockQ_n ?_
           refine rg0 [2, 3, 4, 9, 10, 30, 31] [32, 40, 456, 528] (fun K hK => by simp (decide := true) only [go_sem, Nat.reduceAdd, Nat.reduceMul, c80, c81l, c81, c82, c83, c84l, c84]; exact hK) ?_
           refine AL_again (m := n79) (by omega) ?_
           exact .inr (.inr (.inl ⟨_, _, _, _, _, _, _, _, _, _, _, _, _, _, _, _, _, by omega, h, At_keep [2, 3, 4, 9, 10, 30, 31] [32, 40, 456, 528]⟩))
         ·
          refine rg1 [2, 3, 4, 9, 10, 11, 30, 31, 61] [32, 40, 224, 456] [(1, 58)] (fun K hK => by simp (decide := true) only [go_sem, Nat.reduceAdd, Nat.reduceMul, c80, c81l, c81, c82]; exact hK) ?_
          refine AL_else (by simp (decide := true) only [go_sem, Nat.reduceAdd, Nat.reduceMul, c80, c81l, c81, c82]) ?_
          refine AL_skip ?_
          refine blockQ_n ?_
          refine rg0 [2, 3, 4, 9, 10, 30, 31] [32, 40, 224, 456] (fun K hK => by simp (decide := true) only [go_sem, Nat.reduceAdd, Nat.reduceMul, c80, c81l, c81, c82]; exact hK) ?_
          refine AL_again (m := n79) (by omega) ?_
          exact .inr (.inl ⟨_, _, _, _, _, _, _, _, _, _, _, _, _, _, _, _, _, by omega, h, At_keep [2, 3, 4, 9, 10, 30, 31] [32, 40, 224, 456]⟩)
        ·
         refine AL_else (by simp (decide := true) only [go_sem, Nat.reduceAdd, Nat.reduceMul, c80]) ?_
         refine AL_skip ?_
         refine AL_seq ?_
         rcases ite_orb h with ⟨c85, h⟩ | ⟨c85, h⟩
         ·
          refine rg1 [2, 3, 4, 9, 10, 11, 30, 31, 61] [32, 40, 224, 456] [(1, 58)] (fun K hK => by simp (decide := true) only [go_sem, Nat.reduceAdd, Nat.reduceMul, c80, c85]; exact hK) ?_
          rcases ite_orb h with ⟨c86, h⟩ | ⟨c86, h⟩
          ·
           refine AL_else (by simp (decide := true) only [go_sem, Nat.reduceAdd, Nat.reduceMul, c80, c85, c86]) ?_
           refine AL_skip ?_
           refine blockQ_n ?_
           refine rg0 [2, 3, 4, 9, 10, 30, 31] [32, 40, 224, 456] (fun K hK => by simp (decide := true) only [go_sem, Nat.reduceAdd, Nat.reduceMul, c80, c85, c86]; exact hK) ?_
           refine AL_again (m := n79) (by omega) ?_
           exact .inr (.inl ⟨_, _, _, _, _, _, _, _, _, _, _, _, _, _, _, _, _, by omega, h, At_keep [2, 3, 4, 9, 10, 30, 31] [32, 40, 224, 456]⟩)
          ·
           refine AL_then (by simp (decide := true) only [go_sem, Nat.reduceAdd, Nat.reduceMul, c80, c85, c86]) ?_
           obtain ⟨c87, h⟩ := ite_l h
           have c87l := lim8 c87
           replace c87 := eq_true c87
           refine rg0 [2, 3, 4, 9, 10, 30, 31] [32, 40, 456, 528] (fun K hK => by simp (decide := true) only [go_sem, Nat.reduceAdd, Nat.reduceMul, c80, c85, c86, c87l, c87]; exact hK) ?_
           refine blockQ_n ?_
           refine rg0 [2, 3, 4, 9, 10, 30, 31] [32, 40, 456, 528] (fun K hK => by simp (decide := true) only [go_sem, Nat.reduceAdd, Nat.reduceMul, c80, c85, c86, c87l, c87]; exact hK) ?_
           refine AL_again (m := n79) (by omega) ?_
           exact .inr (.inr (.inl ⟨_, _, _, _, _, _, _, _, _, _, _, _, _, _, _, _, _, by omega, h, At_keep [2, 3, 4, 9, 10, 30, 31] [32, 40, 456, 528]⟩))
         ·
          refine rg1 [2, 3, 4, 9, 10, 11, 30, 31, 61] [32, 40, 224, 456] [(1, 58)] (fun K hK => by simp (decide := true) only [go_sem, Nat.reduceAdd, Nat.reduceMul, c80, c85]; exact hK) ?_
          refine AL_else (by simp (decide := true) only [go_sem, Nat.reduceAdd, Nat.reduceMul, c80, c85]) ?_
          refine AL_skip ?_
          refine blockQ_n ?_
          refine rg0 [2, 3, 4, 9, 10, 30, 31] [32, 40, 224, 456] (fun K hK => by simp (decide := true) only [go_sem, Nat.reduceAdd, Nat.reduceMul, c80, c85]; exact hK) ?_
          refine AL_again (m := n79) (by omega) ?_
          exact .inr (.inl ⟨_, _, _, _, _, _, _, _, _, _, _, _, _, _, _, _, _, by omega, h, At_keep [2, 3, 4, 9, 10, 30, 31] [32, 40, 224, 456]⟩)
       ·
        obtain ⟨kk88, x2, x11, x12, x13, x30, x31, x52, x736000, x736001, x736002, x736003, x736004, x736005, x737000, x737001, x737002, x737003, x737004, x737005, x9, x10, hkq89, h, hS⟩ := hS
        rcases kk88 with _ | n90
        · (rw [impl_KindChanges.j2] at h; cases h)
        rw [impl_KindChanges.j2] at h
        refine AW_at hS ?_
        rcases ite_orb h with ⟨c91, h⟩ | ⟨c91, h⟩
        ·
         refine AL_then (by simp (decide := true) only [go_sem, Nat.reduceAdd, Nat.reduceMul, c91]) ?_
         obtain ⟨c92, h⟩ := ite_l h
         have c92l := lim8 c92
         replace c92 := eq_true c92
         obtain ⟨y746, hy746, h⟩ := bind_or h
         obtain rfl := Option.some.inj hy746
         refine rg0 [2, 3, 4, 9, 10, 11, 12, 13, 30, 31] [32, 40, 456, 528] (fun K hK => by simp (decide := true) only [go_sem, Nat.reduceAdd, Nat.reduceMul, c91, c92l, c92]; exact hK) ?_
         refine AL_seq ?_
         rcases ite_orb h with ⟨c93, h⟩ | ⟨c93, h⟩
         ·
          refine rg1 [2, 3, 4, 9, 10, 11, 30, 31, 61] [32, 40, 456, 528] [(1, 58)] (fun K hK => by simp (decide := true) only [go_sem, Nat.reduceAdd, Nat.reduceMul, c91, c92l, c92, c93]; exact hK) ?_
          rcases ite_orb h with ⟨c94, h⟩ | ⟨c94, h⟩
          ·
           refine AL_else (by simp (decide := true) only [go_sem, Nat.reduceAdd, Nat.reduceMul, c91, c92l, c92, c93, c94]) ?_
           refine AL_skip ?_
           refine blockQ_n ?_
           refine rg0 [2, 3, 4, 9, 10, 30, 31] [32, 40, 456, 528] (fun K hK => by simp (decide := true) only [go_sem, Nat.reduceAdd, Nat.reduceMul, c91, c92l, c92, c93, c94]; exact hK) ?_
           refine AL_again (m := n90) (by omega) ?_
           exact .inr (.inr (.inl ⟨_, _, _, _, _, _, _, _, _, _, _, _, _, _, _, _, _, by omega, h, At_keep [2, 3, 4, 9, 10, 30, 31] [32, 40, 456, 528]⟩))
          ·
           refine AL_then (by simp (decide := true) only [go_sem, Nat.reduceAdd, Nat.reduceMul, c91, c92l, c92, c93, c94]) ?_
           obtain ⟨c95, h⟩ := ite_l h
           have c95l := lim8 c95
           replace c95 := eq_true c95
           refine rg0 [2, 3, 4, 9, 10, 30, 31] [32, 40, 456, 528] (fun K hK => by simp (decide := true) only [go_sem, Nat.reduceAdd, Nat.reduceMul, c91, c92l, c92, c93, c94, c95l, c95]; exact hK) ?_
           refine blockQ_n ?_
           refine rg0 [2, 3, 4, 9, 10, 30, 31] [32, 40, 456, 528] (fun K hK => by simp (decide := true) only [go_sem, Nat.reduceAdd, Nat.reduceMul, c91, c92l, c92, c93, c94, c95l, c95]; exact hK) ?_
           refine AL_again (m := n90) (by omega) ?_
           exact .inr (.inr (.inl ⟨_, _, _, _, _, _, _, _, _, _, _, _, _, _, _, _, _, by omega, h, At_keep [2, 3, 4, 9, 10, 30, 31] [32, 40, 456, 528]⟩))
         ·
          refine rg1 [2, 3, 4, 9, 10, 11, 30, 31, 61] [32, 40, 456, 528] [(1, 58)] (fun K hK => by simp (decide := true) only [go_sem, Nat.reduceAdd, Nat.reduceMul, c91, c92l, c92, c93]; exact hK) ?_
          refine AL_else (by simp (decide := true) only [go_sem, Nat.reduceAdd, Nat.reduceMul, c91, c92l, c92, c93]) ?_
          refine AL_skip ?_
          refine blockQ_n ?_
          refine rg0 [2, 3, 4, 9, 10, 30, 31] [32, 40, 456, 528] (fun K hK => by simp (decide := true) only [go_sem, Nat.reduceAdd, Nat.reduceMul, c91, c92l, c92, c93]; exact hK) ?_
          refine AL_again (m := n90) (by omega) ?_
          exact .inr (.inr (.inl ⟨_, _, _, _, _, _, _, _, _, _, _, _, _, _, _, _, _, by omega, h, At_keep [2, 3, 4, 9, 10, 30, 31] [32, 40, 456, 528]⟩))
        ·
         refine AL_else (by simp (decide := true) only [go_sem, Nat.reduceAdd, Nat.reduceMul, c91]) ?_
         refine AL_skip ?_
         refine AL_seq ?_
         rcases ite_orb h with ⟨c96, h⟩ | ⟨c96, h⟩
         ·
          refine rg1 [2, 3, 4, 9, 10, 11, 30, 31, 61] [32, 40, 456, 528] [(1, 58)] (fun K hK => by simp (decide := true) only [go_sem, Nat.reduceAdd, Nat.reduceMul, c91, c96]; exact hK) ?_
          rcases ite_orb h with ⟨c97, h⟩ | ⟨c97, h⟩
          ·
           refine AL_else (by simp (decide := true) only [go_sem, Nat.reduceAdd, Nat.reduceMul, c91, c96, c97]) ?_
           refine AL_skip ?_
           refine blockQ_n ?_
           refine rg0 [2, 3, 4, 9, 10, 30, 31] [32, 40, 456, 528] (fun K hK => by simp (decide := true) only [go_sem, Nat.reduceAdd, Nat.reduceMul, c91, c96, c97]; exact hK) ?_
           refine AL_again (m := n90) (by omega) ?_
           exact .inr (.inr (.inl ⟨_, _, _, _, _, _, _, _, _, _, _, _, _, _, _, _, _, by omega, h, At_keep [2, 3, 4, 9, 10, 30, 31] [32, 40, 456, 528]⟩))
          ·
           refine AL_then (by simp (decide := true) only [go_sem, Nat.reduceAdd, Nat.reduceMul, c91, c96, c97]) ?_
           obtain ⟨c98, h⟩ := ite_l h
           have c98l := lim8 c98
           replace c98 := eq_true c98
           refine rg0 [2, 3, 4, 9, 10, 30, 31] [32, 40, 456, 528] (fun K hK => by simp (decide := true) only [go_sem, Nat.reduceAdd, Nat.reduceMul, c91, c96, c97, c98l, c98]; exact hK) ?_
           refine blockQ_n ?_
           refine rg0 [2, 3, 4, 9, 10, 30, 31] [32, 40, 456, 528] (fun K hK => by simp (decide := true) only [go_sem, Nat.reduceAdd, Nat.reduceMul, c91, c96, c97, c98l, c98]; exact hK) ?_
           refine AL_again (m := n90) (by omega) ?_
           exact .inr (.inr (.inl ⟨_, _, _, _, _, _, _, _, _, _, _, _, _, _, _, _, _, by omega, h, At_keep [2, 3, 4, 9, 10, 30, 31] [32, 40, 456, 528]⟩))
         ·
          refine rg1 [2, 3, 4, 9, 10, 11, 30, 31, 61] [32, 40, 456, 528] [(1, 58)] (fun K hK => by simp (decide := true) only [go_sem, Nat.reduceAdd, Nat.reduceMul, c91, c96]; exact hK) ?_
          refine AL_else (by simp (decide := true) only [go_sem, Nat.reduceAdd, Nat.reduceMul, c91, c96]) ?_
          refine AL_skip ?_
          refine blockQ_n ?_
          refine rg0 [2, 3, 4, 9, 10, 30, 31] [32, 40, 456, 528] (fun K hK => by simp (decide := true) only [go_sem, Nat.reduceAdd, Nat.reduceMul, c91, c96]; exact hK) ?_
          refine AL_again (m := n90) (by omega) ?_
          exact .inr (.inr (.inl ⟨_, _, _, _, _, _, _, _, _, _, _, _, _, _, _, _, _, by omega, h, At_keep [2, 3, 4, 9, 10, 30, 31] [32, 40, 456, 528]⟩))
       ·
        obtain ⟨kk99, x2, x11, x12, x13, x30, x31, x52, x736000, x736001, x736002, x736003, x736004, x736005, x737000, x737001, x737002, x737003, x737004, x737005, x9, x10, hkq100, h, hS⟩ := hS
        rcases kk99 with _ | n101
        · (rw [impl_KindChanges.j2] at h; cases h)
        rw [impl_KindChanges.j2] at h
        refine AW_at hS ?_
        rcases ite_orb h with ⟨c102, h⟩ | ⟨c102, h⟩
        ·
         refine AL_then (by simp (decide := true) only [go_sem, Nat.reduceAdd, Nat.reduceMul, c102]) ?_
         obtain ⟨c103, h⟩ := ite_l h
         have c103l := lim8 c103
         replace c103 := eq_true c103
         obtain ⟨y746, hy746, h⟩ := bind_or h
         obtain rfl := Option.some.inj hy746
         refine rg0 [2, 3, 4, 9, 10, 11, 12, 13, 30, 31] [32, 40, 456, 528] (fun K hK => by simp (decide := true) only [go_sem, Nat.reduceAdd, Nat.reduceMul, c102, c103l, c103]; exact hK) ?_
         refine AL_seq ?_
         rcases ite_orb h with ⟨c104, h⟩ | ⟨c104, h⟩
         ·
          refine rg1 [2, 3, 4, 9, 10, 11, 30, 31, 61] [32, 40, 456, 528] [(1, 58)] (fun K hK => by simp (decide := true) only [go_sem, Nat.reduceAdd, Nat.reduceMul, c102, c103l, c103, c104]; exact hK) ?_
          rcases ite_orb h with ⟨c105, h⟩ | ⟨c105, h⟩
          ·
           refine AL_else (by simp (decide := true) only [go_sem, Nat.reduceAdd, Nat.reduceMul, c102, c103l, c103, c104, c105]) ?_
           refine AL_skip ?_
           refine blockQ_n ?_
           refine rg0 [2, 3, 4, 9, 10, 30, 31] [32, 40, 456, 528] (fun K hK => by simp (decide := true) only [go_sem, Nat.reduceAdd, Nat.reduceMul, c102, c103l, c103, c104, c105]; exact hK) ?_
           refine AL_again (m := n101) (by omega) ?_
           exact .inr (.inr (.inl ⟨_, _, _, _, _, _, _, _, _, _, _, _, _, _, _, _, _, by omega, h, At_keep [2, 3, 4, 9, 10, 30, 31] [32, 40, 456, 528]⟩))
          ·
           refine AL_then (by simp (decide := true) only [go_sem, Nat.reduceAdd, Nat.reduceMul, c102, c103l, c103, c104, c105]) ?_
           obtain ⟨c106, h⟩ := ite_l h
           have c106l := lim8 c106
           replace c106 := eq_true c106
           refine rg0 [2, 3, 4, 9, 10, 30, 31] [32, 40, 456, 528] (fun K hK => by simp (decide := true) only [go_sem, Nat.reduceAdd, Nat.reduceMul, c102, c103l, c103, c104, c105, c106l, c106]; exact hK) ?_
           refine blockQ_n ?_
           refine rg0 [2, 3, 4, 9, 10, 30, 31] [32, 40, 456, 528] (fun K hK => by simp (decide := true) only [go_sem, Nat.reduceAdd, Nat.reduceMul, c102, c103l, c103, c104, c105, c106l, c106]; exact hK) ?_
           refine AL_again (m := n101) (by omega) ?_
           exact .inr (.inr (.inl ⟨_, _, _, _, _, _, _, _, _, _, _, _, _, _, _, _, _, by omega, h, At_keep [2, 3, 4, 9, 10, 30, 31] [32, 40, 456, 528]⟩))
         ·
          refine rg1 [2, 3, 4, 9, 10, 11, 30, 31, 61] [32, 40, 456, 528] [(1, 58)] (fun K hK => by simp (decide := true) only [go_sem, Nat.reduceAdd, Nat.reduceMul, c102, c103l, c103, c104]; exact hK) ?_
          refine AL_else (by simp (decide := true) only [go_sem, Nat.reduceAdd, Nat.reduceMul, c102, c103l, c103, c104]) ?_
          refine AL_skip ?_
          refine blockQ_n ?_
          refine rg0 [2, 3, 4, 9, 10, 30, 31] [32, 40, 456, 528] (fun K hK => by simp (decide := true) only [go_sem, Nat.reduceAdd, Nat.reduceMul, c102, c103l, c103, c104]; exact hK) ?_
          refine AL_again (m := n101) (by omega) ?_
          exact .inr (.inr (.inl ⟨_, _, _, _, _, _, _, _, _, _, _, _, _, _, _, _, _, by omega, h, At_keep [2, 3, 4, 9, 10, 30, 31] [32, 40, 456, 528]⟩))
        ·
         refine AL_else (by simp (decide := true) only [go_sem, Nat.reduceAdd, Nat.reduceMul, c102]) ?_
         refine AL_skip ?_
         refine AL_seq ?_
         rcases ite_orb h with ⟨c107, h⟩ | ⟨c107, h⟩
         ·
          refine rg1 [2, 3, 4, 9, 10, 11, 30, 31, 61] [32, 40, 216, 528] [(1, 58)] (fun K hK => by simp (decide := true) only [go_sem, Nat.reduceAdd, Nat.reduceMul, c102, c107]; exact hK) ?_
          rcases ite_orb h with ⟨c108, h⟩ | ⟨c108, h⟩
          ·
           refine AL_else (by simp (decide := true) only [go_sem, Nat.reduceAdd, Nat.reduceMul, c102, c107, c108]) ?_
           refine AL_skip ?_
           refine blockQ_n ?_
           refine rg0 [2, 3, 4, 9, 10, 30, 31] [32, 40, 216, 528] (fun K hK => by simp (decide := true) only [go_sem, Nat.reduceAdd, Nat.reduceMul, c102, c107, c108]; exact hK) ?_
           refine AL_again (m := n101) (by omega) ?_
           exact .inr (.inr (.inr (⟨_, _, _, _, _, _, _, _, _, _, _, _, _, _, _, _, _, by omega, h, At_keep [2, 3, 4, 9, 10, 30, 31] [32, 40, 216, 528]⟩)))
          ·
           refine AL_then (by simp (decide := true) only [go_sem, Nat.reduceAdd, Nat.reduceMul, c102, c107, c108]) ?_
           obtain ⟨c109, h⟩ := ite_l h
           have c109l := lim8 c109
           replace c109 := eq_true c109
           refine rg0 [2, 3, 4, 9, 10, 30, 31] [32, 40, 216, 528] (fun K hK => by simp (decide := true) only [go_sem, Nat.reduceAdd, Nat.reduceMul, c102, c107, c108, c109l, c109]; exact hK) ?_
           refine blockQ_n ?_
           refine rg0 [2, 3, 4, 9, 10, 30, 31] [32, 40, 216, 528] (fun K hK => by simp (decide := true) only [go_sem, Nat.reduceAdd, Nat.reduceMul, c102, c107, c108, c109l, c109]; exact hK) ?_
           refine AL_again (m := n101) (by omega) ?_
           exact .inr (.inr (.inr (⟨_, _, _, _, _, _, _, _, _, _, _, _, _, _, _, _, _, by omega, h, At_keep [2, 3, 4, 9, 10, 30, 31] [32, 40, 216, 528]⟩)))
         ·
          refine rg1 [2, 3, 4, 9, 10, 11, 30, 31, 61] [32, 40, 216, 528] [(1, 58)] (fun K hK => by simp (decide := true) only [go_sem, Nat.reduceAdd, Nat.reduceMul, c102, c107]; exact hK) ?_
          refine AL_else (by simp (decide := true) only [go_sem, Nat.reduceAdd, Nat.reduceMul, c102, c107]) ?_
          refine AL_skip ?_
          refine blockQ_n ?_
          refine rg0 [2, 3, 4, 9, 10, 30, 31] [32, 40, 216, 528] (fun K hK => by simp (decide := true) only [go_sem, Nat.reduceAdd, Nat.reduceMul, c102, c107]; exact hK) ?_
          refine AL_again (m := n101) (by omega) ?_
          exact .inr (.inr (.inr (⟨_, _, _, _, _, _, _, _, _, _, _, _, _, _, _, _, _, by omega, h, At_keep [2, 3, 4, 9, 10, 30, 31] [32, 40, 216, 528]⟩)))
     ·
      refine AL_else (by simp (decide := true) only [go_sem, Nat.reduceAdd, Nat.reduceMul, c61]) ?_
      refine AL_exit ?_
      repeat first | refine thenQ_x ?_ | refine blockQ_miss (by decide) ?_
      refine blockQ_hit ?_
      refine AL_seq ?_
      refine rg0 [6, 7, 8] [224, 456] (fun K hK => by simp (decide := true) only [go_sem, Nat.reduceAdd, Nat.reduceMul, c61]; exact hK) ?_
      replace h := Option.some.inj h
      obtain ⟨rfl, h1⟩ := Prod.mk.inj h
      obtain ⟨rfl, rfl⟩ := Prod.mk.inj h1
      refine AL_ret (fun _ => rfl) ?_
      exact retF_mk rfl (by exact ⟨trivial, trivial, trivial, trivial⟩) rfl (by exact ⟨rfl, rfl, rfl, trivial⟩) (by exact trivial) (by exact trivial)
    ·
     obtain ⟨x2, x30, x31, x736000, x736001, x736002, x736003, x736004, x736005, x737000, x737001, x737002, x737003, x737004, x737005, x9, x10, hkq110, h, hS⟩ := hS
     rcases n with _ | n111
     · (rw [impl_KindChanges.l0] at h; cases h)
     rw [impl_KindChanges.l0] at h
     refine AW_at hS ?_
     refine AL_seq ?_
     refine rg0 [2, 3, 4, 9, 10, 30, 31, 32] [32, 40, 456, 528] (fun K hK => by simp (decide := true) only [go_sem, Nat.reduceAdd, Nat.reduceMul]; exact hK) ?_
     refine AL_seq ?_
     rcases ite_orp h with ⟨c112, h⟩ | ⟨c112, h⟩
     ·
      refine AL_then (by simp (decide := true) only [go_sem, Nat.reduceAdd, Nat.reduceMul, c112]) ?_
      refine AL_skip ?_
      refine AL_seq ?_
      refine AL_block ?_
      refine AL_seq ?_
      refine rg0 [2, 3, 4, 9, 10, 11, 30, 31] [32, 40, 456, 528] (fun K hK => by simp (decide := true) only [go_sem, Nat.reduceAdd, Nat.reduceMul, c112]; exact hK) ?_
      refine AL_seq ?_
      obtain ⟨c113, h⟩ := ite_lp h
      obtain ⟨c114, h⟩ := ite_lp h
      obtain ⟨c115, h⟩ := ite_lp h
      refine rg0 [2, 3, 4, 9, 10, 11, 12, 13, 30, 31] [32, 40, 456, 528] (fun K hK => by simp (decide := true) (maxSteps := 4000000) only [go_sem, Nat.reduceAdd, Nat.reduceMul, c112, c113, c114, c115]; exact hK) ?_
      refine AL_seq ?_
      refine AL_seq ?_
      refine AL_cut (fun S => (∃ kk : Nat, ∃ x2 x11 x12 x13 x30 x31 x52 x736000 x736001 x736002 x736003 x736004 x736005 x737000 x737001 x737002 x737003 x737004 x737005 x9 x10, kk ≤ n111 ∧ impl_KindChanges.j2 kk x2 x9 x10 x11 x12 x13 x30 x31 x52 x736000 x736001 x736002 x736003 x736004 x736005 x737000 x737001 x737002 x737003 x737004 x737005 = some (r1, r2, r3) ∧ At [(2, .int .i64 x2), (3, .ptr 32 0 0), (4, .ptr 40 0 0), (9, .ref 216), (10, .ref 224), (11, .int .i64 x11), (12, .bool x12), (13, .bool x13), (30, .int .i64 x30), (31, .int .i64 x31), (52, .bool x52)] [(32, some (.box [.int .i64 x736000, .int .i64 x736001, .int .i64 x736002, .sl false 1 (mp mkI x736003), .sl false 1 (mp mkI x736004), .sl false 1 (mp mkI x736005)])), (40, some (.box [.int .i64 x737000, .int .i64 x737001, .int .i64 x737002, .sl false 1 (mp mkI x737003), .sl false 1 (mp mkI x737004), .sl false 1 (mp mkI x737005)])), (216, some (.row 3 1 (mp mkI x9))), (224, some (.row 3 1 (mp mkI x10)))] S) ∨ (∃ kk : Nat, ∃ x2 x11 x12 x13 x30 x31 x52 x736000 x736001 x736002 x736003 x736004 x736005 x737000 x737001 x737002 x737003 x737004 x737005 x10 x9, kk ≤ n111 ∧ impl_KindChanges.j2 kk x2 x9 x10 x11 x12 x13 x30 x31 x52 x736000 x736001 x736002 x736003 x736004 x736005 x737000 x737001 x737002 x737003 x737004 x737005 = some (r1, r2, r3) ∧ At [(2, .int .i64 x2), (3, .ptr 32 0 0), (4, .ptr 40 0 0), (9, .ref 456), (10, .ref 224), (11, .int .i64 x11), (12, .bool x12), (13, .bool x13), (30, .int .i64 x30), (31, .int .i64 x31), (52, .bool x52)] [(32, some (.box [.int .i64 x736000, .int .i64 x736001, .int .i64 x736002, .sl false 1 (mp mkI x736003), .sl false 1 (mp mkI x736004), .sl false 1 (mp mkI x736005)])), (40, some (.box [.int .i64 x737000, .int .i64 x737001, .int .i64 x737002, .sl false 1 (mp mkI x737003), .sl false 1 (mp mkI x737004), .sl false 1 (mp mkI x737005)])), (224, some (.row 3 1 (mp mkI x10))), (456, some (.row 3 1 (mp mkI x9)))] S) ∨ (∃ kk : Nat, ∃ x2 x11 x12 x13 x30 x31 x52 x736000 x736001 x736002 x736003 x736004 x736005 x737000 x737001 x737002 x737003 x737004 x737005 x9 x10, kk ≤ n111 ∧ impl_KindChanges.j2 kk x2 x9 x10 x11 x12 x13 x30 x31 x52 x736000 x736001 x736002 x736003 x736004 x736005 x737000 x737001 x737002 x737003 x737004 x737005 = some (r1, r2, r3) ∧ At [(2, .int .i64 x2), (3, .ptr 32 0 0), (4, .ptr 40 0 0), (9, .ref 456), (10, .ref 528), (11, .int .i64 x11), (12, .bool x12), (13, .bool x13), (30, .int .i64 x30), (31, .int .i64 x31), (52, .bool x52)] [(32, some (.box [.int .i64 x736000, .int .i64 x736001, .int .i64 x736002, .sl false 1 (mp mkI x736003), .sl false 1 (mp mkI x736004), .sl false 1 (mp mkI x736005)])), (40, some (.box [.int .i64 x737000, .int .i64 x737001, .int .i64 x737002, .sl false 1 (mp mkI x737003), .sl false 1 (mp mkI x737004), .sl false 1 (mp mkI x737005)])), (456, some (.row 3 1 (mp mkI x9))), (528, some (.row 3 1 (mp mkI x10)))] S) ∨ (∃ kk : Nat, ∃ x2 x11 x12 x13 x30 x31 x52 x736000 x736001 x736002 x736003 x736004 x736005 x737000 x737001 x737002 x737003 x737004 x737005 x9 x10, kk ≤ n111 ∧ impl_KindChanges.j2 kk x2 x9 x10 x11 x12 x13 x30 x31 x52 x736000 x736001 x736002 x736003 x736004 x736005 x737000 x737001 x737002 x737003 x737004 x737005 = some (r1, r2, r3) ∧ At [(2, .int .i64 x2), (3, .ptr 32 0 0), (4, .ptr 40 0 0), (9, .ref 216), (10, .ref 528), (11, .int .i64 x11), (12, .bool x12), (13, .bool x13), (30, .int .i64 x30), (31, .int .i64 x31), (52, .bool x52)] [(32, some (.box [.int .i64 x736000, .int .i64 x736001, .int .i64 x736002, .sl false 1 (mp mkI x736003), .sl false 1 (mp mkI x736004), .sl false 1 (mp mkI x736005)])), (40, some (.box [.int .i64 x737000, .int .i64 x737001, .int .i64 x737002, .sl false 1 (mp mkI x737003), .sl false 1 (mp mkI x737004), .sl false 1 (mp mkI x737005)])), (216, some (.row 3 1 (mp mkI x9))), (528, some (.row 3 1 (mp mkI x10)))] S)) ?_ ?_
      ·
       rcases ite_orp h with ⟨c116, h⟩ | ⟨c116, h⟩
       ·
        refine rg1 [2, 3, 4, 9, 10, 11, 12, 13, 30, 31, 52] [32, 40, 456, 528] [(1, 49)] (fun K hK => by simp (decide := true) only [go_sem, Nat.reduceAdd, Nat.reduceMul, c112, c113, c114, c115, c116]; exact hK) ?_
        refine AL_meet ?_
        try simp only [c116, decide_true, decide_false, Bool.not_true, Bool.not_false] at h
        exact .inr (.inr (.inl ⟨_, _, _, _, _, _, _, _, _, _, _, _, _, _, _, _, _, _, _, _, _, _, by omega, h, At_keep [2, 3, 4, 9, 10, 11, 12, 13, 30, 31, 52] [32, 40, 456, 528]⟩))
       ·
        refine rg1 [2, 3, 4, 9, 10, 11, 12, 13, 30, 31, 52] [32, 40, 456, 528] [(1, 49)] (fun K hK => by simp (decide := true) only [go_sem, Nat.reduceAdd, Nat.reduceMul, c112, c113, c114, c115, c116]; exact hK) ?_
        refine AL_meet ?_
        try simp only [c116, decide_true, decide_false, Bool.not_true, Bool.not_false] at h
        exact .inr (.inr (.inl ⟨_, _, _, _, _, _, _, _, _, _, _, _, _, _, _, _, _, _, _, _, _, _, by omega, h, At_keep [2, 3, 4, 9, 10, 11, 12, 13, 30, 31, 52] [32, 40, 456, 528]⟩))
      ·
       intro S hS
       rcases hS with hS | hS | hS | hS
       ·
        obtain ⟨kk117, x2, x11, x12, x13, x30, x31, x52, x736000, x736001, x736002, x736003, x736004, x736005, x737000, x737001, x737002, x737003, x737004, x737005, x9, x10, hkq118, h, hS⟩ := hS
        rcases kk117 with _ | n119
        · (rw [impl_KindChanges.j2] at h; cases h)
        rw [impl_KindChanges.j2] at h
        refine AW_at hS ?_
        rcases ite_orb h with ⟨c120, h⟩ | ⟨c120, h⟩
        ·
         refine AL_then (by simp (decide := true) only [go_sem, Nat.reduceAdd, Nat.reduceMul, c120]) ?_
         obtain ⟨c121, h⟩ := ite_l h
         have c121l := lim8 c121
         replace c121 := eq_true c121
         obtain ⟨y746, hy746, h⟩ := bind_or h
         obtain rfl := Option.some.inj hy746
         refine rg0 [2, 3, 4, 9, 10, 11, 12, 13, 30, 31] [32, 40, 224, 456] (fun K hK => by simp (decide := true) only [go_sem, Nat.reduceAdd, Nat.reduceMul, c120, c121l, c121]; exact hK) ?_
         refine AL_seq ?_
         rcases ite_orb h with ⟨c122, h⟩ | ⟨c122, h⟩
         ·
          refine rg1 [2, 3, 4, 9, 10, 11, 30, 31, 61] [32, 40, 224, 456] [(1, 58)] (fun K hK => by simp (decide := true) only [go_sem, Nat.reduceAdd, Nat.reduceMul, c120, c121l, c121, c122]; exact hK) ?_
          rcases ite_orb h with ⟨c123, h⟩ | ⟨c123, h⟩
          ·
           refine AL_else (by simp (decide := true) only [go_sem, Nat.reduceAdd, Nat.reduceMul, c120, c121l, c121, c122, c123]) ?_
           refine AL_skip ?_
           refine blockQ_n ?_
           refine rg0 [2, 3, 4, 9, 10, 30, 31] [32, 40, 224, 456] (fun K hK => by simp (decide := true) only [go_sem, Nat.reduceAdd, Nat.reduceMul, c120, c121l, c121, c122, c123]; exact hK) ?_
           refine AL_again (m := n119) (by omega) ?_
           exact .inr (.inl ⟨_, _, _, _, _, _, _, _, _, _, _, _, _, _, _, _, _, by omega, h, At_keep [2, 3, 4, 9, 10, 30, 31] [32, 40, 224, 456]⟩)
          ·
           refine AL_then (by simp (decide := true) only [go_sem, Nat.reduceAdd, Nat.reduceMul, c120, c121l, c121, c122, c123]) ?_
           obtain ⟨c124, h⟩ := ite_l h
           have c124l := lim8 c124
           replace c124 := eq_true c124
           refine rg0 [2, 3, 4, 9, 10, 30, 31] [32, 40, 456, 528] (fun K hK => by simp (decide := true) only [go_sem, Nat.reduceAdd, Nat.reduceMul, c120, c121l, c121, c122, c123, c124l, c124]; exact hK) ?_
           refine blockQ_n ?_
           refine rg0 [2, 3, 4, 9, 10, 30, 31] [32, 40, 456, 528] (fun K hK => by simp (decide := true) only [go_sem, Nat.reduceAdd, Nat.reduceMul, c120, c121l, c121, c122, c123, c124l, c124]; exact hK) ?_
           refine AL_again (m := n119) (by omega) ?_
           exact .inr (.inr (.inl ⟨_, _, _, _, _, _, _, _, _, _, _, _, _, _, _, _, _, by omega, h, At_keep [2, 3, 4, 9, 10, 30, 31] [32, 40, 456, 528]⟩))
         ·
          refine rg1 [2, 3, 4, 9, 10, 11, 30, 31, 61] [32, 40, 224, 456] [(1, 58)] (fun K hK => by simp (decide := true) only [go_sem, Nat.reduceAdd, Nat.reduceMul, c120, c121l, c121, c122]; exact hK) ?_
          refine AL_else (by simp (decide := true) only [go_sem, Nat.reduceAdd, Nat.reduceMul, c120, c121l, c121, c122]) ?_
          refine AL_skip ?_
          refine blockQ_n ?_
          refine rg0 [2, 3, 4, 9, 10, 30, 31] [32, 40, 224, 456] (fun K hK => by simp (decide := true) only [go_sem, Nat.reduceAdd, Nat.reduceMul, c120, c121l, c121, c122]; exact hK) ?_
          refine AL_again (m := n119) (by omega) ?_
          exact .inr (.inl ⟨_, _, _, _, _, _, _, _, _, _, _, _, _, _, _, _, _, by omega, h, At_keep [2, 3, 4, 9, 10, 30, 31] [32, 40, 224, 456]⟩)
        ·
         refine AL_else (by simp (decide := true) only [go_sem, Nat.reduceAdd, Nat.reduceMul, c120]) ?_
         refine AL_skip ?_
         refine AL_seq ?_
         rcases ite_orb h with ⟨c125, h⟩ | ⟨c125, h⟩
         ·
          refine rg1 [2, 3, 4, 9, 10, 11, 30, 31, 61] [32, 40, 216, 224] [(1, 58)] (fun K hK => by simp (decide := true) only [go_sem, Nat.reduceAdd, Nat.reduceMul, c120, c125]; exact hK) ?_
          rcases ite_orb h with ⟨c126, h⟩ | ⟨c126, h⟩
          ·
           refine AL_else (by simp (decide := true) only [go_sem, Nat.reduceAdd, Nat.reduceMul, c120, c125, c126]) ?_
           refine AL_skip ?_
           refine blockQ_n ?_
           refine rg0 [2, 3, 4, 9, 10, 30, 31] [32, 40, 216, 224] (fun K hK => by simp (decide := true) only [go_sem, Nat.reduceAdd, Nat.reduceMul, c120, c125, c126]; exact hK) ?_
           refine AL_again (m := n119) (by omega) ?_
           exact .inl ⟨_, _, _, _, _, _, _, _, _, _, _, _, _, _, _, _, _, by omega, h, At_keep [2, 3, 4, 9, 10, 30, 31] [32, 40, 216, 224]⟩
          ·
           refine AL_then (by simp (decide := true) only [go_sem, Nat.reduceAdd, Nat.reduceMul, c120, c125, c126]) ?_
           obtain ⟨c127, h⟩ := ite_l h
           have c127l := lim8 c127
           replace c127 := eq_true c127
           refine rg0 [2, 3, 4, 9, 10, 30, 31] [32, 40, 216, 528] (fun K hK => by simp (decide := true) only [go_sem, Nat.reduceAdd, Nat.reduceMul, c120, c125, c126, c127l, c127]; exact hK) ?_
           refine blockQ_n ?_
           refine rg0 [2, 3, 4, 9, 10, 30, 31] [32, 40, 216, 528] (fun K hK => by simp (decide := true) only [go_sem, Nat.reduceAdd, Nat.reduceMul, c120, c125, c126, c127l, c127]; exact hK) ?_
           refine AL_again (m := n119) (by omega) ?_
           exact .inr (.inr (.inr (⟨_, _, _, _, _, _, _, _, _, _, _, _, _, _, _, _, _, by omega, h, At_keep [2, 3, 4, 9, 10, 30, 31] [32, 40, 216, 528]⟩)))
         ·
          refine rg1 [2, 3, 4, 9, 10, 11, 30, 31, 61] [32, 40, 216, 224] [(1, 58)] (fun K hK => by simp (decide := true) only [go_sem, Nat.reduceAdd, Nat.reduceMul, c120, c125]; exact hK) ?_
          refine AL_else (by simp (decide := true) only [go_sem, Nat.reduceAdd, Nat.reduceMul, c120, c125]) ?_
          refine AL_skip ?_
          refine blockQ_n ?_
          refine rg0 [2, 3, 4, 9, 10, 30, 31] [32, 40, 216, 224] (fun K hK => by simp (decide := true) only [go_sem, Nat.reduceAdd, Nat.reduceMul, c120, c125]; exact hK) ?_
          refine AL_again (m := n119) (by omega) ?_
          exact .inl ⟨_, _, _, _, _, _, _, _, _, _, _, _, _, _, _, _, _, by omega, h, At_keep [2, 3, 4, 9, 10, 30, 31] [32, 40, 216, 224]⟩
       ·
        obtain ⟨kk128, x2, x11, x12, x13, x30, x31, x52, x736000, x736001, x736002, x736003, x736004, x736005, x737000, x737001, x737002, x737003, x737004, x737005, x10, x9, hkq129, h, hS⟩ := hS
        rcases kk128 with _ | n130
        · (rw [impl_KindChanges.j2] at h; cases h)
        rw [impl_KindChanges.j2] at h
        refine AW_at hS ?_
        rcases ite_orb h with ⟨c131, h⟩ | ⟨c131, h⟩
        ·
         refine AL_then (by simp (decide := true) only [go_sem, Nat.reduceAdd, Nat.reduceMul, c131]) ?_
         obtain ⟨c132, h⟩ := ite_l h
         have c132l := lim8 c132
         replace c132 := eq_true c132
         obtain ⟨y746, hy746, h⟩ := bind_or h
         obtain rfl := Option.some.inj hy746
         refine rg0 [2, 3, 4, 9, 10, 11, 12, 13, 30, 31] [32, 40, 224, 456] (fun K hK => by simp (decide := true) only [go_sem, Nat.reduceAdd, Nat.reduceMul, c131, c132l, c132]; exact hK) ?_
         refine AL_seq ?_
         rcases ite_orb h with ⟨c133, h⟩ | ⟨c133, h⟩
         ·
          refine rg1 [2, 3, 4, 9, 10, 11, 30, 31, 61] [32, 40, 224, 456] [(1, 58)] (fun K hK => by simp (decide := true) only [go_sem, Nat.reduceAdd, Nat.reduceMul, c131, c132l, c132, c133]; exact hK) ?_
          rcases ite_orb h with ⟨c134, h⟩ | ⟨c134, h⟩
          ·
           refine AL_else (by simp (decide := true) only [go_sem, Nat.reduceAdd, Nat.reduceMul, c131, c132l, c132, c133, c134]) ?_
           refine AL_skip ?_
           refine blockQ_n ?_
           refine rg0 [2, 3, 4, 9, 10, 30, 31] [32, 40, 224, 456] (fun K hK => by simp (decide := true) only [go_sem, Nat.reduceAdd, Nat.reduceMul, c131, c132l, c132, c133, c134]; exact hK) ?_
           refine AL_again (m := n130) (by omega) ?_
           exact .inr (.inl ⟨_, _, _, _, _, _, _, _, _, _, _, _, _, _, _, _, _, by omega, h, At_keep [2, 3, 4, 9, 10, 30, 31] [32, 40, 224, 456]⟩)
          ·
           refine AL_then (by simp (decide := true) only [go_sem, Nat.reduceAdd, Nat.reduceMul, c131, c132l, c132, c133, c134]) ?_
           obtain ⟨c135, h⟩ := ite_l h
           have c135l := lim8 c135
           replace c135 := eq_true c135
           refine rg0 [2, 3, 4, 9, 10, 30, 31] [32, 40, 456, 528] (fun K hK => by simp (decide := true) only [go_sem, Nat.reduceAdd, Nat.reduceMul, c131, c132l, c132, c133, c134, c135l, c135]; exact hK) ?_
           refine blockQ_n ?_
           refine rg0 [2, 3, 4, 9, 10, 30, 31] [32, 40, 456, 528] (fun K hK => by simp (decide := true) only [go_sem, Nat.reduceAdd, Nat.reduceMul, c131, c132l, c132, c133, c134, c135l, c135]; exact hK) ?_
           refine AL_again (m := n130) (by omega) ?_
           exact .inr (.inr (.inl ⟨_, _, _, _, _, _, _, _, _, _, _, _, _, _, _, _, _, by omega, h, At_keep [2, 3, 4, 9, 10, 30, 31] [32, 40, 456, 528]⟩))
         ·
          refine rg1 [2, 3, 4, 9, 10, 11, 30, 31, 61] [32, 40, 224, 456] [(1, 58)] (fun K hK => by simp (decide := true) only [go_sem, Nat.reduceAdd, Nat.reduceMul, c131, c132l, c132, c133]; exact hK) ?_
          refine AL_else (by simp (decide := true) only [go_sem, Nat.reduceAdd, Nat.reduceMul, c131, c132l, c132, c133]) ?_
          refine AL_skip ?_
          refine blockQ_n ?_
          refine rg0 [2, 3, 4, 9, 10, 30, 31] [32, 40, 224, 456] (fun K hK => by simp (decide := true) only [go_sem, Nat.reduceAdd, Nat.reduceMul, c131, c132l, c132, c133]; exact hK) ?_
          refine AL_again (m := n130) (by omega) ?_
          exact .inr (.inl ⟨_, _, _, _, _, _, _, _, _, _, _, _, _, _, _, _, _, by omega, h, At_keep [2, 3, 4, 9, 10, 30, 31] [32, 40, 224, 456]⟩)
        ·
         refine AL_else (by simp (decide := true) only [go_sem, Nat.reduceAdd, Nat.reduceMul, c131]) ?_
         refine AL_skip ?_
         refine AL_seq ?_
         rcases ite_orb h with ⟨c136, h⟩ | ⟨c136, h⟩
         ·
          refine rg1 [2, 3, 4, 9, 10, 11, 30, 31, 61] [32, 40, 224, 456] [(1, 58)] (fun K hK => by simp (decide := true) only [go_sem, Nat.reduceAdd, Nat.reduceMul, c131, c136]; exact hK) ?_
          rcases ite_orb h with ⟨c137, h⟩ | ⟨c137, h⟩
          ·
           refine AL_else (by simp (decide := true) only [go_sem, Nat.reduceAdd, Nat.reduceMul, c131, c136, c137]) ?_
           refine AL_skip ?_
           refine blockQ_n ?_
           refine rg0 [2, 3, 4, 9, 10, 30, 31] [32, 40, 224, 456] (fun K hK => by simp (decide := true) only [go_sem, Nat.reduceAdd, Nat.reduceMul, c131, c136, c137]; exact hK) ?_
           refine AL_again (m := n130) (by omega) ?_
           exact .inr (.inl ⟨_, _, _, _, _, _, _, _, _, _, _, _, _, _, _, _, _, by omega, h, At_keep [2, 3, 4, 9, 10, 30, 31] [32, 40, 224, 456]⟩)
          ·
           refine AL_then (by simp (decide := true) only [go_sem, Nat.reduceAdd, Nat.reduceMul, c131, c136, c137]) ?_
           obtain ⟨c138, h⟩ := ite_l h
           have c138l := lim8 c138
           replace c138 := eq_true c138
           refine rg0 [2, 3, 4, 9, 10, 30, 31] [32, 40, 456, 528] (fun K hK => by simp (decide := true) only [go_sem, Nat.reduceAdd, Nat.reduceMul, c131, c136, c137, c138l, c138]; exact hK) ?_
           refine blockQ_n ?_
           refine rg0 [2, 3, 4, 9, 10, 30, 31] [32, 40, 456, 528] (fun K hK => by simp (decide := true) only [go_sem, Nat.reduceAdd, Nat.reduceMul, c131, c136, c137, c138l, c138]; exact hK) ?_
           refine AL_again (m := n130) (by omega) ?_
           exact .inr (.inr (.inl ⟨_, _, _, _, _, _, _, _, _, _, _, _, _, _, _, _, _, by omega, h, At_keep [2, 3, 4, 9, 10, 30, 31] [32, 40, 456, 528]⟩))
         ·
          refine rg1 [2, 3, 4, 9, 10, 11, 30, 31, 61] [32, 40, 224, 456] [(1, 58)] (fun K hK => by simp (decide := true) only [go_sem, Nat.reduceAdd, Nat.reduceMul, c131, c136]; exact hK) ?_
          refine AL_else (by simp (decide := true) only [go_sem, Nat.reduceAdd, Nat.reduceMul, c131, c136]) ?_
          refine AL_skip ?_
          refine blockQ_n ?_
          refine rg0 [2, 3, 4, 9, 10, 30, 31] [32, 40, 224, 456] (fun K hK => by simp (decide := true) only [go_sem, Nat.reduceAdd, Nat.reduceMul, c131, c136]; exact hK) ?_
          refine AL_again (m := n130) (by omega) ?_
          exact .inr (.inl ⟨_, _, _, _, _, _, _, _, _, _, _, _, _, _, _, _, _, by omega, h, At_keep [2, 3, 4, 9, 10, 30, 31] [32, 40, 224, 456]⟩)
       ·
        obtain ⟨kk139, x2, x11, x12, x13, x30, x31, x52, x736000, x736001, x736002, x736003, x736004, x736005, x737000, x737001, x737002, x737003, x737004, x737005, x9, x10, hkq140, h, hS⟩ := hS
        rcases kk139 with _ | n141
        · (rw [impl_KindChanges.j2] at h; cases h)
        rw [impl_KindChanges.j2] at h
        refine AW_at hS ?_
        rcases ite_orb h with ⟨c142, h⟩ | ⟨c142, h⟩
        ·
         refine AL_then (by simp (decide := true) only [go_sem, Nat.reduceAdd, Nat.reduceMul, c142]) ?_
         obtain ⟨c143, h⟩ := ite_l h
         have c143l := lim8 c143
         replace c143 := eq_true c143
         obtain ⟨y746, hy746, h⟩ := bind_or h
         obtain rfl := Option.some.inj hy746
         refine rg0 [2, 3, 4, 9, 10, 11, 12, 13, 30, 31] [32, 40, 456, 528] (fun K hK => by simp (decide := true) only [go_sem, Nat.reduceAdd, Nat.reduceMul, c142, c143l, c143]; exact hK) ?_
         refine AL_seq ?_
         rcases ite_orb h with ⟨c144, h⟩ | ⟨c144, h⟩
         ·
          refine rg1 [2, 3, 4, 9, 10, 11, 30, 31, 61] [32, 40, 456, 528] [(1, 58)] (fun K hK => by simp (decide := true) only [go_sem, Nat.reduceAdd, Nat.reduceMul, c142, c143l, c143, c144]; exact hK) ?_
          rcases ite_orb h with ⟨c145, h⟩ | ⟨c145, h⟩
          ·
           refine AL_else (by simp (decide := true) only [go_sem, Nat.reduceAdd, Nat.reduceMul, c142, c143l, c143, c144, c145]) ?_
           refine AL_skip ?_
           refine blockQ_n ?_
           refine rg0 [2, 3, 4, 9, 10, 30, 31] [32, 40, 456, 528] (fun K hK => by simp (decide := true) only [go_sem, Nat.reduceAdd, Nat.reduceMul, c142, c143l, c143, c144, c145]; exact hK) ?_
           refine AL_again (m := n141) (by omega) ?_
           exact .inr (.inr (.inl ⟨_, _, _, _, _, _, _, _, _, _, _, _, _, _, _, _, _, by omega, h, At_keep [2, 3, 4, 9, 10, 30, 31] [32, 40, 456, 528]⟩))
          ·
           refine AL_then (by simp (decide := true) only [go_sem, Nat.reduceAdd, Nat.reduceMul, c142, c143l, c143, c144, c145]) ?_
           obtain ⟨c146, h⟩ := ite_l h
           have c146l := lim8 c146
           replace c146 := eq_true c146
           refine rg0 [2, 3, 4, 9, 10, 30, 31] [32, 40, 456, 528] (fun K hK => by simp (decide := true) only [go_sem, Nat.reduceAdd, Nat.reduceMul, c142, c143l, c143, c144, c145, c146l, c146]; exact hK) ?_
           refine blockQ_n ?_
           refine rg0 [2, 3, 4, 9, 10, 30, 31] [32, 40, 456, 528] (fun K hK => by simp (decide := true) only [go_sem, Nat.reduceAdd, Nat.reduceMul, c142, c143l, c143, c144, c145, c146l, c146]; exact hK) ?_
           refine AL_again (m := n141) (by omega) ?_
           exact .inr (.inr (.inl ⟨_, _, _, _, _, _, _, _, _, _, _, _, _, _, _, _, _, by omega, h, At_keep [2, 3, 4, 9, 10, 30, 31] [32, 40, 456, 528]⟩))
         ·
          refine rg1 [2, 3, 4, 9, 10, 11, 30, 31, 61] [32, 40, 456, 528] [(1, 58)] (fun K hK => by simp (decide := true) only [go_sem, Nat.reduceAdd, Nat.reduceMul, c142, c143l, c143, c144]; exact hK) ?_
          refine AL_else (by simp (decide := true) only [go_sem, Nat.reduceAdd, Nat.reduceMul, c142, c143l, c143, c144]) ?_
          refine AL_skip ?_
          refine blockQ_n ?_
          refine rg0 [2, 3, 4, 9, 10, 30, 31] [32, 40, 456, 528] (fun K hK => by simp (decide := true) only [go_sem, Nat.reduceAdd, Nat.reduceMul, c142, c143l, c143, c144]; exact hK) ?_
          refine AL_again (m := n141) (by omega) ?_
          exact .inr (.inr (.inl ⟨_, _, _, _, _, _, _, _, _, _, _, _, _, _, _, _, _, by omega, h, At_keep [2, 3, 4, 9, 10, 30, 31] [32, 40, 456, 528]⟩))
        ·
         refine AL_else (by simp (decide := true) only [go_sem, Nat.reduceAdd, Nat.reduceMul, c142]) ?_
         refine AL_skip ?_
         refine AL_seq ?_
         rcases ite_orb h with ⟨c147, h⟩ | ⟨c147, h⟩
         ·
          refine rg1 [2, 3, 4, 9, 10, 11, 30, 31, 61] [32, 40, 456, 528] [(1, 58)] (fun K hK => by simp (decide := true) only [go_sem, Nat.reduceAdd, Nat.reduceMul, c142, c147]; exact hK) ?_
          rcases ite_orb h with ⟨c148, h⟩ | ⟨c148, h⟩
          ·
           refine AL_else (by simp (decide := true) only [go_sem, Nat.reduceAdd, Nat.reduceMul, c142, c147, c148]) ?_
           refine AL_skip ?_
           refine blockQ_n ?_
           refine rg0 [2, 3, 4, 9, 10, 30, 31] [32, 40, 456, 528] (fun K hK => by simp (decide := true) only [go_sem, Nat.reduceAdd, Nat.reduceMul, c142, c147, c148]; exact hK) ?_
           refine AL_again (m := n141) (by omega) ?_
           exact .inr (.inr (.inl ⟨_, _, _, _, _, _, _, _, _, _, _, _, _, _, _, _, _, by omega, h, At_keep [2, 3, 4, 9, 10, 30, 31] [32, 40, 456, 528]⟩))
          ·
           refine AL_then (by simp (decide := true) only [go_sem, Nat.reduceAdd, Nat.reduceMul, c142, c147, c148]) ?_
           obtain ⟨c149, h⟩ := ite_l h
           have c149l := lim8 c149
           replace c149 := eq_true c149
           refine rg0 [2, 3, 4, 9, 10, 30, 31] [32, 40, 456, 528] (fun K hK => by simp (decide := true) only [go_sem, Nat.reduceAdd, Nat.reduceMul, c142, c147, c148, c149l, c149]; exact hK) ?_
           refine blockQ_n ?_
           refine rg0 [2, 3, 4, 9, 10, 30, 31] [32, 40, 456, 528] (fun K hK => by simp (decide := true) only [go_sem, Nat.reduceAdd, Nat.reduceMul, c142, c147, c148, c149l, c149]; exact hK) ?_
           refine AL_again (m := n141) (by omega) ?_
           exact .inr (.inr (.inl ⟨_, _, _, _, _, _, _, _, _, _, _, _, _, _, _, _, _, by omega, h, At_keep [2, 3, 4, 9, 10, 30, 31] [32, 40, 456, 528]⟩))
         ·
          refine rg1 [2, 3, 4, 9, 10, 11, 30, 31, 61] [32, 40, 456, 528] [(1, 58)] (fun K hK => by simp (decide := true) only [go_sem, Nat.reduceAdd, Nat.reduceMul, c142, c147]; exact hK) ?_
          refine AL_else (by simp (decide := true) only [go_sem, Nat.reduceAdd, Nat.reduceMul, c142, c147]) ?_
          refine AL_skip ?_
          refine blockQ_n ?_
          refine rg0 [2, 3, 4, 9, 10, 30, 31] [32, 40, 456, 528] (fun K hK => by simp (decide := true) only [go_sem, Nat.reduceAdd, Nat.reduceMul, c142, c147]; exact hK) ?_
          refine AL_again (m := n141) (by omega) ?_
          exact .inr (.inr (.inl ⟨_, _, _, _, _, _, _, _, _, _, _, _, _, _, _, _, _, by omega, h, At_keep [2, 3, 4, 9, 10, 30, 31] [32, 40, 456, 528]⟩))
       ·
        obtain ⟨kk150, x2, x11, x12, x13, x30, x31, x52, x736000, x736001, x736002, x736003, x736004, x736005, x737000, x737001, x737002, x737003, x737004, x737005, x9, x10, hkq151, h, hS⟩ := hS
        rcases kk150 with _ | n152
        · (rw [impl_KindChanges.j2] at h; cases h)
        rw [impl_KindChanges.j2] at h
        refine AW_at hS ?_
        rcases ite_orb h with ⟨c153, h⟩ | ⟨c153, h⟩
        ·
         refine AL_then (by simp (decide := true) only [go_sem, Nat.reduceAdd, Nat.reduceMul, c153]) ?_
         obtain ⟨c154, h⟩ := ite_l h
         have c154l := lim8 c154
         replace c154 := eq_true c154
         obtain ⟨y746, hy746, h⟩ := bind_or h
         obtain rfl := Option.some.inj hy746
         refine rg0 [2, 3, 4, 9, 10, 11, 12, 13, 30, 31] [32, 40, 456, 528] (fun K hK => by simp (decide := true) only [go_sem, Nat.reduceAdd, Nat.reduceMul, c153, c154l, c154]; exact hK) ?_
         refine AL_seq ?_
         rcases ite_orb h with ⟨c155, h⟩ | ⟨c155, h⟩
         ·
          refine rg1 [2, 3, 4, 9, 10, 11, 30, 31, 61] [32, 40, 456, 528] [(1, 58)] (fun K hK => by simp (decide := true) only [go_sem, Nat.reduceAdd, Nat.reduceMul, c153, c154l, c154, c155]; exact hK) ?_
          rcases ite_orb h with ⟨c156, h⟩ | ⟨c156, h⟩
          ·
           refine AL_else (by simp (decide := true) only [go_sem, Nat.reduceAdd, Nat.reduceMul, c153, c154l, c154, c155, c156]) ?_
           refine AL_skip ?_
           refine blockQ_n ?_
           refine rg0 [2, 3, 4, 9, 10, 30, 31] [32, 40, 456, 528] (fun K hK => by simp (decide := true) only [go_sem, Nat.reduceAdd, Nat.reduceMul, c153, c154l, c154, c155, c156]; exact hK) ?_
           refine AL_again (m := n152) (by omega) ?_
           exact .inr (.inr (.inl ⟨_, _, _, _, _, _, _, _, _, _, _, _, _, _, _, _, _, by omega, h, At_keep [2, 3, 4, 9, 10, 30, 31] [32, 40, 456, 528]⟩))
          ·
           refine AL_then (by simp (decide := true) only [go_sem, Nat.reduceAdd, Nat.reduceMul, c153, c154l, c154, c155, c156]) ?_
           obtain ⟨c157, h⟩ := ite_l h
           have c157l := lim8 c157
           replace c157 := eq_true c157
           refine rg0 [2, 3, 4, 9, 10, 30, 31] [32, 40, 456, 528] (fun K hK => by simp (decide := true) only [go_sem, Nat.reduceAdd, Nat.reduceMul, c153, c154l, c154, c155, c156, c157l, c157]; exact hK) ?_
           refine blockQ_n ?_
           refine rg0 [2, 3, 4, 9, 10, 30, 31] [32, 40, 456, 528] (fun K hK => by simp (decide := true) only [go_sem, Nat.reduceAdd, Nat.reduceMul, c153, c154l, c154, c155, c156, c157l, c157]; exact hK) ?_
           refine AL_again (m := n152) (by omega) ?_
           exact .inr (.inr (.inl ⟨_, _, _, _, _, _, _, _, _, _, _, _, _, _, _, _, _, by omega, h, At_keep [2, 3, 4, 9, 10, 30, 31] [32, 40, 456, 528]⟩))
         ·
          refine rg1 [2, 3, 4, 9, 10, 11, 30, 31, 61] [32, 40, 456, 528] [(1, 58)] (fun K hK => by simp (decide := true) only [go_sem, Nat.reduceAdd, Nat.reduceMul, c153, c154l, c154, c155]; exact hK) ?_
          refine AL_else (by simp (decide := true) only [go_sem, Nat.reduceAdd, Nat.reduceMul, c153, c154l, c154, c155]) ?_
          refine AL_skip ?_
          refine blockQ_n ?_
          refine rg0 [2, 3, 4, 9, 10, 30, 31] [32, 40, 456, 528] (fun K hK => by simp (decide := true) only [go_sem, Nat.reduceAdd, Nat.reduceMul, c153, c154l, c154, c155]; exact hK) ?_
          refine AL_again (m := n152) (by omega) ?_
          exact .inr (.inr (.inl ⟨_, _, _, _, _, _, _, _, _, _, _, _, _, _, _, _, _, by omega, h, At_keep [2, 3, 4, 9, 10, 30, 31] [32, 40, 456, 528]⟩))
        ·
         refine AL_else (by simp (decide := true) only [go_sem, Nat.reduceAdd, Nat.reduceMul, c153]) ?_
         refine AL_skip ?_
         refine AL_seq ?_
         rcases ite_orb h with ⟨c158, h⟩ | ⟨c158, h⟩
         ·
          refine rg1 [2, 3, 4, 9, 10, 11, 30, 31, 61] [32, 40, 216, 528] [(1, 58)] (fun K hK => by simp (decide := true) only [go_sem, Nat.reduceAdd, Nat.reduceMul, c153, c158]; exact hK) ?_
          rcases ite_orb h with ⟨c159, h⟩ | ⟨c159, h⟩
          ·
           refine AL_else (by simp (decide := true) only [go_sem, Nat.reduceAdd, Nat.reduceMul, c153, c158, c159]) ?_
           refine AL_skip ?_
           refine blockQ_n ?_
           refine rg0 [2, 3, 4, 9, 10, 30, 31] [32, 40, 216, 528] (fun K hK => by simp (decide := true) only [go_sem, Nat.reduceAdd, Nat.reduceMul, c153, c158, c159]; exact hK) ?_
           refine AL_again (m := n152) (by omega) ?_
           exact .inr (.inr (.inr (⟨_, _, _, _, _, _, _, _, _, _, _, _, _, _, _, _, _, by omega, h, At_keep [2, 3, 4, 9, 10, 30, 31] [32, 40, 216, 528]⟩)))
          ·
           refine AL_then (by simp (decide := true) only [go_sem, Nat.reduceAdd, Nat.reduceMul, c153, c158, c159]) ?_
           obtain ⟨c160, h⟩ := ite_l h
           have c160l := lim8 c160
           replace c160 := eq_true c160
           refine rg0 [2, 3, 4, 9, 10, 30, 31] [32, 40, 216, 528] (fun K hK => by simp (decide := true) only [go_sem, Nat.reduceAdd, Nat.reduceMul, c153, c158, c159, c160l, c160]; exact hK) ?_
           refine blockQ_n ?_
           refine rg0 [2, 3, 4, 9, 10, 30, 31] [32, 40, 216, 528] (fun K hK => by simp (decide := true) only [go_sem, Nat.reduceAdd, Nat.reduceMul, c153, c158, c159, c160l, c160]; exact hK) ?_
           refine AL_again (m := n152) (by omega) ?_
           exact .inr (.inr (.inr (⟨_, _, _, _, _, _, _, _, _, _, _, _, _, _, _, _, _, by omega, h, At_keep [2, 3, 4, 9, 10, 30, 31] [32, 40, 216, 528]⟩)))
         ·
          refine rg1 [2, 3, 4, 9, 10, 11, 30, 31, 61] [32, 40, 216, 528] [(1, 58)] (fun K hK => by simp (decide := true) only [go_sem, Nat.reduceAdd, Nat.reduceMul, c153, c158]; exact hK) ?_
          refine AL_else (by simp (decide := true) only [go_sem, Nat.reduceAdd, Nat.reduceMul, c153, c158]) ?_
          refine AL_skip ?_
          refine blockQ_n ?_
          refine rg0 [2, 3, 4, 9, 10, 30, 31] [32, 40, 216, 528] (fun K hK => by simp (decide := true) only [go_sem, Nat.reduceAdd, Nat.reduceMul, c153, c158]; exact hK) ?_
          refine AL_again (m := n152) (by omega) ?_
          exact .inr (.inr (.inr (⟨_, _, _, _, _, _, _, _, _, _, _, _, _, _, _, _, _, by omega, h, At_keep [2, 3, 4, 9, 10, 30, 31] [32, 40, 216, 528]⟩)))
     ·
      refine AL_else (by simp (decide := true) only [go_sem, Nat.reduceAdd, Nat.reduceMul, c112]) ?_
      refine AL_exit ?_
      repeat first | refine thenQ_x ?_ | refine blockQ_miss (by decide) ?_
      refine blockQ_hit ?_
      refine AL_seq ?_
      refine rg0 [6, 7, 8] [456, 528] (fun K hK => by simp (decide := true) only [go_sem, Nat.reduceAdd, Nat.reduceMul, c112]; exact hK) ?_
      replace h := Option.some.inj h
      obtain ⟨rfl, h1⟩ := Prod.mk.inj h
      obtain ⟨rfl, rfl⟩ := Prod.mk.inj h1
      refine AL_ret (fun _ => rfl) ?_
      exact retF_mk rfl (by exact ⟨trivial, trivial, trivial, trivial⟩) rfl (by exact ⟨rfl, rfl, rfl, trivial⟩) (by exact trivial) (by exact trivial)
    ·
     obtain ⟨x2, x30, x31, x736000, x736001, x736002, x736003, x736004, x736005, x737000, x737001, x737002, x737003, x737004, x737005, x9, x10, hkq161, h, hS⟩ := hS
     rcases n with _ | n162
     · (rw [impl_KindChanges.l0] at h; cases h)
     rw [impl_KindChanges.l0] at h
     refine AW_at hS ?_
     refine AL_seq ?_
     refine rg0 [2, 3, 4, 9, 10, 30, 31, 32] [32, 40, 216, 528] (fun K hK => by simp (decide := true) only [go_sem, Nat.reduceAdd, Nat.reduceMul]; exact hK) ?_
     refine AL_seq ?_
     rcases ite_orp h with ⟨c163, h⟩ | ⟨c163, h⟩
     ·
      refine AL_then (by simp (decide := true) only [go_sem, Nat.reduceAdd, Nat.reduceMul, c163]) ?_
      refine AL_skip ?_
      refine AL_seq ?_
      refine AL_block ?_
      refine AL_seq ?_
      refine rg0 [2, 3, 4, 9, 10, 11, 30, 31] [32, 40, 216, 528] (fun K hK => by simp (decide := true) only [go_sem, Nat.reduceAdd, Nat.reduceMul, c163]; exact hK) ?_
      refine AL_seq ?_
      obtain ⟨c164, h⟩ := ite_lp h
      obtain ⟨c165, h⟩ := ite_lp h
      obtain ⟨c166, h⟩ := ite_lp h
      refine rg0 [2, 3, 4, 9, 10, 11, 12, 13, 30, 31] [32, 40, 216, 528] (fun K hK => by simp (decide := true) (maxSteps := 4000000) only [go_sem, Nat.reduceAdd, Nat.reduceMul, c163, c164, c165, c166]; exact hK) ?_
      refine AL_seq ?_
      refine AL_seq ?_
      refine AL_cut (fun S => (∃ kk : Nat, ∃ x2 x11 x12 x13 x30 x31 x52 x736000 x736001 x736002 x736003 x736004 x736005 x737000 x737001 x737002 x737003 x737004 x737005 x9 x10, kk ≤ n162 ∧ impl_KindChanges.j2 kk x2 x9 x10 x11 x12 x13 x30 x31 x52 x736000 x736001 x736002 x736003 x736004 x736005 x737000 x737001 x737002 x737003 x737004 x737005 = some (r1, r2, r3) ∧ At [(2, .int .i64 x2), (3, .ptr 32 0 0), (4, .ptr 40 0 0), (9, .ref 216), (10, .ref 224), (11, .int .i64 x11), (12, .bool x12), (13, .bool x13), (30, .int .i64 x30), (31, .int .i64 x31), (52, .bool x52)] [(32, some (.box [.int .i64 x736000, .int .i64 x736001, .int .i64 x736002, .sl false 1 (mp mkI x736003), .sl false 1 (mp mkI x736004), .sl false 1 (mp mkI x736005)])), (40, some (.box [.int .i64 x737000, .int .i64 x737001, .int .i64 x737002, .sl false 1 (mp mkI x737003), .sl false 1 (mp mkI x737004), .sl false 1 (mp mkI x737005)])), (216, some (.row 3 1 (mp mkI x9))), (224, some (.row 3 1 (mp mkI x10)))] S) ∨ (∃ kk : Nat, ∃ x2 x11 x12 x13 x30 x31 x52 x736000 x736001 x736002 x736003 x736004 x736005 x737000 x737001 x737002 x737003 x737004 x737005 x10 x9, kk ≤ n162 ∧ impl_KindChanges.j2 kk x2 x9 x10 x11 x12 x13 x30 x31 x52 x736000 x736001 x736002 x736003 x736004 x736005 x737000 x737001 x737002 x737003 x737004 x737005 = some (r1, r2, r3) ∧ At [(2, .int .i64 x2), (3, .ptr 32 0 0), (4, .ptr 40 0 0), (9, .ref 456), (10, .ref 224), (11, .int .i64 x11), (12, .bool x12), (13, .bool x13), (30, .int .i64 x30), (31, .int .i64 x31), (52, .bool x52)] [(32, some (.box [.int .i64 x736000, .int .i64 x736001, .int .i64 x736002, .sl false 1 (mp mkI x736003), .sl false 1 (mp mkI x736004), .sl false 1 (mp mkI x736005)])), (40, some (.box [.int .i64 x737000, .int .i64 x737001, .int .i64 x737002, .sl false 1 (mp mkI x737003), .sl false 1 (mp mkI x737004), .sl false 1 (mp mkI x737005)])), (224, some (.row 3 1 (mp mkI x10))), (456, some (.row 3 1 (mp mkI x9)))] S) ∨ (∃ kk : Nat, ∃ x2 x11 x12 x13 x30 x31 x52 x736000 x736001 x736002 x736003 x736004 x736005 x737000 x737001 x737002 x737003 x737004 x737005 x9 x10, kk ≤ n162 ∧ impl_KindChanges.j2 kk x2 x9 x10 x11 x12 x13 x30 x31 x52 x736000 x736001 x736002 x736003 x736004 x736005 x737000 x737001 x737002 x737003 x737004 x737005 = some (r1, r2, r3) ∧ At [(2, .int .i64 x2), (3, .ptr 32 0 0), (4, .ptr 40 0 0), (9, .ref 456), (10, .ref 528), (11, .int .i64 x11), (12, .bool x12), (13, .bool x13), (30, .int .i64 x30), (31, .int .i64 x31), (52, .bool x52)] [(32, some (.box [.int .i64 x736000, .int .i64 x736001, .int .i64 x736002, .sl false 1 (mp mkI x736003), .sl false 1 (mp mkI x736004), .sl false 1 (mp mkI x736005)])), (40, some (.box [.int .i64 x737000, .int .i64 x737001, .int .i64 x737002, .sl false 1 (mp mkI x737003), .sl false 1 (mp mkI x737004), .sl false 1 (mp mkI x737005)])), (456, some (.row 3 1 (mp mkI x9))), (528, some (.row 3 1 (mp mkI x10)))] S) ∨ (∃ kk : Nat, ∃ x2 x11 x12 x13 x30 x31 x52 x736000 x736001 x736002 x736003 x736004 x736005 x737000 x737001 x737002 x737003 x737004 x737005 x9 x10, kk ≤ n162 ∧ impl_KindChanges.j2 kk x2 x9 x10 x11 x12 x13 x30 x31 x52 x736000 x736001 x736002 x736003 x736004 x736005 x737000 x737001 x737002 x737003 x737004 x737005 = some (r1, r2, r3) ∧ At [(2, .int .i64 x2), (3, .ptr 32 0 0), (4, .ptr 40 0 0), (9, .ref 216), (10, .ref 528), (11, .int .i64 x11), (12, .bool x12), (13, .bool x13), (30, .int .i64 x30), (31, .int .i64 x31), (52, .bool x52)] [(32, some (.box [.int .i64 x736000, .int .i64 x736001, .int .i64 x736002, .sl false 1 (mp mkI x736003), .sl false 1 (mp mkI x736004), .sl false 1 (mp mkI x736005)])), (40, some (.box [.int .i64 x737000, .int .i64 x737001, .int .i64 x737002, .sl false 1 (mp mkI x737003), .sl false 1 (mp mkI x737004), .sl false 1 (mp mkI x737005)])), (216, some (.row 3 1 (mp mkI x9))), (528, some (.row 3 1 (mp mkI x10)))] S)) ?_ ?_
      ·
       rcases ite_orp h with ⟨c167, h⟩ | ⟨c167, h⟩
       ·
        refine rg1 [2, 3, 4, 9, 10, 11, 12, 13, 30, 31, 52] [32, 40, 216, 528] [(1, 49)] (fun K hK => by simp (decide := true) only [go_sem, Nat.reduceAdd, Nat.reduceMul, c163, c164, c165, c166, c167]; exact hK) ?_
        refine AL_meet ?_
        try simp only [c167, decide_true, decide_false, Bool.not_true, Bool.not_false] at h
        exact .inr (.inr (.inr (⟨_, _, _, _, _, _, _, _, _, _, _, _, _, _, _, _, _, _, _, _, _, _, by omega, h, At_keep [2, 3, 4, 9, 10, 11, 12, 13, 30, 31, 52] [32, 40, 216, 528]⟩)))
       ·
        refine rg1 [2, 3, 4, 9, 10, 11, 12, 13, 30, 31, 52] [32, 40, 216, 528] [(1, 49)] (fun K hK => by simp (decide := true) only [go_sem, Nat.reduceAdd, Nat.reduceMul, c163, c164, c165, c166, c167]; exact hK) ?_
        refine AL_meet ?_
        try simp only [c167, decide_true, decide_false, Bool.not_true, Bool.not_false] at h
        exact .inr (.inr (.inr (⟨_, _, _, _, _, _, _, _, _, _, _, _, _, _, _, _, _, _, _, _, _, _, by omega, h, At_keep [2, 3, 4, 9, 10, 11, 12, 13, 30, 31, 52] [32, 40, 216, 528]⟩)))
      ·
       intro S hS
       rcases hS with hS | hS | hS | hS
       ·
        obtain ⟨kk168, x2, x11, x12, x13, x30, x31, x52, x736000, x736001, x736002, x736003, x736004, x736005, x737000, x737001, x737002, x737003, x737004, x737005, x9, x10, hkq169, h, hS⟩ := hS
        rcases kk168 with _ | n170
        · (rw [impl_KindChanges.j2] at h; cases h)
        rw [impl_KindChanges.j2] at h
        refine AW_at hS ?_
        rcases ite_orb h with ⟨c171, h⟩ | ⟨c171, h⟩
        ·
         refine AL_then (by simp (decide := true) only [go_sem, Nat.reduceAdd, Nat.reduceMul, c171]) ?_
         obtain ⟨c172, h⟩ := ite_l h
         have c172l := lim8 c172
         replace c172 := eq_true c172
         obtain ⟨y746, hy746, h⟩ := bind_or h
         obtain rfl := Option.some.inj hy746
         refine rg0 [2, 3, 4, 9, 10, 11, 12, 13, 30, 31] [32, 40, 224, 456] (fun K hK => by simp (decide := true) only [go_sem, Nat.reduceAdd, Nat.reduceMul, c171, c172l, c172]; exact hK) ?_
         refine AL_seq ?_
         rcases ite_orb h with ⟨c173, h⟩ | ⟨c173, h⟩
         ·
          refine rg1 [2, 3, 4, 9, 10, 11, 30, 31, 61] [32, 40, 224, 456] [(1, 58)] (fun K hK => by simp (decide := true) only [go_sem, Nat.reduceAdd, Nat.reduceMul, c171, c172l, c172, c173]; exact hK) ?_
          rcases ite_orb h with ⟨c174, h⟩ | ⟨c174, h⟩
          ·
           refine AL_else (by simp (decide := true) only [go_sem, Nat.reduceAdd, Nat.reduceMul, c171, c172l, c172, c173, c174]) ?_
           refine AL_skip ?_
           refine blockQ_n ?_
           refine rg0 [2, 3, 4, 9, 10, 30, 31] [32, 40, 224, 456] (fun K hK => by simp (decide := true) only [go_sem, Nat.reduceAdd, Nat.reduceMul, c171, c172l, c172, c173, c174]; exact hK) ?_
           refine AL_again (m := n170) (by omega) ?_
           exact .inr (.inl ⟨_, _, _, _, _, _, _, _, _, _, _, _, _, _, _, _, _, by omega, h, At_keep [2, 3, 4, 9, 10, 30, 31] [32, 40, 224, 456]⟩)
          ·
           refine AL_then (by simp (decide := true) only [go_sem, Nat.reduceAdd, Nat.reduceMul, c171, c172l, c172, c173, c174]) ?_
           obtain ⟨c175, h⟩ := ite_l h
           have c175l := lim8 c175
           replace c175 := eq_true c175
           refine rg0 [2, 3, 4, 9, 10, 30, 31] [32, 40, 456, 528] (fun K hK => by simp (decide := true) only [go_sem, Nat.reduceAdd, Nat.reduceMul, c171, c172l, c172, c173, c174, c175l, c175]; exact hK) ?_
           refine blockQ_n ?_
           refine rg0 [2, 3, 4, 9, 10, 30, 31] [32, 40, 456, 528] (fun K hK => by simp (decide := true) only [go_sem, Nat.reduceAdd, Nat.reduceMul, c171, c172l, c172, c173, c174, c175l, c175]; exact hK) ?_
           refine AL_again (m := n170) (by omega) ?_
           exact .inr (.inr (.inl ⟨_, _, _, _, _, _, _, _, _, _, _, _, _, _, _, _, _, by omega, h, At_keep [2, 3, 4, 9, 10, 30, 31] [32, 40, 456, 528]⟩))
         ·
          refine rg1 [2, 3, 4, 9, 10, 11, 30, 31, 61] [32, 40, 224, 456] [(1, 58)] (fun K hK => by simp (decide := true) only [go_sem, Nat.reduceAdd, Nat.reduceMul, c171, c172l, c172, c173]; exact hK) ?_
          refine AL_else (by simp (decide := true) only [go_sem, Nat.reduceAdd, Nat.reduceMul, c171, c172l, c172, c173]) ?_
          refine AL_skip ?_
          refine blockQ_n ?_
          refine rg0 [2, 3, 4, 9, 10, 30, 31] [32, 40, 224, 456] (fun K hK => by simp (decide := true) only [go_sem, Nat.reduceAdd, Nat.reduceMul, c171, c172l, c172, c173]; exact hK) ?_
          refine AL_again (m := n170) (by omega) ?_
          exact .inr (.inl ⟨_, _, _, _, _, _, _, _, _, _, _, _, _, _, _, _, _, by omega, h, At_keep [2, 3, 4, 9, 10, 30, 31] [32, 40, 224, 456]⟩)
        ·
         refine AL_else (by simp (decide := true) only [go_sem, Nat.reduceAdd, Nat.reduceMul, c171]) ?_
         refine AL_skip ?_
         refine AL_seq ?_
         rcases ite_orb h with ⟨c176, h⟩ | ⟨c176, h⟩
         ·
          refine rg1 [2, 3, 4, 9, 10, 11, 30, 31, 61] [32, 40, 216, 224] [(1, 58)] (fun K hK => by simp (decide := true) only [go_sem, Nat.reduceAdd, Nat.reduceMul, c171, c176]; exact hK) ?_
          rcases ite_orb h with ⟨c177, h⟩ | ⟨c177, h⟩
          ·
           refine AL_else (by simp (decide := true) only [go_sem, Nat.reduceAdd, Nat.reduceMul, c171, c176, c177]) ?_
           refine AL_skip ?_
           refine blockQ_n ?_
           refine rg0 [2, 3, 4, 9, 10, 30, 31] [32, 40, 216, 224] (fun K hK => by simp (decide := true) only [go_sem, Nat.reduceAdd, Nat.reduceMul, c171, c176, c177]; exact hK) ?_
           refine AL_again (m := n170) (by omega) ?_
           exact .inl ⟨_, _, _, _, _, _, _, _, _, _, _, _, _, _, _, _, _, by omega, h, At_keep [2, 3, 4, 9, 10, 30, 31] [32, 40, 216, 224]⟩
          ·
           refine AL_then (by simp (decide := true) only [go_sem, Nat.reduceAdd, Nat.reduceMul, c171, c176, c177]) ?_
           obtain ⟨c178, h⟩ := ite_l h
           have c178l := lim8 c178
           replace c178 := eq_true c178
           refine rg0 [2, 3, 4, 9, 10, 30, 31] [32, 40, 216, 528] (fun K hK => by simp (decide := true) only [go_sem, Nat.reduceAdd, Nat.reduceMul, c171, c176, c177, c178l, c178]; exact hK) ?_
           refine blockQ_n ?_
           refine rg0 [2, 3, 4, 9, 10, 30, 31] [32, 40, 216, 528] (fun K hK => by simp (decide := true) only [go_sem, Nat.reduceAdd, Nat.reduceMul, c171, c176, c177, c178l, c178]; exact hK) ?_
           refine AL_again (m := n170) (by omega) ?_
           exact .inr (.inr (.inr (⟨_, _, _, _, _, _, _, _, _, _, _, _, _, _, _, _, _, by omega, h, At_keep [2, 3, 4, 9, 10, 30, 31] [32, 40, 216, 528]⟩)))
         ·
          refine rg1 [2, 3, 4, 9, 10, 11, 30, 31, 61] [32, 40, 216, 224] [(1, 58)] (fun K hK => by simp (decide := true) only [go_sem, Nat.reduceAdd, Nat.reduceMul, c171, c176]; exact hK) ?_
          refine AL_else (by simp (decide := true) only [go_sem, Nat.reduceAdd, Nat.reduceMul, c171, c176]) ?_
          refine AL_skip ?_
          refine blockQ_n ?_
          refine rg0 [2, 3, 4, 9, 10, 30, 31] [32, 40, 216, 224] (fun K hK => by simp (decide := true) only [go_sem, Nat.reduceAdd, Nat.reduceMul, c171, c176]; exact hK) ?_
          refine AL_again (m := n170) (by omega) ?_
          exact .inl ⟨_, _, _, _, _, _, _, _, _, _, _, _, _, _, _, _, _, by omega, h, At_keep [2, 3, 4, 9, 10, 30, 31] [32, 40, 216, 224]⟩
       ·
        obtain ⟨kk179, x2, x11, x12, x13, x30, x31, x52, x736000, x736001, x736002, x736003, x736004, x736005, x737000, x737001, x737002, x737003, x737004, x737005, x10, x9, hkq180, h, hS⟩ := hS
        rcases kk179 with _ | n181
        · (rw [impl_KindChanges.j2] at h; cases h)
        rw [impl_KindChanges.j2] at h
        refine AW_at hS ?_
        rcases ite_orb h with ⟨c182, h⟩ | ⟨c182, h⟩
        ·
         refine AL_then (by simp (decide := true) only [go_sem, Nat.reduceAdd, Nat.reduceMul, c182]) ?_
         obtain ⟨c183, h⟩ := ite_l h
         have c183l := lim8 c183
         replace c183 := eq_true c183
         obtain ⟨y746, hy746, h⟩ := bind_or h
         obtain rfl := Option.some.inj hy746
         refine rg0 [2, 3, 4, 9, 10, 11, 12, 13, 30, 31] [32, 40, 224, 456] (fun K hK => by simp (decide := true) only [go_sem, Nat.reduceAdd, Nat.reduceMul, c182, c183l, c183]; exact hK) ?_
         refine AL_seq ?_
         rcases ite_orb h with ⟨c184, h⟩ | ⟨c184, h⟩
         ·
          refine rg1 [2, 3, 4, 9, 10, 11, 30, 31, 61] [32, 40, 224, 456] [(1, 58)] (fun K hK => by simp (decide := true) only [go_sem, Nat.reduceAdd, Nat.reduceMul, c182, c183l, c183, c184]; exact hK) ?_
          rcases ite_orb h with ⟨c185, h⟩ | ⟨c185, h⟩
          ·
           refine AL_else (by simp (decide := true) only [go_sem, Nat.reduceAdd, Nat.reduceMul, c182, c183l, c183, c184, c185]) ?_
           refine AL_skip ?_
           refine blockQ_n ?_
           refine rg0 [2, 3, 4, 9, 10, 30, 31] [32, 40, 224, 456] (fun K hK => by simp (decide := true) only [go_sem, Nat.reduceAdd, Nat.reduceMul, c182, c183l, c183, c184, c185]; exact hK) ?_
           refine AL_again (m := n181) (by omega) ?_
           exact .inr (.inl ⟨_, _, _, _, _, _, _, _, _, _, _, _, _, _, _, _, _, by omega, h, At_keep [2, 3, 4, 9, 10, 30, 31] [32, 40, 224, 456]⟩)
          ·
           refine AL_then (by simp (decide := true) only [go_sem, Nat.reduceAdd, Nat.reduceMul, c182, c183l, c183, c184, c185]) ?_
           obtain ⟨c186, h⟩ := ite_l h
           have c186l := lim8 c186
           replace c186 := eq_true c186
           refine rg0 [2, 3, 4, 9, 10, 30, 31] [32, 40, 456, 528] (fun K hK => by simp (decide := true) only [go_sem, Nat.reduceAdd, Nat.reduceMul, c182, c183l, c183, c184, c185, c186l, c186]; exact hK) ?_
           refine blockQ_n ?_
           refine rg0 [2, 3, 4, 9, 10, 30, 31] [32, 40, 456, 528] (fun K hK => by simp (decide := true) only [go_sem, Nat.reduceAdd, Nat.reduceMul, c182, c183l, c183, c184, c185, c186l, c186]; exact hK) ?_
           refine AL_again (m := n181) (by omega) ?_
           exact .inr (.inr (.inl ⟨_, _, _, _, _, _, _, _, _, _, _, _, _, _, _, _, _, by omega, h, At_keep [2, 3, 4, 9, 10, 30, 31] [32, 40, 456, 528]⟩))
         ·
          refine rg1 [2, 3, 4, 9, 10, 11, 30, 31, 61] [32, 40, 224, 456] [(1, 58)] (fun K hK => by simp (decide := true) only [go_sem, Nat.reduceAdd, Nat.reduceMul, c182, c183l, c183, c184]; exact hK) ?_
          refine AL_else (by simp (decide := true) only [go_sem, Nat.reduceAdd, Nat.reduceMul, c182, c183l, c183, c184]) ?_
          refine AL_skip ?_
          refine blockQ_n ?_
          refine rg0 [2, 3, 4, 9, 10, 30, 31] [32, 40, 224, 456] (fun K hK => by simp (decide := true) only [go_sem, Nat.reduceAdd, Nat.reduceMul, c182, c183l, c183, c184]; exact hK) ?_
          refine AL_again (m := n181) (by omega) ?_
          exact .inr (.inl ⟨_, _, _, _, _, _, _, _, _, _, _, _, _, _, _, _, _, by omega, h, At_keep [2, 3, 4, 9, 10, 30, 31] [32, 40, 224, 456]⟩)
        ·
         refine AL_else (by simp (decide := true) only [go_sem, Nat.reduceAdd, Nat.reduceMul, c182]) ?_
         refine AL_skip ?_
         refine AL_seq ?_
         rcases ite_orb h with ⟨c187, h⟩ | ⟨c187, h⟩
         ·
          refine rg1 [2, 3, 4, 9, 10, 11, 30, 31, 61] [32, 40, 224, 456] [(1, 58)] (fun K hK => by simp (decide := true) only [go_sem, Nat.reduceAdd, Nat.reduceMul, c182, c187]; exact hK) ?_
          rcases ite_orb h with ⟨c188, h⟩ | ⟨c188, h⟩
          ·
           refine AL_else (by simp (decide := true) only [go_sem, Nat.reduceAdd, Nat.reduceMul, c182, c187, c188]) ?_
           refine AL_skip ?_
           refine blockQ_n ?_
           refine rg0 [2, 3, 4, 9, 10, 30, 31] [32, 40, 224, 456] (fun K hK => by simp (decide := true) only [go_sem, Nat.reduceAdd, Nat.reduceMul, c182, c187, c188]; exact hK) ?_
           refine AL_again (m := n181) (by omega) ?_
           exact .inr (.inl ⟨_, _, _, _, _, _, _, _, _, _, _, _, _, _, _, _, _, by omega, h, At_keep [2, 3, 4, 9, 10, 30, 31] [32, 40, 224, 456]⟩)
          ·
           refine AL_then (by simp (decide := true) only [go_sem, Nat.reduceAdd, Nat.reduceMul, c182, c187, c188]) ?_
           obtain ⟨c189, h⟩ := ite_l h
           have c189l := lim8 c189
           replace c189 := eq_true c189
           refine rg0 [2, 3, 4, 9, 10, 30, 31] [32, 40, 456, 528] (fun K hK => by simp (decide := true) only [go_sem, Nat.reduceAdd, Nat.reduceMul, c182, c187, c188, c189l, c189]; exact hK) ?_
           refine blockQ_n ?_
           refine rg0 [2, 3, 4, 9, 10, 30, 31] [32, 40, 456, 528] (fun K hK => by simp (decide := true) only [go_sem, Nat.reduceAdd, Nat.reduceMul, c182, c187, c188, c189l, c189]; exact hK) ?_
           refine AL_again (m := n181) (by omega) ?_
           exact .inr (.inr (.inl ⟨_, _, _, _, _, _, _, _, _, _, _, _, _, _, _, _, _, by omega, h, At_keep [2, 3, 4, 9, 10, 30, 31] [32, 40, 456, 528]⟩))
         ·
          refine rg1 [2, 3, 4, 9, 10, 11, 30, 31, 61] [32, 40, 224, 456] [(1, 58)] (fun K hK => by simp (decide := true) only [go_sem, Nat.reduceAdd, Nat.reduceMul, c182, c187]; exact hK) ?_
          refine AL_else (by simp (decide := true) only [go_sem, Nat.reduceAdd, Nat.reduceMul, c182, c187]) ?_
          refine AL_skip ?_
          refine blockQ_n ?_
          refine rg0 [2, 3, 4, 9, 10, 30, 31] [32, 40, 224, 456] (fun K hK => by simp (decide := true) only [go_sem, Nat.reduceAdd, Nat.reduceMul, c182, c187]; exact hK) ?_
          refine AL_again (m := n181) (by omega) ?_
          exact .inr (.inl ⟨_, _, _, _, _, _, _, _, _, _, _, _, _, _, _, _, _, by omega, h, At_keep [2, 3, 4, 9, 10, 30, 31] [32, 40, 224, 456]⟩)
       ·
        obtain ⟨kk190, x2, x11, x12, x13, x30, x31, x52, x736000, x736001, x736002, x736003, x736004, x736005, x737000, x737001, x737002, x737003, x737004, x737005, x9, x10, hkq191, h, hS⟩ := hS
        rcases kk190 with _ | n192
        · (rw [impl_KindChanges.j2] at h; cases h)
        rw [impl_KindChanges.j2] at h
        refine AW_at hS ?_
        rcases ite_orb h with ⟨c193, h⟩ | ⟨c193, h⟩
        ·
         refine AL_then (by simp (decide := true) only [go_sem, Nat.reduceAdd, Nat.reduceMul, c193]) ?_
         obtain ⟨c194, h⟩ := ite_l h
         have c194l := lim8 c194
         replace c194 := eq_true c194
         obtain ⟨y746, hy746, h⟩ := bind_or h
         obtain rfl := Option.some.inj hy746
         refine rg0 [2, 3, 4, 9, 10, 11, 12, 13, 30, 31] [32, 40, 456, 528] (fun K hK => by simp (decide := true) only [go_sem, Nat.reduceAdd, Nat.reduceMul, c193, c194l, c194]; exact hK) ?_
         refine AL_seq ?_
         rcases ite_orb h with ⟨c195, h⟩ | ⟨c195, h⟩
         ·
          refine rg1 [2, 3, 4, 9, 10, 11, 30, 31, 61] [32, 40, 456, 528] [(1, 58)] (fun K hK => by simp (decide := true) only [go_sem, Nat.reduceAdd, Nat.reduceMul, c193, c194l, c194, c195]; exact hK) ?_
          rcases ite_orb h with ⟨c196, h⟩ | ⟨c196, h⟩
          ·
           refine AL_else (by simp (decide := true) only [go_sem, Nat.reduceAdd, Nat.reduceMul, c193, c194l, c194, c195, c196]) ?_
           refine AL_skip ?_
           refine blockQ_n ?_
           refine rg0 [2, 3, 4, 9, 10, 30, 31] [32, 40, 456, 528] (fun K hK => by simp (decide := true) only [go_sem, Nat.reduceAdd, Nat.reduceMul, c193, c194l, c194, c195, c196]; exact hK) ?_
           refine AL_again (m := n192) (by omega) ?_
           exact .inr (.inr (.inl ⟨_, _, _, _, _, _, _, _, _, _, _, _, _, _, _, _, _, by omega, h, At_keep [2, 3, 4, 9, 10, 30, 31] [32, 40, 456, 528]⟩))
          ·
           refine AL_then (by simp (decide := true) only [go_sem, Nat.reduceAdd, Nat.reduceMul, c193, c194l, c194, c195, c196]) ?_
           obtain ⟨c197, h⟩ := ite_l h
           have c197l := lim8 c197
           replace c197 := eq_true c197
           refine rg0 [2, 3, 4, 9, 10, 30, 31] [32, 40, 456, 528] (fun K hK => by simp (decide := true) only [go_sem, Nat.reduceAdd, Nat.reduceMul, c193, c194l, c194, c195, c196, c197l, c197]; exact hK) ?_
           refine blockQ_n ?_
           refine rg0 [2, 3, 4, 9, 10, 30, 31] [32, 40, 456, 528] (fun K hK => by simp (decide := true) only [go_sem, Nat.reduceAdd, Nat.reduceMul, c193, c194l, c194, c195, c196, c197l, c197]; exact hK) ?_
           refine AL_again (m := n192) (by omega) ?_
           exact .inr (.inr (.inl ⟨_, _, _, _, _, _, _, _, _, _, _, _, _, _, _, _, _, by omega, h, At_keep [2, 3, 4, 9, 10, 30, 31] [32, 40, 456, 528]⟩))
         ·
          refine rg1 [2, 3, 4, 9, 10, 11, 30, 31, 61] [32, 40, 456, 528] [(1, 58)] (fun K hK => by simp (decide := true) only [go_sem, Nat.reduceAdd, Nat.reduceMul, c193, c194l, c194, c195]; exact hK) ?_
          refine AL_else (by simp (decide := true) only [go_sem, Nat.reduceAdd, Nat.reduceMul, c193, c194l, c194, c195]) ?_
          refine AL_skip ?_
          refine blockQ_n ?_
          refine rg0 [2, 3, 4, 9, 10, 30, 31] [32, 40, 456, 528] (fun K hK => by simp (decide := true) only [go_sem, Nat.reduceAdd, Nat.reduceMul, c193, c194l, c194, c195]; exact hK) ?_
          refine AL_again (m := n192) (by omega) ?_
          exact .inr (.inr (.inl ⟨_, _, _, _, _, _, _, _, _, _, _, _, _, _, _, _, _, by omega, h, At_keep [2, 3, 4, 9, 10, 30, 31] [32, 40, 456, 528]⟩))
        ·
         refine AL_else (by simp (decide := true) only [go_sem, Nat.reduceAdd, Nat.reduceMul, c193]) ?_
         refine AL_skip ?_
         refine AL_seq ?_
         rcases ite_orb h with ⟨c198, h⟩ | ⟨c198, h⟩
         ·
          refine rg1 [2, 3, 4, 9, 10, 11, 30, 31, 61] [32, 40, 456, 528] [(1, 58)] (fun K hK => by simp (decide := true) only [go_sem, Nat.reduceAdd, Nat.reduceMul, c193, c198]; exact hK) ?_
          rcases ite_orb h with ⟨c199, h⟩ | ⟨c199, h⟩
          ·
           refine AL_else (by simp (decide := true) only [go_sem, Nat.reduceAdd, Nat.reduceMul, c193, c198, c199]) ?_
           refine AL_skip ?_
           refine blockQ_n ?_
           refine rg0 [2, 3, 4, 9, 10, 30, 31] [32, 40, 456, 528] (fun K hK => by simp (decide := true) only [go_sem, Nat.reduceAdd, Nat.reduceMul, c193, c198, c199]; exact hK) ?_
           refine AL_again (m := n192) (by omega) ?_
           exact .inr (.inr (.inl ⟨_, _, _, _, _, _, _, _, _, _, _, _, _, _, _, _, _, by omega, h, At_keep [2, 3, 4, 9, 10, 30, 31] [32, 40, 456, 528]⟩))
          ·
           refine AL_then (by simp (decide := true) only [go_sem, Nat.reduceAdd, Nat.reduceMul, c193, c198, c199]) ?_
           obtain ⟨c200, h⟩ := ite_l h
           have c200l := lim8 c200
           replace c200 := eq_true c200
           refine rg0 [2, 3, 4, 9, 10, 30, 31] [32, 40, 456, 528] (fun K hK => by simp (decide := true) only [go_sem, Nat.reduceAdd, Nat.reduceMul, c193, c198, c199, c200l, c200]; exact hK) ?_
           refine blockQ_n ?_
           refine rg0 [2, 3, 4, 9, 10, 30, 31] [32, 40, 456, 528] (fun K hK => by simp (decide := true) only [go_sem, Nat.reduceAdd, Nat.reduceMul, c193, c198, c199, c200l, c200]; exact hK) ?_
           refine AL_again (m := n192) (by omega) ?_
           exact .inr (.inr (.inl ⟨_, _, _, _, _, _, _, _, _, _, _, _, _, _, _, _, _, by omega, h, At_keep [2, 3, 4, 9, 10, 30, 31] [32, 40, 456, 528]⟩))
         ·
          refine rg1 [2, 3, 4, 9, 10, 11, 30, 31, 61] [32, 40, 456, 528] [(1, 58)] (fun K hK => by simp (decide := true) only [go_sem, Nat.reduceAdd, Nat.reduceMul, c193, c198]; exact hK) ?_
          refine AL_else (by simp (decide := true) only [go_sem, Nat.reduceAdd, Nat.reduceMul, c193, c198]) ?_
          refine AL_skip ?_
          refine blockQ_n ?_
          refine rg0 [2, 3, 4, 9, 10, 30, 31] [32, 40, 456, 528] (fun K hK => by simp (decide := true) only [go_sem, Nat.reduceAdd, Nat.reduceMul, c193, c198]; exact hK) ?_
          refine AL_again (m := n192) (by omega) ?_
          exact .inr (.inr (.inl ⟨_, _, _, _, _, _, _, _, _, _, _, _, _, _, _, _, _, by omega, h, At_keep [2, 3, 4, 9, 10, 30, 31] [32, 40, 456, 528]⟩))
       ·
        obtain ⟨kk201, x2, x11, x12, x13, x30, x31, x52, x736000, x736001, x736002, x736003, x736004, x736005, x737000, x737001, x737002, x737003, x737004, x737005, x9, x10, hkq202, h, hS⟩ := hS
        rcases kk201 with _ | n203
        · (rw [impl_KindChanges.j2] at h; cases h)
        rw [impl_KindChanges.j2] at h
        refine AW_at hS ?_
        rcases ite_orb h with ⟨c204, h⟩ | ⟨c204, h⟩
        ·
         refine AL_then (by simp (decide := true) only [go_sem, Nat.reduceAdd, Nat.reduceMul, c204]) ?_
         obtain ⟨c205, h⟩ := ite_l h
         have c205l := lim8 c205
         replace c205 := eq_true c205
         obtain ⟨y746, hy746, h⟩ := bind_or h
         obtain rfl := Option.some.inj hy746
         refine rg0 [2, 3, 4, 9, 10, 11, 12, 13, 30, 31] [32, 40, 456, 528] (fun K hK => by simp (decide := true) only [go_sem, Nat.reduceAdd, Nat.reduceMul, c204, c205l, c205]; exact hK) ?_
         refine AL_seq ?_
         rcases ite_orb h with ⟨c206, h⟩ | ⟨c206, h⟩
         ·
          refine rg1 [2, 3, 4, 9, 10, 11, 30, 31, 61] [32, 40, 456, 528] [(1, 58)] (fun K hK => by simp (decide := true) only [go_sem, Nat.reduceAdd, Nat.reduceMul, c204, c205l, c205, c206]; exact hK) ?_
          rcases ite_orb h with ⟨c207, h⟩ | ⟨c207, h⟩
          ·
           refine AL_else (by simp (decide := true) only [go_sem, Nat.reduceAdd, Nat.reduceMul, c204, c205l, c205, c206, c207]) ?_
           refine AL_skip ?_
           refine blockQ_n ?_
           refine rg0 [2, 3, 4, 9, 10, 30, 31] [32, 40, 456, 528] (fun K hK => by simp (decide := true) only [go_sem, Nat.reduceAdd, Nat.reduceMul, c204, c205l, c205, c206, c207]; exact hK) ?_
           refine AL_again (m := n203) (by omega) ?_
           exact .inr (.inr (.inl ⟨_, _, _, _, _, _, _, _, _, _, _, _, _, _, _, _, _, by omega, h, At_keep [2, 3, 4, 9, 10, 30, 31] [32, 40, 456, 528]⟩))
          ·
           refine AL_then (by simp (decide := true) only [go_sem, Nat.reduceAdd, Nat.reduceMul, c204, c205l, c205, c206, c207]) ?_
           obtain ⟨c208, h⟩ := ite_l h
           have c208l := lim8 c208
           replace c208 := eq_true c208
           refine rg0 [2, 3, 4, 9, 10, 30, 31] [32, 40, 456, 528] (fun K hK => by simp (decide := true) only [go_sem, Nat.reduceAdd, Nat.reduceMul, c204, c205l, c205, c206, c207, c208l, c208]; exact hK) ?_
           refine blockQ_n ?_
           refine rg0 [2, 3, 4, 9, 10, 30, 31] [32, 40, 456, 528] (fun K hK => by simp (decide := true) only [go_sem, Nat.reduceAdd, Nat.reduceMul, c204, c205l, c205, c206, c207, c208l, c208]; exact hK) ?_
           refine AL_again (m := n203) (by omega) ?_
           exact .inr (.inr (.inl ⟨_, _, _, _, _, _, _, _, _, _, _, _, _, _, _, _, _, by omega, h, At_keep [2, 3, 4, 9, 10, 30, 31] [32, 40, 456, 528]⟩))
         ·
          refine rg1 [2, 3, 4, 9, 10, 11, 30, 31, 61] [32, 40, 456, 528] [(1, 58)] (fun K hK => by simp (decide := true) only [go_sem, Nat.reduceAdd, Nat.reduceMul, c204, c205l, c205, c206]; exact hK) ?_
          refine AL_else (by simp (decide := true) only [go_sem, Nat.reduceAdd, Nat.reduceMul, c204, c205l, c205, c206]) ?_
          refine AL_skip ?_
          refine blockQ_n ?_
          refine rg0 [2, 3, 4, 9, 10, 30, 31] [32, 40, 456, 528] (fun K hK => by simp (decide := true) only [go_sem, Nat.reduceAdd, Nat.reduceMul, c204, c205l, c205, c206]; exact hK) ?_
          refine AL_again (m := n203) (by omega) ?_
          exact .inr (.inr (.inl ⟨_, _, _, _, _, _, _, _, _, _, _, _, _, _, _, _, _, by omega, h, At_keep [2, 3, 4, 9, 10, 30, 31] [32, 40, 456, 528]⟩))
        ·
         refine AL_else (by simp (decide := true) only [go_sem, Nat.reduceAdd, Nat.reduceMul, c204]) ?_
         refine AL_skip ?_
         refine AL_seq ?_
         rcases ite_orb h with ⟨c209, h⟩ | ⟨c209, h⟩
         ·
          refine rg1 [2, 3, 4, 9, 10, 11, 30, 31, 61] [32, 40, 216, 528] [(1, 58)] (fun K hK => by simp (decide := true) only [go_sem, Nat.reduceAdd, Nat.reduceMul, c204, c209]; exact hK) ?_
          rcases ite_orb h with ⟨c210, h⟩ | ⟨c210, h⟩
          ·
           refine AL_else (by simp (decide := true) only [go_sem, Nat.reduceAdd, Nat.reduceMul, c204, c209, c210]) ?_
           refine AL_skip ?_
           refine blockQ_n ?_
           refine rg0 [2, 3, 4, 9, 10, 30, 31] [32, 40, 216, 528] (fun K hK => by simp (decide := true) only [go_sem, Nat.reduceAdd, Nat.reduceMul, c204, c209, c210]; exact hK) ?_
           refine AL_again (m := n203) (by omega) ?_
           exact .inr (.inr (.inr (⟨_, _, _, _, _, _, _, _, _, _, _, _, _, _, _, _, _, by omega, h, At_keep [2, 3, 4, 9, 10, 30, 31] [32, 40, 216, 528]⟩)))
          ·
           refine AL_then (by simp (decide := true) only [go_sem, Nat.reduceAdd, Nat.reduceMul, c204, c209, c210]) ?_
           obtain ⟨c211, h⟩ := ite_l h
           have c211l := lim8 c211
           replace c211 := eq_true c211
           refine rg0 [2, 3, 4, 9, 10, 30, 31] [32, 40, 216, 528] (fun K hK => by simp (decide := true) only [go_sem, Nat.reduceAdd, Nat.reduceMul, c204, c209, c210, c211l, c211]; exact hK) ?_
           refine blockQ_n ?_
           refine rg0 [2, 3, 4, 9, 10, 30, 31] [32, 40, 216, 528] (fun K hK => by simp (decide := true) only [go_sem, Nat.reduceAdd, Nat.reduceMul, c204, c209, c210, c211l, c211]; exact hK) ?_
           refine AL_again (m := n203) (by omega) ?_
           exact .inr (.inr (.inr (⟨_, _, _, _, _, _, _, _, _, _, _, _, _, _, _, _, _, by omega, h, At_keep [2, 3, 4, 9, 10, 30, 31] [32, 40, 216, 528]⟩)))
         ·
          refine rg1 [2, 3, 4, 9, 10, 11, 30, 31, 61] [32, 40, 216, 528] [(1, 58)] (fun K hK => by simp (decide := true) only [go_sem, Nat.reduceAdd, Nat.reduceMul, c204, c209]; exact hK) ?_
          refine AL_else (by simp (decide := true) only [go_sem, Nat.reduceAdd, Nat.reduceMul, c204, c209]) ?_
          refine AL_skip ?_
          refine blockQ_n ?_
          refine rg0 [2, 3, 4, 9, 10, 30, 31] [32, 40, 216, 528] (fun K hK => by simp (decide := true) only [go_sem, Nat.reduceAdd, Nat.reduceMul, c204, c209]; exact hK) ?_
          refine AL_again (m := n203) (by omega) ?_
          exact .inr (.inr (.inr (⟨_, _, _, _, _, _, _, _, _, _, _, _, _, _, _, _, _, by omega, h, At_keep [2, 3, 4, 9, 10, 30, 31] [32, 40, 216, 528]⟩)))
     ·
      refine AL_else (by simp (decide := true) only [go_sem, Nat.reduceAdd, Nat.reduceMul, c163]) ?_
      refine AL_exit ?_
      repeat first | refine thenQ_x ?_ | refine blockQ_miss (by decide) ?_
      refine blockQ_hit ?_
      refine AL_seq ?_
      refine rg0 [6, 7, 8] [216, 528] (fun K hK => by simp (decide := true) only [go_sem, Nat.reduceAdd, Nat.reduceMul, c163]; exact hK) ?_
      replace h := Option.some.inj h
      obtain ⟨rfl, h1⟩ := Prod.mk.inj h
      obtain ⟨rfl, rfl⟩ := Prod.mk.inj h1
      refine AL_ret (fun _ => rfl) ?_
      exact retF_mk rfl (by exact ⟨trivial, trivial, trivial, trivial⟩) rfl (by exact ⟨rfl, rfl, rfl, trivial⟩) (by exact trivial) (by exact trivial)
end Go.Proofs.Ytfakhgopbhnocaa.PFnEstimates
