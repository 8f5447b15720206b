/-
  The program's sweeps; written by genC.py.
-/
import Derived.Test.YtghggnfomlibjaaB
set_option maxRecDepth 100000
set_option linter.unusedSimpArgs false
set_option linter.unusedVariables false
namespace Go.Proofs.Ytghggnfomlibjaa
open Go.Sy
attribute [local go_sem] List.mem_cons List.not_mem_nil List.map_append List.append_assoc d_mov d_build d_lit d_litB d_load d_nchk d_bin d_beq d_eqS d_un d_toInt d_toStr d_s2b d_b2s d_mkfn d_slcS d_slcL d_slcA d_faddr d_fld d_iaddrL d_iaddrA d_idxA d_idxS d_ext d_len d_lenC d_cap d_mini d_maxi d_pick d_new d_box d_store apE d_app d_mk d_mkB d_call rd_nil rd_none rd_some gdD_b nd_some nd_none app_val app_new app_wr foot_val foot_new foot_tok foot_wr cpS_some mkS_some mkBS_some valE_some valE_none Foot.quiet noFoot SV.names SObj.names namesO Tok.ids SOp.args storeC List.length_map List.length_append List.length_replicate Int.natCast_nonneg Int.ofNat_lt Int.ofNat_le Int.ofNat_inj run_skip run_ret run_exit run_ops run_drw run_flt w_mov w_build w_lit w_litB w_load w_nchk w_bin w_beq w_eqS w_un w_toInt w_toStr w_s2b w_b2s w_mkfn w_slcS w_slcL w_slcA w_faddr w_fld w_iaddrL w_iaddrA w_idxA w_idxS w_ext w_len w_lenC w_cap w_mini w_maxi w_pick qv_n qv_s qg_b s_some stG_b fl_nil fl_q fl_n fq_s fn_s fg_s gdP_pos fk_nil fk_cons run_seq run_cond run_block run_pre run_post gd_pos putS_some putS_none put_some put_none get_mk look_mk ev_t ev_c ev_f kill_nil kill_cons o_mov o_build o_lit o_litB o_load o_nchk o_bin o_beq o_eqS o_un o_toInt o_toStr o_s2b o_b2s o_mkfn o_slcS o_slcL o_slcA o_faddr o_fld o_iaddrL o_iaddrA o_idxA o_idxS o_ext o_len o_lenC o_cap o_mini o_maxi o_pick o_isnil o_new o_box o_mk o_mkB o_store o_app o_cpy o_call addN_eq addS_some mkE mkBE stC stS_some apS apB apL appT_eq cpC cp2 cpB cpL s_none p_cons ops_nil ops_op ops_grp ops_dir nx_some nx_none pl_nil np_some np_none un_nil un_cons grp_b nx_ite ite_mk ite_tm ite_nil ite_same ite_sint ite_sbool ite_su8 iteV_bool iteV_int iteV_u8 iteV_true iteV_false nrm_some nrm_none nrm_ite sq_n sq_x sq_r sq_none sq_ite cnd_b blk_n blk_r blk_x blk_none blk_ite lp_n lp_x lp_r lp_none lp_ite prD_some psD_n psD_x psD_r psD_none psD_ite dirs_nil dirs_cons dirN_some fin_n fin_r fin_ite nchkC beqC eqsC toStrC s2bC b2sC slcSC2 slcSC slcAC faddrC fldC iaddrLC iaddrAC2 iaddrAC idxAC idxSC extC lenC capC miniC maxiC buildC litC litBC pickC isnilC getT putT delT getO putO delO putK purgeT evL CSt.purge ibinC u8binC sbinC isShift binC loadC optC slcC bytesC rowsC psC Tok.readyC SObj.wf SV.bare SV.bareL tokV tokL tokC tokOb tokObs somes reach looks ixOf obsIds nodupB subB renObL putsO putsK dropK renKs afterC slIds slId_int slId_bool slId_u8 slId_str slId_byt slId_lst slId_nilp slId_undef slId_pp slId_ptr slId_ap slId_agg slId_tup slId_fn slId_psl callV callC_eq callK_t callK_f fastC_s fast2_t fast2_f fast3_t bare_mk small_mk slowC_p slow0_p slow1_s slow2_p slow3_t slow4_s slow5_t fin0_s finP_p fin1_t fin1_f fin2_p fin3_s fin4_p fin5_t oneSV_0 oneSV_1 oneSV_2 callE_s callE2_t callEK_t callEK_f callOW_t callO_c callO1_s callO2_t callO3_s callO4_t callEV_f iteV_dl iteV_dr iteV_tl iteV_tr iteV_nl iteV_nr bif_and bif_or pubAll CSt.publish pubO pubT obPub SV.pub SV.pubL pubSl gcC dirC tokD resC upto zipIx newIx tks initT iniC initC mkLoad cmpSV unSV toIntSV lenSV SV.num slcTok fillSV toB rows eqCell eqCells setRow setCells Tok.eat SV.one SV.data SV.isData SV.cells SV.isDef SV.purge SV.purgeL SObj.purge purgeO dropT Tok.purge SV.ren SV.renL SObj.ren Tok.ren SV.ids SV.idsL SV.toks SV.toksL SObj.ids SObj.toks renO renT inR renOs dropOs id_eq List.length_cons List.length_nil List.cons_append List.nil_append List.append_nil Nat.zero_add Nat.add_zero beq_self_eq_true List.getD_cons_zero List.getD_cons_succ List.getD_nil List.take_succ_cons List.take_zero List.take_nil List.drop_zero List.drop_succ_cons List.drop_nil List.map_cons List.map_nil List.flatten_cons List.flatten_nil List.contains_nil List.contains_cons List.isEmpty_nil List.isEmpty_cons List.all_cons List.all_nil List.set_cons_zero List.set_cons_succ Option.getD_some Option.getD_none Option.map_some Option.map_none Option.toList_some Option.toList_none Option.bind_some Option.isNone_none Option.isNone_some Option.isSome_none Option.isSome_some Bool.or_false Bool.true_or Bool.or_true Bool.false_or Bool.and_self Bool.and_true Bool.true_and Bool.and_false Bool.false_and Bool.not_true Bool.not_false Bool.false_eq_true Bool.true_eq_false Bool.not_eq_true Bool.not_eq_false decide_eq_true_eq decide_eq_false_iff_not and_true true_and and_self or_false false_or or_true true_or not_true_eq_false not_false_eq_true ne_eq Int.toNat_natCast true_implies false_implies implies_true decide_true decide_false Nat.lt_irrefl Nat.not_lt_zero Nat.le_refl Nat.zero_le eq_self and_false false_and

theorem f43 (a b : List UInt8) : call T 43 [.byt a .no, .byt b .no] [] 0 = some ⟨.bool (decide (a = b)), [], []⟩ := by
  rw [call_code T_43]
  simp only [r43_0, r43_1, F43, q43, go_sem, Int.reduceToNat, Int.reduceLE, Int.reduceLT, Int.reduceEq, Int.reduceNe, Int.reduceNeg, Int.reduceAdd, Int.reduceSub, Int.reduceMul, Nat.reducePow, Nat.reduceDiv, Nat.reduceMod, Nat.reduceAdd, Nat.reduceSub, Nat.reduceMul, Nat.reduceLT, Nat.reduceLeDiff, Nat.reduceEqDiff, Nat.reduceBEq, reduceCtorEq, reduceIte]
theorem f42 (g f : List UInt8) : call T 42 [.byt f .no, .ptr 0 0] [.rc [.byt g .no]] 0 = some ⟨.bool (decide (f = g)), [(0, .rc [.byt g .no])], []⟩ := by
  rw [call_code T_42]
  simp only [r42_0, r42_1, F42, q42, go_sem, Int.reduceToNat, Int.reduceLE, Int.reduceLT, Int.reduceEq, Int.reduceNe, Int.reduceNeg, Int.reduceAdd, Int.reduceSub, Int.reduceMul, Nat.reducePow, Nat.reduceDiv, Nat.reduceMod, Nat.reduceAdd, Nat.reduceSub, Nat.reduceMul, Nat.reduceLT, Nat.reduceLeDiff, Nat.reduceEqDiff, Nat.reduceBEq, reduceCtorEq, reduceIte, f43, S_43]

theorem l55a (g : List UInt8) (xs : List (List UInt8)) (hl : xs.length ≤ 1000000000)  : ∀ (n i : Nat), xs.length - i = n → i ≤ xs.length →
    run T (.loop r55_7) ⟨[(0, .lst 1 (xs.map bytS) .no), (1, .fn 42 [] [.ptr 0 0]), (7, .int .i64 xs.length), (8, .int .i64 i)], [(0, .rc [.byt g .no])], []⟩ =
      match (xs.drop i).findIdx? (fun x => decide (x = g)) with
      | some k => some (.r, ⟨[(4, .int .i64 ((i + k : Nat) : Int))], [(0, .rc [.byt g .no])], []⟩)
      | none => some (.x 0, ⟨[], [(0, .rc [.byt g .no])], []⟩) := by
  intro n
  induction n with
  | zero =>
    intro i h0 h1
    have hi : i = xs.length := by omega
    subst hi
    rw [run_loop]
    simp only [r55_0, r55_1, r55_2, r55_3, r55_4, r55_5, r55_6, r55_8, F55, q55_7, q55, go_sem, Int.reduceToNat, Int.reduceLE, Int.reduceLT, Int.reduceEq, Int.reduceNe, Int.reduceNeg, Int.reduceAdd, Int.reduceSub, Int.reduceMul, Nat.reducePow, Nat.reduceDiv, Nat.reduceMod, Nat.reduceAdd, Nat.reduceSub, Nat.reduceMul, Nat.reduceLT, Nat.reduceLeDiff, Nat.reduceEqDiff, Nat.reduceBEq, reduceCtorEq, reduceIte, List.drop_length, List.findIdx?_nil]
  | succ n ih =>
    intro i h0 h1
    have hi : i < xs.length := by omega
    rw [run_loop, drop_consG xs i hi]
    have e3 := wsucc i (by omega)
    simp only [r55_0, r55_1, r55_2, r55_3, r55_4, r55_5, r55_6, r55_8, F55, q55_7, q55, go_sem, Int.reduceToNat, Int.reduceLE, Int.reduceLT, Int.reduceEq, Int.reduceNe, Int.reduceNeg, Int.reduceAdd, Int.reduceSub, Int.reduceMul, Nat.reducePow, Nat.reduceDiv, Nat.reduceMod, Nat.reduceAdd, Nat.reduceSub, Nat.reduceMul, Nat.reduceLT, Nat.reduceLeDiff, Nat.reduceEqDiff, Nat.reduceBEq, reduceCtorEq, reduceIte, hi, e3, getD_bytS xs i hi, f42, S_42, List.findIdx?_cons]
    have h := ih (i + 1) (by omega) (by omega)
    by_cases hc : xs.getD i [] = g
    · simp only [hc, go_sem, Int.reduceToNat, Int.reduceLE, Int.reduceLT, Int.reduceEq, Int.reduceNe, Int.reduceNeg, Int.reduceAdd, Int.reduceSub, Int.reduceMul, Nat.reducePow, Nat.reduceDiv, Nat.reduceMod, Nat.reduceAdd, Nat.reduceSub, Nat.reduceMul, Nat.reduceLT, Nat.reduceLeDiff, Nat.reduceEqDiff, Nat.reduceBEq, reduceCtorEq, reduceIte, r55_0, r55_1, r55_2, r55_3, r55_4, r55_5, r55_6, r55_8, F55, q55_7, q55]
    · simp only [hc, go_sem, Int.reduceToNat, Int.reduceLE, Int.reduceLT, Int.reduceEq, Int.reduceNe, Int.reduceNeg, Int.reduceAdd, Int.reduceSub, Int.reduceMul, Nat.reducePow, Nat.reduceDiv, Nat.reduceMod, Nat.reduceAdd, Nat.reduceSub, Nat.reduceMul, Nat.reduceLT, Nat.reduceLeDiff, Nat.reduceEqDiff, Nat.reduceBEq, reduceCtorEq, reduceIte, r55_0, r55_1, r55_2, r55_3, r55_4, r55_5, r55_6, r55_8, F55, q55_7, q55, h]
      cases (xs.drop (i + 1)).findIdx? (fun x => decide (x = g)) with
      | none => rfl
      | some k => simp only [Option.map_some]; rw [show i + 1 + k = i + (k + 1) by omega]
theorem f55a (g : List UInt8) (xs : List (List UInt8)) (hl : xs.length ≤ 1000000000)  : call T 55 [.lst 1 (xs.map bytS) .no, .fn 42 [] [.ptr 0 0]] [.rc [.byt g .no]] 0 =
    some ⟨.int .i64 (match xs.findIdx? (fun x => decide (x = g)) with | some k => (k : Int) | none => -1), [(0, .rc [.byt g .no])], []⟩ := by
  have h := l55a g xs hl _ 0 rfl (by omega)
  rw [call_code T_55]
  simp only [Int.natCast_zero, List.drop_zero] at h
  simp only [r55_0, r55_1, r55_2, r55_3, r55_4, r55_5, r55_6, r55_8, F55, q55_7, q55, go_sem, Int.reduceToNat, Int.reduceLE, Int.reduceLT, Int.reduceEq, Int.reduceNe, Int.reduceNeg, Int.reduceAdd, Int.reduceSub, Int.reduceMul, Nat.reducePow, Nat.reduceDiv, Nat.reduceMod, Nat.reduceAdd, Nat.reduceSub, Nat.reduceMul, Nat.reduceLT, Nat.reduceLeDiff, Nat.reduceEqDiff, Nat.reduceBEq, reduceCtorEq, reduceIte, h]
  cases xs.findIdx? (fun x => decide (x = g)) with
  | none => simp only [r55_0, r55_1, r55_2, r55_3, r55_4, r55_5, r55_6, r55_8, F55, q55_7, q55, go_sem, Int.reduceToNat, Int.reduceLE, Int.reduceLT, Int.reduceEq, Int.reduceNe, Int.reduceNeg, Int.reduceAdd, Int.reduceSub, Int.reduceMul, Nat.reducePow, Nat.reduceDiv, Nat.reduceMod, Nat.reduceAdd, Nat.reduceSub, Nat.reduceMul, Nat.reduceLT, Nat.reduceLeDiff, Nat.reduceEqDiff, Nat.reduceBEq, reduceCtorEq, reduceIte]
  | some k => simp only [r55_0, r55_1, r55_2, r55_3, r55_4, r55_5, r55_6, r55_8, F55, q55_7, q55, go_sem, Int.reduceToNat, Int.reduceLE, Int.reduceLT, Int.reduceEq, Int.reduceNe, Int.reduceNeg, Int.reduceAdd, Int.reduceSub, Int.reduceMul, Nat.reducePow, Nat.reduceDiv, Nat.reduceMod, Nat.reduceAdd, Nat.reduceSub, Nat.reduceMul, Nat.reduceLT, Nat.reduceLeDiff, Nat.reduceEqDiff, Nat.reduceBEq, reduceCtorEq, reduceIte]
theorem f40a (g : List UInt8) (xs : List (List UInt8)) (hl : xs.length ≤ 1000000000)  : call T 40 [.lst 1 (xs.map bytS) .no, .fn 42 [] [.ptr 0 0]] [.rc [.byt g .no]] 0 = some ⟨.bool (xs.any fun x => decide (x = g)), [(0, .rc [.byt g .no])], []⟩ := by
  have h := f55a g xs hl
  rw [call_code T_40]
  simp only [r40_0, r40_1, F40, q40, go_sem, Int.reduceToNat, Int.reduceLE, Int.reduceLT, Int.reduceEq, Int.reduceNe, Int.reduceNeg, Int.reduceAdd, Int.reduceSub, Int.reduceMul, Nat.reducePow, Nat.reduceDiv, Nat.reduceMod, Nat.reduceAdd, Nat.reduceSub, Nat.reduceMul, Nat.reduceLT, Nat.reduceLeDiff, Nat.reduceEqDiff, Nat.reduceBEq, reduceCtorEq, reduceIte, h, S_55]
  cases hx : xs.findIdx? (fun x => decide (x = g)) with
  | none =>
    have : (xs.any fun x => decide (x = g)) = false := by
      rw [List.findIdx?_eq_none_iff] at hx
      rw [List.any_eq_false]
      intro x hm
      simpa using hx x hm
    simp only [this, go_sem, Int.reduceToNat, Int.reduceLE, Int.reduceLT, Int.reduceEq, Int.reduceNe, Int.reduceNeg, Int.reduceAdd, Int.reduceSub, Int.reduceMul, Nat.reducePow, Nat.reduceDiv, Nat.reduceMod, Nat.reduceAdd, Nat.reduceSub, Nat.reduceMul, Nat.reduceLT, Nat.reduceLeDiff, Nat.reduceEqDiff, Nat.reduceBEq, reduceCtorEq, reduceIte]
  | some k =>
    have : (xs.any fun x => decide (x = g)) = true := by
      rw [List.findIdx?_eq_some_iff_getElem] at hx
      obtain ⟨h1, h2, _⟩ := hx
      exact List.any_eq_true.2 ⟨_, List.getElem_mem h1, h2⟩
    simp only [this, go_sem, Int.reduceToNat, Int.reduceLE, Int.reduceLT, Int.reduceEq, Int.reduceNe, Int.reduceNeg, Int.reduceAdd, Int.reduceSub, Int.reduceMul, Nat.reducePow, Nat.reduceDiv, Nat.reduceMod, Nat.reduceAdd, Nat.reduceSub, Nat.reduceMul, Nat.reduceLT, Nat.reduceLeDiff, Nat.reduceEqDiff, Nat.reduceBEq, reduceCtorEq, reduceIte]

theorem f41 (g : List UInt8) (fs : List (List UInt8)) (hf : fs.length ≤ 1000000000) : call T 41 [.byt g .no, .ptr 0 0] [.rc [.lst 1 (fs.map bytS) .no]] 0 = some ⟨.bool (!fs.any fun x => decide (x = g)), [(0, .rc [.lst 1 (fs.map bytS) .no])], []⟩ := by
  rw [call_code T_41]
  simp only [r41_0, r41_1, F41, q41, go_sem, Int.reduceToNat, Int.reduceLE, Int.reduceLT, Int.reduceEq, Int.reduceNe, Int.reduceNeg, Int.reduceAdd, Int.reduceSub, Int.reduceMul, Nat.reducePow, Nat.reduceDiv, Nat.reduceMod, Nat.reduceAdd, Nat.reduceSub, Nat.reduceMul, Nat.reduceLT, Nat.reduceLeDiff, Nat.reduceEqDiff, Nat.reduceBEq, reduceCtorEq, reduceIte, f40a g fs hf, S_40]

theorem l55b (fs : List (List UInt8)) (hf : fs.length ≤ 1000000000) (xs : List (List UInt8)) (hl : xs.length ≤ 1000000000)  : ∀ (n i : Nat), xs.length - i = n → i ≤ xs.length →
    run T (.loop r55_7) ⟨[(0, .lst 1 (xs.map bytS) .no), (1, .fn 41 [] [.ptr 0 0]), (7, .int .i64 xs.length), (8, .int .i64 i)], [(0, .rc [.lst 1 (fs.map bytS) .no])], []⟩ =
      match (xs.drop i).findIdx? (fun x => !fs.any fun y => decide (y = x)) with
      | some k => some (.r, ⟨[(4, .int .i64 ((i + k : Nat) : Int))], [(0, .rc [.lst 1 (fs.map bytS) .no])], []⟩)
      | none => some (.x 0, ⟨[], [(0, .rc [.lst 1 (fs.map bytS) .no])], []⟩) := by
  intro n
  induction n with
  | zero =>
    intro i h0 h1
    have hi : i = xs.length := by omega
    subst hi
    rw [run_loop]
    simp only [r55_0, r55_1, r55_2, r55_3, r55_4, r55_5, r55_6, r55_8, F55, q55_7, q55, go_sem, Int.reduceToNat, Int.reduceLE, Int.reduceLT, Int.reduceEq, Int.reduceNe, Int.reduceNeg, Int.reduceAdd, Int.reduceSub, Int.reduceMul, Nat.reducePow, Nat.reduceDiv, Nat.reduceMod, Nat.reduceAdd, Nat.reduceSub, Nat.reduceMul, Nat.reduceLT, Nat.reduceLeDiff, Nat.reduceEqDiff, Nat.reduceBEq, reduceCtorEq, reduceIte, List.drop_length, List.findIdx?_nil]
  | succ n ih =>
    intro i h0 h1
    have hi : i < xs.length := by omega
    rw [run_loop, drop_consG xs i hi]
    have e3 := wsucc i (by omega)
    simp only [r55_0, r55_1, r55_2, r55_3, r55_4, r55_5, r55_6, r55_8, F55, q55_7, q55, go_sem, Int.reduceToNat, Int.reduceLE, Int.reduceLT, Int.reduceEq, Int.reduceNe, Int.reduceNeg, Int.reduceAdd, Int.reduceSub, Int.reduceMul, Nat.reducePow, Nat.reduceDiv, Nat.reduceMod, Nat.reduceAdd, Nat.reduceSub, Nat.reduceMul, Nat.reduceLT, Nat.reduceLeDiff, Nat.reduceEqDiff, Nat.reduceBEq, reduceCtorEq, reduceIte, hi, e3, getD_bytS xs i hi, f41 _ fs hf, S_41, List.findIdx?_cons]
    have h := ih (i + 1) (by omega) (by omega)
    by_cases hc : (!fs.any fun y => decide (y = xs.getD i [])) = true
    · simp only [hc, go_sem, Int.reduceToNat, Int.reduceLE, Int.reduceLT, Int.reduceEq, Int.reduceNe, Int.reduceNeg, Int.reduceAdd, Int.reduceSub, Int.reduceMul, Nat.reducePow, Nat.reduceDiv, Nat.reduceMod, Nat.reduceAdd, Nat.reduceSub, Nat.reduceMul, Nat.reduceLT, Nat.reduceLeDiff, Nat.reduceEqDiff, Nat.reduceBEq, reduceCtorEq, reduceIte, r55_0, r55_1, r55_2, r55_3, r55_4, r55_5, r55_6, r55_8, F55, q55_7, q55]
    · simp only [hc, go_sem, Int.reduceToNat, Int.reduceLE, Int.reduceLT, Int.reduceEq, Int.reduceNe, Int.reduceNeg, Int.reduceAdd, Int.reduceSub, Int.reduceMul, Nat.reducePow, Nat.reduceDiv, Nat.reduceMod, Nat.reduceAdd, Nat.reduceSub, Nat.reduceMul, Nat.reduceLT, Nat.reduceLeDiff, Nat.reduceEqDiff, Nat.reduceBEq, reduceCtorEq, reduceIte, r55_0, r55_1, r55_2, r55_3, r55_4, r55_5, r55_6, r55_8, F55, q55_7, q55, h]
      cases (xs.drop (i + 1)).findIdx? (fun x => !fs.any fun y => decide (y = x)) with
      | none => rfl
      | some k => simp only [Option.map_some]; rw [show i + 1 + k = i + (k + 1) by omega]
theorem f55b (fs : List (List UInt8)) (hf : fs.length ≤ 1000000000) (xs : List (List UInt8)) (hl : xs.length ≤ 1000000000)  : call T 55 [.lst 1 (xs.map bytS) .no, .fn 41 [] [.ptr 0 0]] [.rc [.lst 1 (fs.map bytS) .no]] 0 =
    some ⟨.int .i64 (match xs.findIdx? (fun x => !fs.any fun y => decide (y = x)) with | some k => (k : Int) | none => -1), [(0, .rc [.lst 1 (fs.map bytS) .no])], []⟩ := by
  have h := l55b fs hf xs hl _ 0 rfl (by omega)
  rw [call_code T_55]
  simp only [Int.natCast_zero, List.drop_zero] at h
  simp only [r55_0, r55_1, r55_2, r55_3, r55_4, r55_5, r55_6, r55_8, F55, q55_7, q55, go_sem, Int.reduceToNat, Int.reduceLE, Int.reduceLT, Int.reduceEq, Int.reduceNe, Int.reduceNeg, Int.reduceAdd, Int.reduceSub, Int.reduceMul, Nat.reducePow, Nat.reduceDiv, Nat.reduceMod, Nat.reduceAdd, Nat.reduceSub, Nat.reduceMul, Nat.reduceLT, Nat.reduceLeDiff, Nat.reduceEqDiff, Nat.reduceBEq, reduceCtorEq, reduceIte, h]
  cases xs.findIdx? (fun x => !fs.any fun y => decide (y = x)) with
  | none => simp only [r55_0, r55_1, r55_2, r55_3, r55_4, r55_5, r55_6, r55_8, F55, q55_7, q55, go_sem, Int.reduceToNat, Int.reduceLE, Int.reduceLT, Int.reduceEq, Int.reduceNe, Int.reduceNeg, Int.reduceAdd, Int.reduceSub, Int.reduceMul, Nat.reducePow, Nat.reduceDiv, Nat.reduceMod, Nat.reduceAdd, Nat.reduceSub, Nat.reduceMul, Nat.reduceLT, Nat.reduceLeDiff, Nat.reduceEqDiff, Nat.reduceBEq, reduceCtorEq, reduceIte]
  | some k => simp only [r55_0, r55_1, r55_2, r55_3, r55_4, r55_5, r55_6, r55_8, F55, q55_7, q55, go_sem, Int.reduceToNat, Int.reduceLE, Int.reduceLT, Int.reduceEq, Int.reduceNe, Int.reduceNeg, Int.reduceAdd, Int.reduceSub, Int.reduceMul, Nat.reducePow, Nat.reduceDiv, Nat.reduceMod, Nat.reduceAdd, Nat.reduceSub, Nat.reduceMul, Nat.reduceLT, Nat.reduceLeDiff, Nat.reduceEqDiff, Nat.reduceBEq, reduceCtorEq, reduceIte]
theorem f40b (fs : List (List UInt8)) (hf : fs.length ≤ 1000000000) (xs : List (List UInt8)) (hl : xs.length ≤ 1000000000)  : call T 40 [.lst 1 (xs.map bytS) .no, .fn 41 [] [.ptr 0 0]] [.rc [.lst 1 (fs.map bytS) .no]] 0 = some ⟨.bool (xs.any fun x => !fs.any fun y => decide (y = x)), [(0, .rc [.lst 1 (fs.map bytS) .no])], []⟩ := by
  have h := f55b fs hf xs hl
  rw [call_code T_40]
  simp only [r40_0, r40_1, F40, q40, go_sem, Int.reduceToNat, Int.reduceLE, Int.reduceLT, Int.reduceEq, Int.reduceNe, Int.reduceNeg, Int.reduceAdd, Int.reduceSub, Int.reduceMul, Nat.reducePow, Nat.reduceDiv, Nat.reduceMod, Nat.reduceAdd, Nat.reduceSub, Nat.reduceMul, Nat.reduceLT, Nat.reduceLeDiff, Nat.reduceEqDiff, Nat.reduceBEq, reduceCtorEq, reduceIte, h, S_55]
  cases hx : xs.findIdx? (fun x => !fs.any fun y => decide (y = x)) with
  | none =>
    have : (xs.any fun x => !fs.any fun y => decide (y = x)) = false := by
      rw [List.findIdx?_eq_none_iff] at hx
      rw [List.any_eq_false]
      intro x hm
      simpa using hx x hm
    simp only [this, go_sem, Int.reduceToNat, Int.reduceLE, Int.reduceLT, Int.reduceEq, Int.reduceNe, Int.reduceNeg, Int.reduceAdd, Int.reduceSub, Int.reduceMul, Nat.reducePow, Nat.reduceDiv, Nat.reduceMod, Nat.reduceAdd, Nat.reduceSub, Nat.reduceMul, Nat.reduceLT, Nat.reduceLeDiff, Nat.reduceEqDiff, Nat.reduceBEq, reduceCtorEq, reduceIte]
  | some k =>
    have : (xs.any fun x => !fs.any fun y => decide (y = x)) = true := by
      rw [List.findIdx?_eq_some_iff_getElem] at hx
      obtain ⟨h1, h2, _⟩ := hx
      exact List.any_eq_true.2 ⟨_, List.getElem_mem h1, h2⟩
    simp only [this, go_sem, Int.reduceToNat, Int.reduceLE, Int.reduceLT, Int.reduceEq, Int.reduceNe, Int.reduceNeg, Int.reduceAdd, Int.reduceSub, Int.reduceMul, Nat.reducePow, Nat.reduceDiv, Nat.reduceMod, Nat.reduceAdd, Nat.reduceSub, Nat.reduceMul, Nat.reduceLT, Nat.reduceLeDiff, Nat.reduceEqDiff, Nat.reduceBEq, reduceCtorEq, reduceIte]

end Go.Proofs.Ytghggnfomlibjaa
