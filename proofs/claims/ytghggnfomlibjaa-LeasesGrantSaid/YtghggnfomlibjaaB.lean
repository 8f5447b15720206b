/-
  The reference's searches; the reader of codes.
-/
import Derived.Test.YtghggnfomlibjaaA
set_option maxRecDepth 100000
set_option linter.unusedSimpArgs false
set_option linter.unusedVariables false
namespace Go.Proofs.Ytghggnfomlibjaa
open Go.Sy
attribute [local go_sem] List.mem_cons List.not_mem_nil List.map_append List.append_assoc d_mov d_build d_lit d_litB d_load d_nchk d_bin d_beq d_eqS d_un d_toInt d_toStr d_s2b d_b2s d_mkfn d_slcS d_slcL d_slcA d_faddr d_fld d_iaddrL d_iaddrA d_idxA d_idxS d_ext d_len d_lenC d_cap d_mini d_maxi d_pick d_new d_box d_store apE d_app d_mk d_mkB d_call rd_nil rd_none rd_some gdD_b nd_some nd_none app_val app_new app_wr foot_val foot_new foot_tok foot_wr cpS_some mkS_some mkBS_some valE_some valE_none Foot.quiet noFoot SV.names SObj.names namesO Tok.ids SOp.args storeC List.length_map List.length_append List.length_replicate Int.natCast_nonneg Int.ofNat_lt Int.ofNat_le Int.ofNat_inj run_skip run_ret run_exit run_ops run_drw run_flt w_mov w_build w_lit w_litB w_load w_nchk w_bin w_beq w_eqS w_un w_toInt w_toStr w_s2b w_b2s w_mkfn w_slcS w_slcL w_slcA w_faddr w_fld w_iaddrL w_iaddrA w_idxA w_idxS w_ext w_len w_lenC w_cap w_mini w_maxi w_pick qv_n qv_s qg_b s_some stG_b fl_nil fl_q fl_n fq_s fn_s fg_s gdP_pos fk_nil fk_cons run_seq run_cond run_block run_pre run_post gd_pos putS_some putS_none put_some put_none get_mk look_mk ev_t ev_c ev_f kill_nil kill_cons o_mov o_build o_lit o_litB o_load o_nchk o_bin o_beq o_eqS o_un o_toInt o_toStr o_s2b o_b2s o_mkfn o_slcS o_slcL o_slcA o_faddr o_fld o_iaddrL o_iaddrA o_idxA o_idxS o_ext o_len o_lenC o_cap o_mini o_maxi o_pick o_isnil o_new o_box o_mk o_mkB o_store o_app o_cpy o_call addN_eq addS_some mkE mkBE stC stS_some apS apB apL appT_eq cpC cp2 cpB cpL s_none p_cons ops_nil ops_op ops_grp ops_dir nx_some nx_none pl_nil np_some np_none un_nil un_cons grp_b nx_ite ite_mk ite_tm ite_nil ite_same ite_sint ite_sbool ite_su8 iteV_bool iteV_int iteV_u8 iteV_true iteV_false nrm_some nrm_none nrm_ite sq_n sq_x sq_r sq_none sq_ite cnd_b blk_n blk_r blk_x blk_none blk_ite lp_n lp_x lp_r lp_none lp_ite prD_some psD_n psD_x psD_r psD_none psD_ite dirs_nil dirs_cons dirN_some fin_n fin_r fin_ite nchkC beqC eqsC toStrC s2bC b2sC slcSC2 slcSC slcAC faddrC fldC iaddrLC iaddrAC2 iaddrAC idxAC idxSC extC lenC capC miniC maxiC buildC litC litBC pickC isnilC getT putT delT getO putO delO putK purgeT evL CSt.purge ibinC u8binC sbinC isShift binC loadC optC slcC bytesC rowsC psC Tok.readyC SObj.wf SV.bare SV.bareL tokV tokL tokC tokOb tokObs somes reach looks ixOf obsIds nodupB subB renObL putsO putsK dropK renKs afterC slIds slId_int slId_bool slId_u8 slId_str slId_byt slId_lst slId_nilp slId_undef slId_pp slId_ptr slId_ap slId_agg slId_tup slId_fn slId_psl callV callC_eq callK_t callK_f fastC_s fast2_t fast2_f fast3_t bare_mk small_mk slowC_p slow0_p slow1_s slow2_p slow3_t slow4_s slow5_t fin0_s finP_p fin1_t fin1_f fin2_p fin3_s fin4_p fin5_t oneSV_0 oneSV_1 oneSV_2 callE_s callE2_t callEK_t callEK_f callOW_t callO_c callO1_s callO2_t callO3_s callO4_t callEV_f iteV_dl iteV_dr iteV_tl iteV_tr iteV_nl iteV_nr bif_and bif_or pubAll CSt.publish pubO pubT obPub SV.pub SV.pubL pubSl gcC dirC tokD resC upto zipIx newIx tks initT iniC initC mkLoad cmpSV unSV toIntSV lenSV SV.num slcTok fillSV toB rows eqCell eqCells setRow setCells Tok.eat SV.one SV.data SV.isData SV.cells SV.isDef SV.purge SV.purgeL SObj.purge purgeO dropT Tok.purge SV.ren SV.renL SObj.ren Tok.ren SV.ids SV.idsL SV.toks SV.toksL SObj.ids SObj.toks renO renT inR renOs dropOs id_eq List.length_cons List.length_nil List.cons_append List.nil_append List.append_nil Nat.zero_add Nat.add_zero beq_self_eq_true List.getD_cons_zero List.getD_cons_succ List.getD_nil List.take_succ_cons List.take_zero List.take_nil List.drop_zero List.drop_succ_cons List.drop_nil List.map_cons List.map_nil List.flatten_cons List.flatten_nil List.contains_nil List.contains_cons List.isEmpty_nil List.isEmpty_cons List.all_cons List.all_nil List.set_cons_zero List.set_cons_succ Option.getD_some Option.getD_none Option.map_some Option.map_none Option.toList_some Option.toList_none Option.bind_some Option.isNone_none Option.isNone_some Option.isSome_none Option.isSome_some Bool.or_false Bool.true_or Bool.or_true Bool.false_or Bool.and_self Bool.and_true Bool.true_and Bool.and_false Bool.false_and Bool.not_true Bool.not_false Bool.false_eq_true Bool.true_eq_false Bool.not_eq_true Bool.not_eq_false decide_eq_true_eq decide_eq_false_iff_not and_true true_and and_self or_false false_or or_true true_or not_true_eq_false not_false_eq_true ne_eq Int.toNat_natCast true_implies false_implies implies_true decide_true decide_false Nat.lt_irrefl Nat.not_lt_zero Nat.le_refl Nat.zero_le eq_self and_false false_and

theorem wsucc (i : Nat) (h : i ≤ 4000000000) : IntKind.i64.wrap ((i : Int) + 1) = ((i + 1 : Nat) : Int) := by rw [w64 (by omega) (by omega)]; omega
theorem drop_cons {α : Type} [Inhabited α] (l : List α) (i : Nat) (h : i < l.length) : l.drop i = l.getD i default :: l.drop (i + 1) := by
  rw [List.drop_eq_getElem_cons h, List.getD_eq_getElem?_getD, List.getElem?_eq_getElem h]; rfl

theorem l21 (L : List Lease) (l : List Hold) (m : Int) (hl : l.length ≤ 1000000000) : ∀ (n i : Nat), l.length - i = n → i ≤ l.length →
    run T (.loop r21_6) ⟨[(1, .int .i64 m), (2, .ptr 102 0), (5, .int .i64 i)], [(102, .rc [.lst 3 (L.map Lease.sv) .no, .lst 3 (l.map Hold.sv) .no])], []⟩ =
      if ((l.drop i).map Hold.m).contains m = true then some (.r, ⟨[(4, .bool true)], [(102, .rc [.lst 3 (L.map Lease.sv) .no, .lst 3 (l.map Hold.sv) .no])], []⟩)
      else some (.x 0, ⟨[], [(102, .rc [.lst 3 (L.map Lease.sv) .no, .lst 3 (l.map Hold.sv) .no])], []⟩) := by
  intro n
  induction n with
  | zero =>
    intro i h0 h1
    have hi : i = l.length := by omega
    subst hi
    rw [run_loop]
    simp only [r21_0, r21_1, r21_2, r21_3, r21_4, r21_5, r21_7, F21, q21_6, q21, go_sem, Int.reduceToNat, Int.reduceLE, Int.reduceLT, Int.reduceEq, Int.reduceNe, Int.reduceNeg, Int.reduceAdd, Int.reduceSub, Int.reduceMul, Nat.reducePow, Nat.reduceDiv, Nat.reduceMod, Nat.reduceAdd, Nat.reduceSub, Nat.reduceMul, Nat.reduceLT, Nat.reduceLeDiff, Nat.reduceEqDiff, Nat.reduceBEq, reduceCtorEq, reduceIte, List.drop_length]
  | succ n ih =>
    intro i h0 h1
    have hi : i < l.length := by omega
    rw [run_loop, drop_cons l i hi]
    have e2 := getD_map Hold.sv l i hi
    have e3 := wsucc i (by omega)
    simp only [r21_0, r21_1, r21_2, r21_3, r21_4, r21_5, r21_7, F21, q21_6, q21, go_sem, Int.reduceToNat, Int.reduceLE, Int.reduceLT, Int.reduceEq, Int.reduceNe, Int.reduceNeg, Int.reduceAdd, Int.reduceSub, Int.reduceMul, Nat.reducePow, Nat.reduceDiv, Nat.reduceMod, Nat.reduceAdd, Nat.reduceSub, Nat.reduceMul, Nat.reduceLT, Nat.reduceLeDiff, Nat.reduceEqDiff, Nat.reduceBEq, reduceCtorEq, reduceIte, hi, e2, Hold.sv, e3, ih (i + 1) (by omega) (by omega)]
    by_cases hc : (l.getD i default).m = m
    · simp only [hc, go_sem, Int.reduceToNat, Int.reduceLE, Int.reduceLT, Int.reduceEq, Int.reduceNe, Int.reduceNeg, Int.reduceAdd, Int.reduceSub, Int.reduceMul, Nat.reducePow, Nat.reduceDiv, Nat.reduceMod, Nat.reduceAdd, Nat.reduceSub, Nat.reduceMul, Nat.reduceLT, Nat.reduceLeDiff, Nat.reduceEqDiff, Nat.reduceBEq, reduceCtorEq, reduceIte, r21_0, r21_1, r21_2, r21_3, r21_4, r21_5, r21_7, F21, q21_6, q21]
    · have hc' : (m == (l.getD i default).m) = false := by simpa using Ne.symm hc
      simp only [hc, hc', go_sem, Int.reduceToNat, Int.reduceLE, Int.reduceLT, Int.reduceEq, Int.reduceNe, Int.reduceNeg, Int.reduceAdd, Int.reduceSub, Int.reduceMul, Nat.reducePow, Nat.reduceDiv, Nat.reduceMod, Nat.reduceAdd, Nat.reduceSub, Nat.reduceMul, Nat.reduceLT, Nat.reduceLeDiff, Nat.reduceEqDiff, Nat.reduceBEq, reduceCtorEq, reduceIte, r21_0, r21_1, r21_2, r21_3, r21_4, r21_5, r21_7, F21, q21_6, q21]
theorem f21 (l : Ls) (m : Int) (hl : l.hs.length ≤ 1000000000) : call T 21 [l.sv, .int .i64 m] [] 0 = some ⟨.bool ((l.hs.map Hold.m).contains m), [], []⟩ := by
  have h := l21 l.ls l.hs m hl _ 0 rfl (by omega)
  rw [call_code T_21]
  simp only [r21_0, r21_1, r21_2, r21_3, r21_4, r21_5, r21_7, F21, q21_6, q21, go_sem, Int.reduceToNat, Int.reduceLE, Int.reduceLT, Int.reduceEq, Int.reduceNe, Int.reduceNeg, Int.reduceAdd, Int.reduceSub, Int.reduceMul, Nat.reducePow, Nat.reduceDiv, Nat.reduceMod, Nat.reduceAdd, Nat.reduceSub, Nat.reduceMul, Nat.reduceLT, Nat.reduceLeDiff, Nat.reduceEqDiff, Nat.reduceBEq, reduceCtorEq, reduceIte, Ls.sv, lsSV, hsSV]
  simp only [Int.natCast_zero, List.drop_zero] at h
  rw [h]
  by_cases hc : (l.hs.map Hold.m).contains m = true
  · simp only [hc, r21_0, r21_1, r21_2, r21_3, r21_4, r21_5, r21_7, F21, q21_6, q21, go_sem, Int.reduceToNat, Int.reduceLE, Int.reduceLT, Int.reduceEq, Int.reduceNe, Int.reduceNeg, Int.reduceAdd, Int.reduceSub, Int.reduceMul, Nat.reducePow, Nat.reduceDiv, Nat.reduceMod, Nat.reduceAdd, Nat.reduceSub, Nat.reduceMul, Nat.reduceLT, Nat.reduceLeDiff, Nat.reduceEqDiff, Nat.reduceBEq, reduceCtorEq, reduceIte]
  · have hc' : (l.hs.map Hold.m).contains m = false := by simpa using hc
    simp only [hc', r21_0, r21_1, r21_2, r21_3, r21_4, r21_5, r21_7, F21, q21_6, q21, go_sem, Int.reduceToNat, Int.reduceLE, Int.reduceLT, Int.reduceEq, Int.reduceNe, Int.reduceNeg, Int.reduceAdd, Int.reduceSub, Int.reduceMul, Nat.reducePow, Nat.reduceDiv, Nat.reduceMod, Nat.reduceAdd, Nat.reduceSub, Nat.reduceMul, Nat.reduceLT, Nat.reduceLeDiff, Nat.reduceEqDiff, Nat.reduceBEq, reduceCtorEq, reduceIte]

def findL (l : List Lease) (m : Int) : Option Lease := l.find? fun x => decide (x.m = m)
theorem l28 (l : List Lease) (H : List Hold) (m : Int) (hl : l.length ≤ 1000000000) : ∀ (n i : Nat), l.length - i = n → i ≤ l.length →
    run T (.loop r28_6) ⟨[(1, .int .i64 m), (2, .ptr 102 0), (4, .ptr 104 0), (6, .int .i64 i)], [(102, .rc [.lst 3 (l.map Lease.sv) .no, .lst 3 (H.map Hold.sv) .no]), (104, .rc [.int .i64 0, .int .i64 0, .lst 1 [] .clip])], []⟩ =
      match findL (l.drop i) m with
      | some x => some (.r, ⟨[(4, .ptr 104 0), (5, .bool true)], [(102, .rc [.lst 3 (l.map Lease.sv) .no, .lst 3 (H.map Hold.sv) .no]), (104, .rc [.int .i64 x.m, .int .i64 x.u, .lst 1 (x.g.map bytS) .no])], []⟩)
      | none => some (.x 0, ⟨[(4, .ptr 104 0)], [(102, .rc [.lst 3 (l.map Lease.sv) .no, .lst 3 (H.map Hold.sv) .no]), (104, .rc [.int .i64 0, .int .i64 0, .lst 1 [] .clip])], []⟩) := by
  intro n
  induction n with
  | zero =>
    intro i h0 h1
    have hi : i = l.length := by omega
    subst hi
    rw [run_loop]
    simp only [r28_0, r28_1, r28_2, r28_3, r28_4, r28_5, r28_7, F28, q28_6, q28, go_sem, Int.reduceToNat, Int.reduceLE, Int.reduceLT, Int.reduceEq, Int.reduceNe, Int.reduceNeg, Int.reduceAdd, Int.reduceSub, Int.reduceMul, Nat.reducePow, Nat.reduceDiv, Nat.reduceMod, Nat.reduceAdd, Nat.reduceSub, Nat.reduceMul, Nat.reduceLT, Nat.reduceLeDiff, Nat.reduceEqDiff, Nat.reduceBEq, reduceCtorEq, reduceIte, List.drop_length, findL, List.find?_nil]
  | succ n ih =>
    intro i h0 h1
    have hi : i < l.length := by omega
    rw [run_loop, drop_cons l i hi]
    have e2 := getD_map Lease.sv l i hi
    have e3 := wsucc i (by omega)
    simp only [r28_0, r28_1, r28_2, r28_3, r28_4, r28_5, r28_7, F28, q28_6, q28, go_sem, Int.reduceToNat, Int.reduceLE, Int.reduceLT, Int.reduceEq, Int.reduceNe, Int.reduceNeg, Int.reduceAdd, Int.reduceSub, Int.reduceMul, Nat.reducePow, Nat.reduceDiv, Nat.reduceMod, Nat.reduceAdd, Nat.reduceSub, Nat.reduceMul, Nat.reduceLT, Nat.reduceLeDiff, Nat.reduceEqDiff, Nat.reduceBEq, reduceCtorEq, reduceIte, hi, e2, Lease.sv, gsSV, e3, ih (i + 1) (by omega) (by omega), findL, List.find?_cons]
    by_cases hc : (l.getD i default).m = m
    · simp only [hc, go_sem, Int.reduceToNat, Int.reduceLE, Int.reduceLT, Int.reduceEq, Int.reduceNe, Int.reduceNeg, Int.reduceAdd, Int.reduceSub, Int.reduceMul, Nat.reducePow, Nat.reduceDiv, Nat.reduceMod, Nat.reduceAdd, Nat.reduceSub, Nat.reduceMul, Nat.reduceLT, Nat.reduceLeDiff, Nat.reduceEqDiff, Nat.reduceBEq, reduceCtorEq, reduceIte, r28_0, r28_1, r28_2, r28_3, r28_4, r28_5, r28_7, F28, q28_6, q28]
    · simp only [hc, go_sem, Int.reduceToNat, Int.reduceLE, Int.reduceLT, Int.reduceEq, Int.reduceNe, Int.reduceNeg, Int.reduceAdd, Int.reduceSub, Int.reduceMul, Nat.reducePow, Nat.reduceDiv, Nat.reduceMod, Nat.reduceAdd, Nat.reduceSub, Nat.reduceMul, Nat.reduceLT, Nat.reduceLeDiff, Nat.reduceEqDiff, Nat.reduceBEq, reduceCtorEq, reduceIte, r28_0, r28_1, r28_2, r28_3, r28_4, r28_5, r28_7, F28, q28_6, q28]
theorem f28 (l : Ls) (m : Int) (hl : l.ls.length ≤ 1000000000) : call T 28 [l.sv, .int .i64 m] [] 0 = some ⟨.tup [.agg ((findL l.ls m).getD default).sv, .bool (findL l.ls m).isSome], [], []⟩ := by
  have h := l28 l.ls l.hs m hl _ 0 rfl (by omega)
  rw [call_code T_28]
  simp only [r28_0, r28_1, r28_2, r28_3, r28_4, r28_5, r28_7, F28, q28_6, q28, go_sem, Int.reduceToNat, Int.reduceLE, Int.reduceLT, Int.reduceEq, Int.reduceNe, Int.reduceNeg, Int.reduceAdd, Int.reduceSub, Int.reduceMul, Nat.reducePow, Nat.reduceDiv, Nat.reduceMod, Nat.reduceAdd, Nat.reduceSub, Nat.reduceMul, Nat.reduceLT, Nat.reduceLeDiff, Nat.reduceEqDiff, Nat.reduceBEq, reduceCtorEq, reduceIte, Ls.sv, lsSV, hsSV]
  simp only [Int.natCast_zero, List.drop_zero] at h
  rw [h]
  cases findL l.ls m with
  | none => simp only [r28_0, r28_1, r28_2, r28_3, r28_4, r28_5, r28_7, F28, q28_6, q28, go_sem, Int.reduceToNat, Int.reduceLE, Int.reduceLT, Int.reduceEq, Int.reduceNe, Int.reduceNeg, Int.reduceAdd, Int.reduceSub, Int.reduceMul, Nat.reducePow, Nat.reduceDiv, Nat.reduceMod, Nat.reduceAdd, Nat.reduceSub, Nat.reduceMul, Nat.reduceLT, Nat.reduceLeDiff, Nat.reduceEqDiff, Nat.reduceBEq, reduceCtorEq, reduceIte, Lease.sv, gsSV]; rfl
  | some x => simp only [r28_0, r28_1, r28_2, r28_3, r28_4, r28_5, r28_7, F28, q28_6, q28, go_sem, Int.reduceToNat, Int.reduceLE, Int.reduceLT, Int.reduceEq, Int.reduceNe, Int.reduceNeg, Int.reduceAdd, Int.reduceSub, Int.reduceMul, Nat.reducePow, Nat.reduceDiv, Nat.reduceMod, Nat.reduceAdd, Nat.reduceSub, Nat.reduceMul, Nat.reduceLT, Nat.reduceLeDiff, Nat.reduceEqDiff, Nat.reduceBEq, reduceCtorEq, reduceIte, Lease.sv, gsSV]

theorem l39 (l : List Lease) (m : Int) (hl : l.length ≤ 1000000000) : ∀ (n i : Nat) (acc : List Lease), l.length - i = n → i ≤ l.length → acc.length ≤ i →
    run T (.loop r39_7) ⟨[(0, .lst 3 (l.map Lease.sv) .no), (1, .int .i64 m), (5, .lst 3 (acc.map Lease.sv) (.id 105)), (6, .int .i64 i)], [], [105]⟩ =
      some (.x 0, ⟨[(5, .lst 3 ((acc ++ (l.drop i).filter fun x => decide (x.m ≠ m)).map Lease.sv) (.id 105))], [], [105]⟩) := by
  intro n
  induction n with
  | zero =>
    intro i acc h0 h1 ha
    have hi : i = l.length := by omega
    subst hi
    rw [run_loop]
    simp only [r39_0, r39_1, r39_2, r39_3, r39_4, r39_5, r39_6, r39_8, F39, q39_7, q39, go_sem, Int.reduceToNat, Int.reduceLE, Int.reduceLT, Int.reduceEq, Int.reduceNe, Int.reduceNeg, Int.reduceAdd, Int.reduceSub, Int.reduceMul, Nat.reducePow, Nat.reduceDiv, Nat.reduceMod, Nat.reduceAdd, Nat.reduceSub, Nat.reduceMul, Nat.reduceLT, Nat.reduceLeDiff, Nat.reduceEqDiff, Nat.reduceBEq, reduceCtorEq, reduceIte, List.drop_length, List.filter_nil]
  | succ n ih =>
    intro i acc h0 h1 ha
    have hi : i < l.length := by omega
    rw [run_loop, drop_cons l i hi]
    have e2 := getD_map Lease.sv l i hi
    have e3 := wsucc i (by omega)
    have e4 : (acc.length + 1) * 40 ≤ 140737488355328 := by omega
    simp only [r39_0, r39_1, r39_2, r39_3, r39_4, r39_5, r39_6, r39_8, F39, q39_7, q39, go_sem, Int.reduceToNat, Int.reduceLE, Int.reduceLT, Int.reduceEq, Int.reduceNe, Int.reduceNeg, Int.reduceAdd, Int.reduceSub, Int.reduceMul, Nat.reducePow, Nat.reduceDiv, Nat.reduceMod, Nat.reduceAdd, Nat.reduceSub, Nat.reduceMul, Nat.reduceLT, Nat.reduceLeDiff, Nat.reduceEqDiff, Nat.reduceBEq, reduceCtorEq, reduceIte, hi, e2, Lease.sv, gsSV, e3, e4, List.filter_cons]
    by_cases hc : (l.getD i default).m = m
    · have h := ih (i + 1) acc (by omega) (by omega) (by omega)
      simp only [List.map_append] at h
      simp only [hc, go_sem, Int.reduceToNat, Int.reduceLE, Int.reduceLT, Int.reduceEq, Int.reduceNe, Int.reduceNeg, Int.reduceAdd, Int.reduceSub, Int.reduceMul, Nat.reducePow, Nat.reduceDiv, Nat.reduceMod, Nat.reduceAdd, Nat.reduceSub, Nat.reduceMul, Nat.reduceLT, Nat.reduceLeDiff, Nat.reduceEqDiff, Nat.reduceBEq, reduceCtorEq, reduceIte, r39_0, r39_1, r39_2, r39_3, r39_4, r39_5, r39_6, r39_8, F39, q39_7, q39, h, ne_eq]
    · have h := ih (i + 1) (acc ++ [l.getD i default]) (by omega) (by omega) (by simp; omega)
      simp only [List.map_append, List.map_cons, List.map_nil, Lease.sv, gsSV, List.append_assoc, List.cons_append, List.nil_append] at h
      simp only [hc, go_sem, Int.reduceToNat, Int.reduceLE, Int.reduceLT, Int.reduceEq, Int.reduceNe, Int.reduceNeg, Int.reduceAdd, Int.reduceSub, Int.reduceMul, Nat.reducePow, Nat.reduceDiv, Nat.reduceMod, Nat.reduceAdd, Nat.reduceSub, Nat.reduceMul, Nat.reduceLT, Nat.reduceLeDiff, Nat.reduceEqDiff, Nat.reduceBEq, reduceCtorEq, reduceIte, r39_0, r39_1, r39_2, r39_3, r39_4, r39_5, r39_6, r39_8, F39, q39_7, q39, h, ne_eq, List.map_cons, Lease.sv, gsSV]
theorem f39 (l : List Lease) (m : Int) (hl : l.length ≤ 1000000000) : call T 39 [.lst 3 (l.map Lease.sv) .no, .int .i64 m] [] 0 = some ⟨.lst 3 ((l.filter fun x => decide (x.m ≠ m)).map Lease.sv) .no, [], []⟩ := by
  have h := l39 l m hl _ 0 [] rfl (by omega) (by simp)
  rw [call_code T_39]
  simp only [Int.natCast_zero, List.drop_zero, List.map_nil, List.nil_append] at h
  simp only [r39_0, r39_1, r39_2, r39_3, r39_4, r39_5, r39_6, r39_8, F39, q39_7, q39, go_sem, Int.reduceToNat, Int.reduceLE, Int.reduceLT, Int.reduceEq, Int.reduceNe, Int.reduceNeg, Int.reduceAdd, Int.reduceSub, Int.reduceMul, Nat.reducePow, Nat.reduceDiv, Nat.reduceMod, Nat.reduceAdd, Nat.reduceSub, Nat.reduceMul, Nat.reduceLT, Nat.reduceLeDiff, Nat.reduceEqDiff, Nat.reduceBEq, reduceCtorEq, reduceIte, h]

theorem drop_cons0 (l : List UInt8) (i : Nat) (h : i < l.length) : l.drop i = l.getD i 0 :: l.drop (i + 1) := drop_cons l i h
theorem l50 (a b : List UInt8) (hl : a.length ≤ 140737488355328) (hab : a.length = b.length) : ∀ (n i : Nat), a.length - i = n → i ≤ a.length →
    run T (.loop r50_8) ⟨[(0, .byt a .no), (1, .byt b .no), (5, .int .i64 i)], [], []⟩ = if a.drop i = b.drop i then some (.x 0, ⟨[], [], []⟩) else some (.r, ⟨[(4, .bool false)], [], []⟩) := by
  intro n
  induction n with
  | zero =>
    intro i h0 h1
    have hi : i = a.length := by omega
    subst hi
    rw [run_loop]
    have e : List.drop a.length b = [] := by rw [hab, List.drop_length]
    simp only [r50_0, r50_1, r50_2, r50_3, r50_4, r50_5, r50_6, r50_7, r50_9, F50, q50_8, q50, go_sem, Int.reduceToNat, Int.reduceLE, Int.reduceLT, Int.reduceEq, Int.reduceNe, Int.reduceNeg, Int.reduceAdd, Int.reduceSub, Int.reduceMul, Nat.reducePow, Nat.reduceDiv, Nat.reduceMod, Nat.reduceAdd, Nat.reduceSub, Nat.reduceMul, Nat.reduceLT, Nat.reduceLeDiff, Nat.reduceEqDiff, Nat.reduceBEq, reduceCtorEq, reduceIte, List.drop_length, e]
  | succ n ih =>
    intro i h0 h1
    have hi : i < a.length := by omega
    have hi2 : i < b.length := by omega
    rw [run_loop, drop_cons0 a i hi, drop_cons0 b i hi2]
    have e3 : IntKind.i64.wrap ((i : Int) + 1) = ((i + 1 : Nat) : Int) := by rw [w64 (by omega) (by omega)]; omega
    simp only [r50_0, r50_1, r50_2, r50_3, r50_4, r50_5, r50_6, r50_7, r50_9, F50, q50_8, q50, go_sem, Int.reduceToNat, Int.reduceLE, Int.reduceLT, Int.reduceEq, Int.reduceNe, Int.reduceNeg, Int.reduceAdd, Int.reduceSub, Int.reduceMul, Nat.reducePow, Nat.reduceDiv, Nat.reduceMod, Nat.reduceAdd, Nat.reduceSub, Nat.reduceMul, Nat.reduceLT, Nat.reduceLeDiff, Nat.reduceEqDiff, Nat.reduceBEq, reduceCtorEq, reduceIte, hi, hi2, e3, ih (i + 1) (by omega) (by omega), List.cons.injEq]
    by_cases hc : a.getD i 0 = b.getD i 0 <;> simp only [hc, go_sem, Int.reduceToNat, Int.reduceLE, Int.reduceLT, Int.reduceEq, Int.reduceNe, Int.reduceNeg, Int.reduceAdd, Int.reduceSub, Int.reduceMul, Nat.reducePow, Nat.reduceDiv, Nat.reduceMod, Nat.reduceAdd, Nat.reduceSub, Nat.reduceMul, Nat.reduceLT, Nat.reduceLeDiff, Nat.reduceEqDiff, Nat.reduceBEq, reduceCtorEq, reduceIte]
theorem f50 (a b : List UInt8) (hl : a.length ≤ 140737488355328) : call T 50 [.byt a .no, .byt b .no] [] 0 = some ⟨.bool (decide (a = b)), [], []⟩ := by
  rw [call_code T_50]
  by_cases hab : a.length = b.length
  · have h := l50 a b hl hab _ 0 rfl (by omega)
    simp only [Int.natCast_zero, List.drop_zero] at h
    simp only [r50_0, r50_1, r50_2, r50_3, r50_4, r50_5, r50_6, r50_7, r50_9, F50, q50_8, q50, go_sem, Int.reduceToNat, Int.reduceLE, Int.reduceLT, Int.reduceEq, Int.reduceNe, Int.reduceNeg, Int.reduceAdd, Int.reduceSub, Int.reduceMul, Nat.reducePow, Nat.reduceDiv, Nat.reduceMod, Nat.reduceAdd, Nat.reduceSub, Nat.reduceMul, Nat.reduceLT, Nat.reduceLeDiff, Nat.reduceEqDiff, Nat.reduceBEq, reduceCtorEq, reduceIte, hab, h]
    by_cases hc : a = b <;> simp only [hc, r50_0, r50_1, r50_2, r50_3, r50_4, r50_5, r50_6, r50_7, r50_9, F50, q50_8, q50, go_sem, Int.reduceToNat, Int.reduceLE, Int.reduceLT, Int.reduceEq, Int.reduceNe, Int.reduceNeg, Int.reduceAdd, Int.reduceSub, Int.reduceMul, Nat.reducePow, Nat.reduceDiv, Nat.reduceMod, Nat.reduceAdd, Nat.reduceSub, Nat.reduceMul, Nat.reduceLT, Nat.reduceLeDiff, Nat.reduceEqDiff, Nat.reduceBEq, reduceCtorEq, reduceIte]
  · have hc : a ≠ b := fun e => hab (by rw [e])
    simp only [r50_0, r50_1, r50_2, r50_3, r50_4, r50_5, r50_6, r50_7, r50_9, F50, q50_8, q50, go_sem, Int.reduceToNat, Int.reduceLE, Int.reduceLT, Int.reduceEq, Int.reduceNe, Int.reduceNeg, Int.reduceAdd, Int.reduceSub, Int.reduceMul, Nat.reducePow, Nat.reduceDiv, Nat.reduceMod, Nat.reduceAdd, Nat.reduceSub, Nat.reduceMul, Nat.reduceLT, Nat.reduceLeDiff, Nat.reduceEqDiff, Nat.reduceBEq, reduceCtorEq, reduceIte, hab, hc]
theorem getD_bytS (l : List (List UInt8)) (i : Nat) (h : i < l.length) : (l.map bytS).getD i [] = [.byt (l.getD i []) .no] := getD_map bytS l i h
theorem drop_consG (l : List (List UInt8)) (i : Nat) (h : i < l.length) : l.drop i = l.getD i [] :: l.drop (i + 1) := drop_cons l i h
/-- Lists of byte strings that memory can hold. -/
def okG (g : List (List UInt8)) : Prop := g.length ≤ 1000000000 ∧ ∀ b ∈ g, b.length ≤ 140737488355328
theorem okG.get {g : List (List UInt8)} (h : okG g) (i : Nat) : (g.getD i []).length ≤ 140737488355328 := by
  rw [List.getD_eq_getElem?_getD]
  cases hi : g[i]? with
  | none => simp
  | some b => exact h.2 b (List.mem_of_getElem? hi)
theorem l34 (a b : List (List UInt8)) (ha : okG a) (hab : a.length = b.length) : ∀ (n i : Nat), a.length - i = n → i ≤ a.length →
    run T (.loop r34_8) ⟨[(0, .lst 1 (a.map bytS) .no), (1, .lst 1 (b.map bytS) .no), (5, .int .i64 i)], [], []⟩ = if a.drop i = b.drop i then some (.x 0, ⟨[], [], []⟩) else some (.r, ⟨[(4, .bool false)], [], []⟩) := by
  intro n
  induction n with
  | zero =>
    intro i h0 h1
    have hi : i = a.length := by omega
    subst hi
    rw [run_loop]
    have e : List.drop a.length b = [] := by rw [hab, List.drop_length]
    simp only [r34_0, r34_1, r34_2, r34_3, r34_4, r34_5, r34_6, r34_7, r34_9, F34, q34_8, q34, go_sem, Int.reduceToNat, Int.reduceLE, Int.reduceLT, Int.reduceEq, Int.reduceNe, Int.reduceNeg, Int.reduceAdd, Int.reduceSub, Int.reduceMul, Nat.reducePow, Nat.reduceDiv, Nat.reduceMod, Nat.reduceAdd, Nat.reduceSub, Nat.reduceMul, Nat.reduceLT, Nat.reduceLeDiff, Nat.reduceEqDiff, Nat.reduceBEq, reduceCtorEq, reduceIte, List.drop_length, e]
  | succ n ih =>
    intro i h0 h1
    have hi : i < a.length := by omega
    have hi2 : i < b.length := by omega
    rw [run_loop, drop_consG a i hi, drop_consG b i hi2]
    have e3 := wsucc i (by have := ha.1; omega)
    simp only [r34_0, r34_1, r34_2, r34_3, r34_4, r34_5, r34_6, r34_7, r34_9, F34, q34_8, q34, go_sem, Int.reduceToNat, Int.reduceLE, Int.reduceLT, Int.reduceEq, Int.reduceNe, Int.reduceNeg, Int.reduceAdd, Int.reduceSub, Int.reduceMul, Nat.reducePow, Nat.reduceDiv, Nat.reduceMod, Nat.reduceAdd, Nat.reduceSub, Nat.reduceMul, Nat.reduceLT, Nat.reduceLeDiff, Nat.reduceEqDiff, Nat.reduceBEq, reduceCtorEq, reduceIte, hi, hi2, e3, ih (i + 1) (by omega) (by omega), List.cons.injEq, getD_bytS a i hi, getD_bytS b i hi2, f50 _ _ (ha.get i), S_50]
    by_cases hc : a.getD i [] = b.getD i [] <;> simp only [hc, go_sem, Int.reduceToNat, Int.reduceLE, Int.reduceLT, Int.reduceEq, Int.reduceNe, Int.reduceNeg, Int.reduceAdd, Int.reduceSub, Int.reduceMul, Nat.reducePow, Nat.reduceDiv, Nat.reduceMod, Nat.reduceAdd, Nat.reduceSub, Nat.reduceMul, Nat.reduceLT, Nat.reduceLeDiff, Nat.reduceEqDiff, Nat.reduceBEq, reduceCtorEq, reduceIte]
theorem f34 (a b : List (List UInt8)) (ha : okG a) : call T 34 [.lst 1 (a.map bytS) .no, .lst 1 (b.map bytS) .no] [] 0 = some ⟨.bool (decide (a = b)), [], []⟩ := by
  rw [call_code T_34]
  by_cases hab : a.length = b.length
  · have h := l34 a b ha hab _ 0 rfl (by omega)
    simp only [Int.natCast_zero, List.drop_zero] at h
    simp only [r34_0, r34_1, r34_2, r34_3, r34_4, r34_5, r34_6, r34_7, r34_9, F34, q34_8, q34, go_sem, Int.reduceToNat, Int.reduceLE, Int.reduceLT, Int.reduceEq, Int.reduceNe, Int.reduceNeg, Int.reduceAdd, Int.reduceSub, Int.reduceMul, Nat.reducePow, Nat.reduceDiv, Nat.reduceMod, Nat.reduceAdd, Nat.reduceSub, Nat.reduceMul, Nat.reduceLT, Nat.reduceLeDiff, Nat.reduceEqDiff, Nat.reduceBEq, reduceCtorEq, reduceIte, hab, h]
    by_cases hc : a = b <;> simp only [hc, r34_0, r34_1, r34_2, r34_3, r34_4, r34_5, r34_6, r34_7, r34_9, F34, q34_8, q34, go_sem, Int.reduceToNat, Int.reduceLE, Int.reduceLT, Int.reduceEq, Int.reduceNe, Int.reduceNeg, Int.reduceAdd, Int.reduceSub, Int.reduceMul, Nat.reducePow, Nat.reduceDiv, Nat.reduceMod, Nat.reduceAdd, Nat.reduceSub, Nat.reduceMul, Nat.reduceLT, Nat.reduceLeDiff, Nat.reduceEqDiff, Nat.reduceBEq, reduceCtorEq, reduceIte]
  · have hc : a ≠ b := fun e => hab (by rw [e])
    simp only [r34_0, r34_1, r34_2, r34_3, r34_4, r34_5, r34_6, r34_7, r34_9, F34, q34_8, q34, go_sem, Int.reduceToNat, Int.reduceLE, Int.reduceLT, Int.reduceEq, Int.reduceNe, Int.reduceNeg, Int.reduceAdd, Int.reduceSub, Int.reduceMul, Nat.reducePow, Nat.reduceDiv, Nat.reduceMod, Nat.reduceAdd, Nat.reduceSub, Nat.reduceMul, Nat.reduceLT, Nat.reduceLeDiff, Nat.reduceEqDiff, Nat.reduceBEq, reduceCtorEq, reduceIte, hab, hc]
def modI (n m : Int) : Int := if m < 1 then 0 else if n.tmod m < 0 then n.tmod m + m else n.tmod m
theorem f10 (a b : Int) (ha : -9223372036854775808 ≤ a) (ha2 : a ≤ 9223372036854775807) (hb : b ≤ 9223372036854775807) : call T 10 [.int .i64 a, .int .i64 b] [] 0 = some ⟨.int .i64 (modI a b), [], []⟩ := by
  rw [call_code T_10]
  by_cases h : b < 1
  · simp only [r10_0, r10_1, r10_2, r10_3, r10_4, r10_5, r10_6, F10, q10, go_sem, Int.reduceToNat, Int.reduceLE, Int.reduceLT, Int.reduceEq, Int.reduceNe, Int.reduceNeg, Int.reduceAdd, Int.reduceSub, Int.reduceMul, Nat.reducePow, Nat.reduceDiv, Nat.reduceMod, Nat.reduceAdd, Nat.reduceSub, Nat.reduceMul, Nat.reduceLT, Nat.reduceLeDiff, Nat.reduceEqDiff, Nat.reduceBEq, reduceCtorEq, reduceIte, h, modI]
  · have h0 : ¬ b = 0 := by omega
    simp only [r10_0, r10_1, r10_2, r10_3, r10_4, r10_5, r10_6, F10, q10, go_sem, Int.reduceToNat, Int.reduceLE, Int.reduceLT, Int.reduceEq, Int.reduceNe, Int.reduceNeg, Int.reduceAdd, Int.reduceSub, Int.reduceMul, Nat.reducePow, Nat.reduceDiv, Nat.reduceMod, Nat.reduceAdd, Nat.reduceSub, Nat.reduceMul, Nat.reduceLT, Nat.reduceLeDiff, Nat.reduceEqDiff, Nat.reduceBEq, reduceCtorEq, reduceIte, h, h0, modI]
    by_cases h2 : a.tmod b < 0
    · have h3 : -b < a.tmod b := by
        have := Int.lt_tmod_of_pos a (b := b) (by omega); omega
      have h4 : IntKind.i64.wrap (a.tmod b + b) = a.tmod b + b := w64 (by omega) (by omega)
      simp only [h2, r10_0, r10_1, r10_2, r10_3, r10_4, r10_5, r10_6, F10, q10, go_sem, Int.reduceToNat, Int.reduceLE, Int.reduceLT, Int.reduceEq, Int.reduceNe, Int.reduceNeg, Int.reduceAdd, Int.reduceSub, Int.reduceMul, Nat.reducePow, Nat.reduceDiv, Nat.reduceMod, Nat.reduceAdd, Nat.reduceSub, Nat.reduceMul, Nat.reduceLT, Nat.reduceLeDiff, Nat.reduceEqDiff, Nat.reduceBEq, reduceCtorEq, reduceIte, h4]
    · simp only [h2, r10_0, r10_1, r10_2, r10_3, r10_4, r10_5, r10_6, F10, q10, go_sem, Int.reduceToNat, Int.reduceLE, Int.reduceLT, Int.reduceEq, Int.reduceNe, Int.reduceNeg, Int.reduceAdd, Int.reduceSub, Int.reduceMul, Nat.reducePow, Nat.reduceDiv, Nat.reduceMod, Nat.reduceAdd, Nat.reduceSub, Nat.reduceMul, Nat.reduceLT, Nat.reduceLeDiff, Nat.reduceEqDiff, Nat.reduceBEq, reduceCtorEq, reduceIte]
def codesO (B : List UInt8) (at' : Nat) : SObj := .rc [.byt B .no, .int .i64 at']
theorem f12 (a : List UInt8) (n : Nat) : call T 12 [.byt a .no, .int .i64 n] [] 0 = some ⟨.ptr 100 0, [(100, codesO (a.take n) 0)], []⟩ := by
  rw [call_code T_12]
  by_cases h : n < a.length
  · have h2 : n ≤ a.length := by omega
    simp only [r12_0, r12_1, r12_2, r12_3, F12, q12, go_sem, Int.reduceToNat, Int.reduceLE, Int.reduceLT, Int.reduceEq, Int.reduceNe, Int.reduceNeg, Int.reduceAdd, Int.reduceSub, Int.reduceMul, Nat.reducePow, Nat.reduceDiv, Nat.reduceMod, Nat.reduceAdd, Nat.reduceSub, Nat.reduceMul, Nat.reduceLT, Nat.reduceLeDiff, Nat.reduceEqDiff, Nat.reduceBEq, reduceCtorEq, reduceIte, h, h2, codesO]
    rfl
  · simp only [r12_0, r12_1, r12_2, r12_3, F12, q12, go_sem, Int.reduceToNat, Int.reduceLE, Int.reduceLT, Int.reduceEq, Int.reduceNe, Int.reduceNeg, Int.reduceAdd, Int.reduceSub, Int.reduceMul, Nat.reducePow, Nat.reduceDiv, Nat.reduceMod, Nat.reduceAdd, Nat.reduceSub, Nat.reduceMul, Nat.reduceLT, Nat.reduceLeDiff, Nat.reduceEqDiff, Nat.reduceBEq, reduceCtorEq, reduceIte, h, codesO, List.take_of_length_le (Nat.le_of_not_lt h)]
    rfl
theorem f22 (a : List UInt8) (b : Nat) : call T 22 [.ptr 0 0] [codesO a b] 0 = some ⟨.bool (decide (b < a.length)), [(0, codesO a b)], []⟩ := by
  rw [call_code T_22]
  simp only [r22_0, r22_1, F22, q22, go_sem, Int.reduceToNat, Int.reduceLE, Int.reduceLT, Int.reduceEq, Int.reduceNe, Int.reduceNeg, Int.reduceAdd, Int.reduceSub, Int.reduceMul, Nat.reducePow, Nat.reduceDiv, Nat.reduceMod, Nat.reduceAdd, Nat.reduceSub, Nat.reduceMul, Nat.reduceLT, Nat.reduceLeDiff, Nat.reduceEqDiff, Nat.reduceBEq, reduceCtorEq, reduceIte, codesO]
def nextV (a : List UInt8) (b n : Nat) : Nat := if b < a.length then (a.getD b 0).toNat % n else 0
def nextA (a : List UInt8) (b : Nat) : Nat := if b < a.length then b + 1 else b
theorem f23 (a : List UInt8) (b n : Nat) (hn : 0 < n) (hl : a.length ≤ 1000000000000) : call T 23 [.ptr 0 0, .int .i64 n] [codesO a b] 0 = some ⟨.int .i64 (nextV a b n), [(0, codesO a (nextA a b))], []⟩ := by
  rw [call_code T_23]
  by_cases h : b < a.length
  · have h1 : ¬ a.length ≤ b := by omega
    have e1 : IntKind.i64.wrap ((b : Int) + 1) = ((b + 1 : Nat) : Int) := by rw [w64 (by omega) (by omega)]; omega
    have e2 : IntKind.i64.wrap (((b + 1 : Nat) : Int) - 1) = (b : Int) := by rw [w64 (by omega) (by omega)]; omega
    have e3 : ¬ (n : Int) = 0 := by omega
    simp only [r23_0, r23_1, r23_2, r23_3, r23_4, F23, q23, go_sem, Int.reduceToNat, Int.reduceLE, Int.reduceLT, Int.reduceEq, Int.reduceNe, Int.reduceNeg, Int.reduceAdd, Int.reduceSub, Int.reduceMul, Nat.reducePow, Nat.reduceDiv, Nat.reduceMod, Nat.reduceAdd, Nat.reduceSub, Nat.reduceMul, Nat.reduceLT, Nat.reduceLeDiff, Nat.reduceEqDiff, Nat.reduceBEq, reduceCtorEq, reduceIte, codesO, h, h1, e1, e2, e3, nextV, nextA, ← Int.ofNat_tmod]
  · have h1 : a.length ≤ b := by omega
    simp only [r23_0, r23_1, r23_2, r23_3, r23_4, F23, q23, go_sem, Int.reduceToNat, Int.reduceLE, Int.reduceLT, Int.reduceEq, Int.reduceNe, Int.reduceNeg, Int.reduceAdd, Int.reduceSub, Int.reduceMul, Nat.reducePow, Nat.reduceDiv, Nat.reduceMod, Nat.reduceAdd, Nat.reduceSub, Nat.reduceMul, Nat.reduceLT, Nat.reduceLeDiff, Nat.reduceEqDiff, Nat.reduceBEq, reduceCtorEq, reduceIte, codesO, h, h1, nextV, nextA, Int.natCast_zero]
def seedB (a : List UInt8) : List UInt8 := a.take 32 ++ List.replicate (32 - a.length) 0
theorem f29 (a : List UInt8) : call T 29 [.byt a .no] [] 0 = some ⟨.byt (seedB a) .no, [], []⟩ := by
  rw [call_code T_29]
  have h : 32 ≤ (List.take 32 a).length + (List.drop (List.take 32 a).length (List.replicate 32 (0 : UInt8))).length := by simp; omega
  simp only [r29_0, r29_1, r29_2, r29_3, F29, q29, go_sem, Int.reduceToNat, Int.reduceLE, Int.reduceLT, Int.reduceEq, Int.reduceNe, Int.reduceNeg, Int.reduceAdd, Int.reduceSub, Int.reduceMul, Nat.reducePow, Nat.reduceDiv, Nat.reduceMod, Nat.reduceAdd, Nat.reduceSub, Nat.reduceMul, Nat.reduceLT, Nat.reduceLeDiff, Nat.reduceEqDiff, Nat.reduceBEq, reduceCtorEq, reduceIte, h]
  have e : List.take 32 (List.take 32 a ++ List.drop (List.take 32 a).length (List.replicate 32 0)) = seedB a := by
    rw [List.take_of_length_le (by simp; omega), seedB, List.drop_replicate]
    congr 2
    simp; omega
  rw [e]
end Go.Proofs.Ytghggnfomlibjaa
