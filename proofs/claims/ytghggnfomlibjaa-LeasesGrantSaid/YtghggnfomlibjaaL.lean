/-
  The laws of grants, of holds, of sweeps.
-/
import Derived.Test.YtghggnfomlibjaaS
set_option maxRecDepth 100000
set_option linter.unusedSimpArgs false
set_option linter.unusedVariables false
namespace Go.Proofs.Ytghggnfomlibjaa
open Go.Sy
attribute [local go_sem] List.mem_cons List.not_mem_nil List.map_append List.append_assoc d_mov d_build d_lit d_litB d_load d_nchk d_bin d_beq d_eqS d_un d_toInt d_toStr d_s2b d_b2s d_mkfn d_slcS d_slcL d_slcA d_faddr d_fld d_iaddrL d_iaddrA d_idxA d_idxS d_ext d_len d_lenC d_cap d_mini d_maxi d_pick d_new d_box d_store apE d_app d_mk d_mkB d_call rd_nil rd_none rd_some gdD_b nd_some nd_none app_val app_new app_wr foot_val foot_new foot_tok foot_wr cpS_some mkS_some mkBS_some valE_some valE_none Foot.quiet noFoot SV.names SObj.names namesO Tok.ids SOp.args storeC List.length_map List.length_append List.length_replicate Int.natCast_nonneg Int.ofNat_lt Int.ofNat_le Int.ofNat_inj run_skip run_ret run_exit run_ops run_drw run_flt w_mov w_build w_lit w_litB w_load w_nchk w_bin w_beq w_eqS w_un w_toInt w_toStr w_s2b w_b2s w_mkfn w_slcS w_slcL w_slcA w_faddr w_fld w_iaddrL w_iaddrA w_idxA w_idxS w_ext w_len w_lenC w_cap w_mini w_maxi w_pick qv_n qv_s qg_b s_some stG_b fl_nil fl_q fl_n fq_s fn_s fg_s gdP_pos fk_nil fk_cons run_seq run_cond run_block run_pre run_post gd_pos putS_some putS_none put_some put_none get_mk look_mk ev_t ev_c ev_f kill_nil kill_cons o_mov o_build o_lit o_litB o_load o_nchk o_bin o_beq o_eqS o_un o_toInt o_toStr o_s2b o_b2s o_mkfn o_slcS o_slcL o_slcA o_faddr o_fld o_iaddrL o_iaddrA o_idxA o_idxS o_ext o_len o_lenC o_cap o_mini o_maxi o_pick o_isnil o_new o_box o_mk o_mkB o_store o_app o_cpy o_call addN_eq addS_some mkE mkBE stC stS_some apS apB apL appT_eq cpC cp2 cpB cpL s_none p_cons ops_nil ops_op ops_grp ops_dir nx_some nx_none pl_nil np_some np_none un_nil un_cons grp_b nx_ite ite_mk ite_tm ite_nil ite_same ite_sint ite_sbool ite_su8 iteV_bool iteV_int iteV_u8 iteV_true iteV_false nrm_some nrm_none nrm_ite sq_n sq_x sq_r sq_none sq_ite cnd_b blk_n blk_r blk_x blk_none blk_ite lp_n lp_x lp_r lp_none lp_ite prD_some psD_n psD_x psD_r psD_none psD_ite dirs_nil dirs_cons dirN_some fin_n fin_r fin_ite nchkC beqC eqsC toStrC s2bC b2sC slcSC2 slcSC slcAC faddrC fldC iaddrLC iaddrAC2 iaddrAC idxAC idxSC extC lenC capC miniC maxiC buildC litC litBC pickC isnilC getT putT delT getO putO delO putK purgeT evL CSt.purge ibinC u8binC sbinC isShift binC loadC optC slcC bytesC rowsC psC Tok.readyC SObj.wf SV.bare SV.bareL tokV tokL tokC tokOb tokObs somes reach looks ixOf obsIds nodupB subB renObL putsO putsK dropK renKs afterC slIds slId_int slId_bool slId_u8 slId_str slId_byt slId_lst slId_nilp slId_undef slId_pp slId_ptr slId_ap slId_agg slId_tup slId_fn slId_psl callV callC_eq callK_t callK_f fastC_s fast2_t fast2_f fast3_t bare_mk small_mk slowC_p slow0_p slow1_s slow2_p slow3_t slow4_s slow5_t fin0_s finP_p fin1_t fin1_f fin2_p fin3_s fin4_p fin5_t oneSV_0 oneSV_1 oneSV_2 callE_s callE2_t callEK_t callEK_f callOW_t callO_c callO1_s callO2_t callO3_s callO4_t callEV_f iteV_dl iteV_dr iteV_tl iteV_tr iteV_nl iteV_nr bif_and bif_or pubAll CSt.publish pubO pubT obPub SV.pub SV.pubL pubSl gcC dirC tokD resC upto zipIx newIx tks initT iniC initC mkLoad cmpSV unSV toIntSV lenSV SV.num slcTok fillSV toB rows eqCell eqCells setRow setCells Tok.eat SV.one SV.data SV.isData SV.cells SV.isDef SV.purge SV.purgeL SObj.purge purgeO dropT Tok.purge SV.ren SV.renL SObj.ren Tok.ren SV.ids SV.idsL SV.toks SV.toksL SObj.ids SObj.toks renO renT inR renOs dropOs id_eq List.length_cons List.length_nil List.cons_append List.nil_append List.append_nil Nat.zero_add Nat.add_zero beq_self_eq_true List.getD_cons_zero List.getD_cons_succ List.getD_nil List.take_succ_cons List.take_zero List.take_nil List.drop_zero List.drop_succ_cons List.drop_nil List.map_cons List.map_nil List.flatten_cons List.flatten_nil List.contains_nil List.contains_cons List.isEmpty_nil List.isEmpty_cons List.all_cons List.all_nil List.set_cons_zero List.set_cons_succ Option.getD_some Option.getD_none Option.map_some Option.map_none Option.toList_some Option.toList_none Option.bind_some Option.isNone_none Option.isNone_some Option.isSome_none Option.isSome_some Bool.or_false Bool.true_or Bool.or_true Bool.false_or Bool.and_self Bool.and_true Bool.true_and Bool.and_false Bool.false_and Bool.not_true Bool.not_false Bool.false_eq_true Bool.true_eq_false Bool.not_eq_true Bool.not_eq_false decide_eq_true_eq decide_eq_false_iff_not and_true true_and and_self or_false false_or or_true true_or not_true_eq_false not_false_eq_true ne_eq Int.toNat_natCast true_implies false_implies implies_true decide_true decide_false Nat.lt_irrefl Nat.not_lt_zero Nat.le_refl Nat.zero_le eq_self and_false false_and

theorem modI_range (a b : Int) (hb : 1 ≤ b) : 0 ≤ modI a b ∧ modI a b < b := by
  unfold modI
  rw [if_neg (by omega)]
  have h1 := Int.lt_tmod_of_pos a (b := b) (by omega)
  have h2 := Int.tmod_lt_of_pos a (b := b) (by omega)
  split <;> omega
theorem grant_wf' (l : Ls) (hl : WF l) (m now : Int) (g : List (List UInt8)) (hg : okG g) : WF (grantR l m now g).1 := by
  by_cases h : (grantR l m now g).2 = 0
  · exact grant_wf l hl m now g hg h
  · unfold grantR at h ⊢
    split
    · exact WF.nil
    · split
      · exact WF.nil
      · split
        · exact WF.nil
        · rename_i h1 h2 h3
          rw [if_neg h1, if_neg h2, if_neg h3] at h
          exact absurd rfl h
theorem rel_wf' (l : Ls) (hl : WF l) (m : Int) : WF (relR l m).1 := by
  by_cases h : (relR l m).2 = 0
  · exact rel_wf l hl m h
  · unfold relR at h ⊢
    split
    · exact WF.nil
    · split
      · exact WF.nil
      · rename_i h1 h2
        rw [if_neg h1, if_neg h2] at h
        exact absurd rfl h
theorem lsv (l : Ls) : l.sv = .agg [.lst 3 (l.ls.map Lease.sv) .no, .lst 3 (l.hs.map Hold.sv) .no] := rfl
theorem f3 (c m : List UInt8) (k n : Int) (hk : IntKind.i64.has k) (hn : IntKind.i64.has n) (any : Bool) : call T 3 [.byt c .no, .byt m .no, .int .i64 k, .int .i64 n, .bool any] [] 0 = some ⟨.bool true, [], []⟩ := by
  obtain ⟨l, now, hl, h0, h1, h9⟩ := f9 c
  have hl1 := hl.len
  have hl2 := hl.len2
  have hk' : -9223372036854775808 ≤ k ∧ k ≤ 9223372036854775807 := hk
  have hn' : -9223372036854775808 ≤ n ∧ n ≤ 9223372036854775807 := hn
  have g1 := f12 m 10
  have c10 : ((10 : Nat) : Int) = 10 := rfl
  rw [c10] at g1
  have hB : (m.take 10).length ≤ 10 := by simp; omega
  have g2 := f11 (m.take 10) (by omega) 0
  have hg := grd_ok (m.take 10) 0
  have r2 := modI_range n 30 (by omega)
  have g4 := f10 k 6 hk'.1 hk'.2 (by omega)
  have g5 := f10 n 30 hn'.1 hn'.2 (by omega)
  have e1 : IntKind.i64.wrap (now + modI n 30) = now + modI n 30 := w64 (by omega) (by omega)
  have main : ∀ m' n' : Int, (call T 13 [l.sv, .int .i64 m', .int .i64 n', gsSV (grd (m.take 10) 0)] [] 0 = some ⟨errV (grantR l m' n' (grd (m.take 10) 0)).1 (grantR l m' n' (grd (m.take 10) 0)).2, [], []⟩) ∧
      (call T 14 [l.sv, .int .i64 m', .int .i64 n', gsSV (grd (m.take 10) 0)] [] 0 = some ⟨errV (grantR l m' n' (grd (m.take 10) 0)).1 (grantR l m' n' (grd (m.take 10) 0)).2, [], []⟩) ∧
      (call T 15 [(grantR l m' n' (grd (m.take 10) 0)).1.sv, (grantR l m' n' (grd (m.take 10) 0)).1.sv] [] 0 = some ⟨.bool true, [], []⟩) := by
    intro m' n'
    refine ⟨?_, f14 l m' n' _ (by omega) (by omega), ?_⟩
    · rw [← grant_eq l hl]; exact f13 l hl m' n' _
    · have hw := grant_wf' l hl m' n' _ hg
      have hw2 := hw.len2
      have := f15 _ (grantR l m' n' (grd (m.take 10) 0)).1 hw.ok (by omega)
      simpa using this
  rw [call_code T_3]
  simp only [codesO, Int.natCast_zero, errV, gsSV, lsv] at g1 g2 main h9
  cases any with
  | true =>
    obtain ⟨m1, m2, m3⟩ := main k n
    simp only [r3_0, r3_1, r3_2, r3_3, r3_4, r3_5, r3_6, r3_7, r3_8, r3_9, F3, q3, go_sem, Int.reduceToNat, Int.reduceLE, Int.reduceLT, Int.reduceEq, Int.reduceNe, Int.reduceNeg, Int.reduceAdd, Int.reduceSub, Int.reduceMul, Nat.reducePow, Nat.reduceDiv, Nat.reduceMod, Nat.reduceAdd, Nat.reduceSub, Nat.reduceMul, Nat.reduceLT, Nat.reduceLeDiff, Nat.reduceEqDiff, Nat.reduceBEq, reduceCtorEq, reduceIte, f8, S_8, h9, S_9, g1, S_12, g2, S_11, m1, m2, m3, S_13, S_14, S_15]
  | false =>
    obtain ⟨m1, m2, m3⟩ := main (modI k 6) (now + modI n 30)
    simp only [r3_0, r3_1, r3_2, r3_3, r3_4, r3_5, r3_6, r3_7, r3_8, r3_9, F3, q3, go_sem, Int.reduceToNat, Int.reduceLE, Int.reduceLT, Int.reduceEq, Int.reduceNe, Int.reduceNeg, Int.reduceAdd, Int.reduceSub, Int.reduceMul, Nat.reducePow, Nat.reduceDiv, Nat.reduceMod, Nat.reduceAdd, Nat.reduceSub, Nat.reduceMul, Nat.reduceLT, Nat.reduceLeDiff, Nat.reduceEqDiff, Nat.reduceBEq, reduceCtorEq, reduceIte, f8, S_8, h9, S_9, g1, S_12, g2, S_11, g4, g5, S_10, e1, m1, m2, m3, S_13, S_14, S_15]
theorem f4 (c : List UInt8) (k n e : Int) (hk : IntKind.i64.has k) (any : Bool) : call T 4 [.byt c .no, .int .i64 k, .int .i64 n, .int .i64 e, .bool any] [] 0 = some ⟨.bool true, [], []⟩ := by
  obtain ⟨l, now, hl, h0, h1, h9⟩ := f9 c
  have hl1 := hl.len
  have hl2 := hl.len2
  have hk' : -9223372036854775808 ≤ k ∧ k ≤ 9223372036854775807 := hk
  have g4 := f10 k 6 hk'.1 hk'.2 (by omega)
  have main : ∀ m' : Int, (call T 16 [l.sv, .int .i64 m'] [] 0 = some ⟨errV (relR l m').1 (relR l m').2, [], []⟩) ∧
      (call T 17 [l.sv, .int .i64 m'] [] 0 = some ⟨errV (relR l m').1 (relR l m').2, [], []⟩) ∧
      (call T 15 [(relR l m').1.sv, (relR l m').1.sv] [] 0 = some ⟨.bool true, [], []⟩) ∧
      (call T 18 [l.sv, .int .i64 m', .int .i64 e, .int .i64 n] [] 0 = some ⟨(holdR l m' e n).sv, [], []⟩) ∧
      (call T 19 [l.sv, .int .i64 m', .int .i64 e, .int .i64 n] [] 0 = some ⟨(holdR l m' e n).sv, [], []⟩) ∧
      (call T 15 [(holdR l m' e n).sv, (holdR l m' e n).sv] [] 0 = some ⟨.bool true, [], []⟩) ∧
      (call T 20 [l.sv, .int .i64 m'] [] 0 = some ⟨.bool ((l.hs.map Hold.m).contains m'), [], []⟩) ∧
      (call T 21 [l.sv, .int .i64 m'] [] 0 = some ⟨.bool ((l.hs.map Hold.m).contains m'), [], []⟩) := by
    intro m'
    refine ⟨?_, f17 l m' (by omega), ?_, ?_, f19 l m' e n (by omega) (by omega), ?_, ?_, f21 l m' (by omega)⟩
    · rw [← rel_eq l hl]; exact f16 l m' hl.s2 (by omega)
    · have hw := rel_wf' l hl m'
      have hw2 := hw.len2
      have := f15 _ (relR l m').1 hw.ok (by omega)
      simpa using this
    · rw [← hold_eq l hl]; exact f18 l hl m' e n
    · have hw := hold_wf l hl m' e n
      have hw2 := hw.len2
      have := f15 _ (holdR l m' e n) hw.ok (by omega)
      simpa using this
    · rw [← has_contains _ _ hl.s2]; exact f20 l m' hl.s2 (by omega)
  rw [call_code T_4]
  simp only [errV, lsv] at main h9
  cases any with
  | true =>
    obtain ⟨m1, m2, m3, m4, m5, m6, m7, m8⟩ := main k
    simp only [r4_0, r4_1, r4_2, r4_3, r4_4, r4_5, r4_6, r4_7, r4_8, F4, q4, go_sem, Int.reduceToNat, Int.reduceLE, Int.reduceLT, Int.reduceEq, Int.reduceNe, Int.reduceNeg, Int.reduceAdd, Int.reduceSub, Int.reduceMul, Nat.reducePow, Nat.reduceDiv, Nat.reduceMod, Nat.reduceAdd, Nat.reduceSub, Nat.reduceMul, Nat.reduceLT, Nat.reduceLeDiff, Nat.reduceEqDiff, Nat.reduceBEq, reduceCtorEq, reduceIte, f8, S_8, h9, S_9, m1, m2, m3, m4, m5, m6, m7, m8, S_15, S_16, S_17, S_18, S_19, S_20, S_21]
  | false =>
    obtain ⟨m1, m2, m3, m4, m5, m6, m7, m8⟩ := main (modI k 6)
    simp only [r4_0, r4_1, r4_2, r4_3, r4_4, r4_5, r4_6, r4_7, r4_8, F4, q4, go_sem, Int.reduceToNat, Int.reduceLE, Int.reduceLT, Int.reduceEq, Int.reduceNe, Int.reduceNeg, Int.reduceAdd, Int.reduceSub, Int.reduceMul, Nat.reducePow, Nat.reduceDiv, Nat.reduceMod, Nat.reduceAdd, Nat.reduceSub, Nat.reduceMul, Nat.reduceLT, Nat.reduceLeDiff, Nat.reduceEqDiff, Nat.reduceBEq, reduceCtorEq, reduceIte, f8, S_8, h9, S_9, g4, S_10, m1, m2, m3, m4, m5, m6, m7, m8, S_15, S_16, S_17, S_18, S_19, S_20, S_21]
end Go.Proofs.Ytghggnfomlibjaa
