/-
  Grant and Hold of the program; the sanity check; the play.
-/
import Derived.Test.YtghggnfomlibjaaQ
set_option maxRecDepth 100000
set_option linter.unusedSimpArgs false
set_option linter.unusedVariables false
namespace Go.Proofs.Ytghggnfomlibjaa
open Go.Sy
attribute [local go_sem] List.mem_cons List.not_mem_nil List.map_append List.append_assoc d_mov d_build d_lit d_litB d_load d_nchk d_bin d_beq d_eqS d_un d_toInt d_toStr d_s2b d_b2s d_mkfn d_slcS d_slcL d_slcA d_faddr d_fld d_iaddrL d_iaddrA d_idxA d_idxS d_ext d_len d_lenC d_cap d_mini d_maxi d_pick d_new d_box d_store apE d_app d_mk d_mkB d_call rd_nil rd_none rd_some gdD_b nd_some nd_none app_val app_new app_wr foot_val foot_new foot_tok foot_wr cpS_some mkS_some mkBS_some valE_some valE_none Foot.quiet noFoot SV.names SObj.names namesO Tok.ids SOp.args storeC List.length_map List.length_append List.length_replicate Int.natCast_nonneg Int.ofNat_lt Int.ofNat_le Int.ofNat_inj run_skip run_ret run_exit run_ops run_drw run_flt w_mov w_build w_lit w_litB w_load w_nchk w_bin w_beq w_eqS w_un w_toInt w_toStr w_s2b w_b2s w_mkfn w_slcS w_slcL w_slcA w_faddr w_fld w_iaddrL w_iaddrA w_idxA w_idxS w_ext w_len w_lenC w_cap w_mini w_maxi w_pick qv_n qv_s qg_b s_some stG_b fl_nil fl_q fl_n fq_s fn_s fg_s gdP_pos fk_nil fk_cons run_seq run_cond run_block run_pre run_post gd_pos putS_some putS_none put_some put_none get_mk look_mk ev_t ev_c ev_f kill_nil kill_cons o_mov o_build o_lit o_litB o_load o_nchk o_bin o_beq o_eqS o_un o_toInt o_toStr o_s2b o_b2s o_mkfn o_slcS o_slcL o_slcA o_faddr o_fld o_iaddrL o_iaddrA o_idxA o_idxS o_ext o_len o_lenC o_cap o_mini o_maxi o_pick o_isnil o_new o_box o_mk o_mkB o_store o_app o_cpy o_call addN_eq addS_some mkE mkBE stC stS_some apS apB apL appT_eq cpC cp2 cpB cpL s_none p_cons ops_nil ops_op ops_grp ops_dir nx_some nx_none pl_nil np_some np_none un_nil un_cons grp_b nx_ite ite_mk ite_tm ite_nil ite_same ite_sint ite_sbool ite_su8 iteV_bool iteV_int iteV_u8 iteV_true iteV_false nrm_some nrm_none nrm_ite sq_n sq_x sq_r sq_none sq_ite cnd_b blk_n blk_r blk_x blk_none blk_ite lp_n lp_x lp_r lp_none lp_ite prD_some psD_n psD_x psD_r psD_none psD_ite dirs_nil dirs_cons dirN_some fin_n fin_r fin_ite nchkC beqC eqsC toStrC s2bC b2sC slcSC2 slcSC slcAC faddrC fldC iaddrLC iaddrAC2 iaddrAC idxAC idxSC extC lenC capC miniC maxiC buildC litC litBC pickC isnilC getT putT delT getO putO delO putK purgeT evL CSt.purge ibinC u8binC sbinC isShift binC loadC optC slcC bytesC rowsC psC Tok.readyC SObj.wf SV.bare SV.bareL tokV tokL tokC tokOb tokObs somes reach looks ixOf obsIds nodupB subB renObL putsO putsK dropK renKs afterC slIds slId_int slId_bool slId_u8 slId_str slId_byt slId_lst slId_nilp slId_undef slId_pp slId_ptr slId_ap slId_agg slId_tup slId_fn slId_psl callV callC_eq callK_t callK_f fastC_s fast2_t fast2_f fast3_t bare_mk small_mk slowC_p slow0_p slow1_s slow2_p slow3_t slow4_s slow5_t fin0_s finP_p fin1_t fin1_f fin2_p fin3_s fin4_p fin5_t oneSV_0 oneSV_1 oneSV_2 callE_s callE2_t callEK_t callEK_f callOW_t callO_c callO1_s callO2_t callO3_s callO4_t callEV_f iteV_dl iteV_dr iteV_tl iteV_tr iteV_nl iteV_nr bif_and bif_or pubAll CSt.publish pubO pubT obPub SV.pub SV.pubL pubSl gcC dirC tokD resC upto zipIx newIx tks initT iniC initC mkLoad cmpSV unSV toIntSV lenSV SV.num slcTok fillSV toB rows eqCell eqCells setRow setCells Tok.eat SV.one SV.data SV.isData SV.cells SV.isDef SV.purge SV.purgeL SObj.purge purgeO dropT Tok.purge SV.ren SV.renL SObj.ren Tok.ren SV.ids SV.idsL SV.toks SV.toksL SObj.ids SObj.toks renO renT inR renOs dropOs id_eq List.length_cons List.length_nil List.cons_append List.nil_append List.append_nil Nat.zero_add Nat.add_zero beq_self_eq_true List.getD_cons_zero List.getD_cons_succ List.getD_nil List.take_succ_cons List.take_zero List.take_nil List.drop_zero List.drop_succ_cons List.drop_nil List.map_cons List.map_nil List.flatten_cons List.flatten_nil List.contains_nil List.contains_cons List.isEmpty_nil List.isEmpty_cons List.all_cons List.all_nil List.set_cons_zero List.set_cons_succ Option.getD_some Option.getD_none Option.map_some Option.map_none Option.toList_some Option.toList_none Option.bind_some Option.isNone_none Option.isNone_some Option.isSome_none Option.isSome_some Bool.or_false Bool.true_or Bool.or_true Bool.false_or Bool.and_self Bool.and_true Bool.true_and Bool.and_false Bool.false_and Bool.not_true Bool.not_false Bool.false_eq_true Bool.true_eq_false Bool.not_eq_true Bool.not_eq_false decide_eq_true_eq decide_eq_false_iff_not and_true true_and and_self or_false false_or or_true true_or not_true_eq_false not_false_eq_true ne_eq Int.toNat_natCast true_implies false_implies implies_true decide_true decide_false Nat.lt_irrefl Nat.not_lt_zero Nat.le_refl Nat.zero_le eq_self and_false false_and

def rowL (x : Lease) : Vc.Row := ⟨x.m, .int .i64 x.u, .lst 1 (x.g.map bytS) .no, ⟨rfl, rfl⟩, ⟨rfl, rfl⟩⟩
def rowH (x : Hold) : Vc.Row := ⟨x.m, .int .i64 x.r, .int .i64 x.s, ⟨rfl, rfl⟩, ⟨rfl, rfl⟩⟩
theorem rowL_sv (l : List Lease) : (l.map rowL).map Vc.Row.sv = l.map Lease.sv := by rw [List.map_map]; rfl
theorem rowH_sv (l : List Hold) : (l.map rowH).map Vc.Row.sv = l.map Hold.sv := by rw [List.map_map]; rfl
theorem rowL_sorted {l : List Lease} (h : Sorted (l.map Lease.m)) : Vc.Sorted (l.map rowL) := by
  rw [Sorted, List.pairwise_map] at h
  rw [Vc.Sorted, List.pairwise_map]
  exact h
theorem rowH_sorted {l : List Hold} (h : Sorted (l.map Hold.m)) : Vc.Sorted (l.map rowH) := by
  rw [Sorted, List.pairwise_map] at h
  rw [Vc.Sorted, List.pairwise_map]
  exact h
theorem rowL_lb (l : List Lease) (m : Int) : Vc.lb (l.map rowL) m = lb (l.map Lease.m) m := by
  unfold Vc.lb lb
  rw [List.takeWhile_map, List.takeWhile_map, List.length_map, List.length_map]
  rfl
theorem rowH_lb (l : List Hold) (m : Int) : Vc.lb (l.map rowH) m = lb (l.map Hold.m) m := by
  unfold Vc.lb lb
  rw [List.takeWhile_map, List.takeWhile_map, List.length_map, List.length_map]
  rfl
theorem rowL_has (l : List Lease) (m : Int) : Vc.hasM (l.map rowL) m = has (l.map Lease.m) m := by
  unfold Vc.hasM has
  have e : (l.map rowL).map Vc.Row.m = l.map Lease.m := by rw [List.map_map]; rfl
  rw [rowL_lb, e, List.length_map, List.length_map]
theorem rowH_has (l : List Hold) (m : Int) : Vc.hasM (l.map rowH) m = has (l.map Hold.m) m := by
  unfold Vc.hasM has
  have e : (l.map rowH).map Vc.Row.m = l.map Hold.m := by rw [List.map_map]; rfl
  rw [rowH_lb, e, List.length_map, List.length_map]
theorem sv_rows (l : Ls) : Vc.lsSV (l.ls.map rowL) (l.hs.map rowH) = l.sv := by
  simp only [Vc.lsSV, Vc.rowsSV, rowL_sv, rowH_sv, Ls.sv, lsSV, hsSV]
theorem f13 (l : Ls) (hl : WF l) (m now : Int) (g : List (List UInt8)) : call T 13 [l.sv, .int .i64 m, .int .i64 now, gsSV g] [] 0 = some ⟨errV (grantP l m now g).1 (grantP l m now g).2, [], []⟩ := by
  rw [call_prim T_13, ← sv_rows]
  have hl1 := hl.len
  have hl2 := hl.len2
  refine (Vc.p13_eq _ _ (rowL_sorted hl.s1) (rowH_sorted hl.s2) (by rw [List.length_map]; omega) (by rw [List.length_map]; omega) m now (g.map bytS)).trans ?_
  unfold Vc.grantI grantP
  rw [rowH_has]
  by_cases c1 : ¬ (1 ≤ m ∧ m ≤ 4)
  · rw [if_pos c1, if_pos c1]; rfl
  · rw [if_neg c1, if_neg c1]
    by_cases c2 : now < 0 ∨ 1099511627776 < now
    · rw [if_pos c2, if_pos c2]; rfl
    · rw [if_neg c2, if_neg c2]
      by_cases c3 : has (l.hs.map Hold.m) m = true
      · rw [if_pos c3, if_pos c3]; rfl
      · rw [if_neg c3, if_neg c3]
        have e : Vc.grantL (l.ls.map rowL) (Vc.newL m now (g.map bytS)) = (putL Lease.m l.ls ⟨m, now + 64, g⟩).map rowL := by
          unfold Vc.grantL putL
          have en : Vc.newL m now (g.map bytS) = rowL ⟨m, now + 64, g⟩ := rfl
          rw [en]
          have em : (rowL ⟨m, now + 64, g⟩).m = m := rfl
          rw [em, rowL_has, rowL_lb]
          split
          · rw [List.map_set]
          · rw [List.map_append, List.map_append, List.map_take, List.map_drop]; rfl
        rw [e]
        show some _ = some _
        have := sv_rows ⟨putL Lease.m l.ls ⟨m, now + 64, g⟩, l.hs⟩
        simp only at this
        simp only [Vc.pairSV, errV, this]
theorem f18 (l : Ls) (hl : WF l) (m r s : Int) : call T 18 [l.sv, .int .i64 m, .int .i64 r, .int .i64 s] [] 0 = some ⟨(holdP l m r s).sv, [], []⟩ := by
  rw [call_prim T_18, ← sv_rows]
  have hl1 := hl.len
  have hl2 := hl.len2
  refine (Vc.p18_eq _ _ (rowL_sorted hl.s1) (rowH_sorted hl.s2) (by rw [List.length_map]; omega) (by rw [List.length_map]; omega) m r s).trans ?_
  unfold Vc.holdI holdP
  rw [rowH_has, rowH_lb]
  by_cases c3 : has (l.hs.map Hold.m) m = true
  · rw [if_pos c3, if_pos c3, sv_rows]
  · rw [if_neg c3, if_neg c3]
    by_cases c1 : ¬ (1 ≤ m ∧ m ≤ 4)
    · rw [if_pos c1, if_pos c1, sv_rows]
    · rw [if_neg c1, if_neg c1, ← sv_rows]
      have e : Vc.dropL (l.ls.map rowL) m = (dropM l.ls m).map rowL := by
        unfold Vc.dropL dropM
        rw [rowL_has, rowL_lb]
        split
        · rw [List.map_append, List.map_take, List.map_drop]
        · rfl
      rw [e]
      have e2 : List.take (lb (l.hs.map Hold.m) m) (l.hs.map rowH) ++ [Vc.newH m r s] ++ List.drop (lb (l.hs.map Hold.m) m) (l.hs.map rowH) = (l.hs.take (lb (l.hs.map Hold.m) m) ++ [(⟨m, r, s⟩ : Hold)] ++ l.hs.drop (lb (l.hs.map Hold.m) m)).map rowH := by
        rw [List.map_append, List.map_append, List.map_take, List.map_drop]; rfl
      rw [e2]
/-- The sanity check. -/
def la : Ls := ⟨[⟨2, 67, []⟩], []⟩
def ha : Ls := ⟨[], [⟨2, 47, 9⟩]⟩
theorem la_wf : WF la := ⟨List.pairwise_singleton _ _, List.Pairwise.nil, by intro x hx; rw [List.mem_singleton.1 hx]; decide, by simp [la], by intro x hx; rw [List.mem_singleton.1 hx]; exact ⟨by simp, by simp⟩⟩
theorem ha_wf : WF ha := ⟨List.Pairwise.nil, List.pairwise_singleton _ _, by simp [ha], by intro x hx; rw [List.mem_singleton.1 hx]; decide, by simp [ha]⟩
theorem f8 : call T 8 [] [] 0 = some ⟨.bool true, [], []⟩ := by
  have h1 := f13 ⟨[], []⟩ WF.nil 2 3 []
  have h2 := f18 la la_wf 2 47 9
  have h3 := f13 ha ha_wf 2 9 []
  have h4 := f16 ha 2 ha_wf.s2 (by simp [ha])
  have h5 := f24 la 2 66 la_wf.s1 (by simp [la])
  have h6 := f24 la 2 67 la_wf.s1 (by simp [la])
  have h7 := f20 ha 2 ha_wf.s2 (by simp [ha])
  have h8 := f24 ha 2 9 ha_wf.s1 (by simp [ha])
  have h9 := f20 ⟨[], []⟩ 2 WF.nil.s2 (by simp)
  have e1 : grantP ⟨[], []⟩ 2 3 [] = (la, 0) := by decide
  have e2 : holdP la 2 47 9 = ha := by decide
  have e3 : grantP ha 2 9 [] = (⟨[], []⟩, 48) := by decide
  have e4 : relP ha 2 = (⟨[], []⟩, 0) := by decide
  have e5 : admP la.ls 2 66 = true := by decide
  have e6 : admP la.ls 2 67 = false := by decide
  have e7 : has (ha.hs.map Hold.m) 2 = true := by decide
  have e8 : admP ha.ls 2 9 = false := by decide
  have e9 : has (([] : List Hold).map Hold.m) 2 = false := by decide
  rw [e1] at h1
  rw [e2] at h2
  rw [e3] at h3
  rw [e4] at h4
  rw [e5] at h5
  rw [e6] at h6
  rw [e7] at h7
  rw [e8] at h8
  simp only [e9] at h9
  simp only [la, ha, Ls.sv, lsSV, hsSV, errV, gsSV, List.map_nil, List.map_cons, Lease.sv, Hold.sv] at h1 h2 h3 h4 h5 h6 h7 h8 h9
  rw [call_code T_8]
  simp only [r8_0, r8_1, r8_2, r8_3, r8_4, r8_5, F8, q8, go_sem, Int.reduceToNat, Int.reduceLE, Int.reduceLT, Int.reduceEq, Int.reduceNe, Int.reduceNeg, Int.reduceAdd, Int.reduceSub, Int.reduceMul, Nat.reducePow, Nat.reduceDiv, Nat.reduceMod, Nat.reduceAdd, Nat.reduceSub, Nat.reduceMul, Nat.reduceLT, Nat.reduceLeDiff, Nat.reduceEqDiff, Nat.reduceBEq, reduceCtorEq, reduceIte, h1, h2, h3, h4, h5, h6, h7, h8, h9, S_13, S_18, S_16, S_24, S_20]
end Go.Proofs.Ytghggnfomlibjaa
