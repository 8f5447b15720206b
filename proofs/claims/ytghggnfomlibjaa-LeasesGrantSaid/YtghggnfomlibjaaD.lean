/-
  Sweeps; who is admitted; releases.
-/
import Derived.Test.YtghggnfomlibjaaC
set_option maxRecDepth 100000
set_option linter.unusedSimpArgs false
set_option linter.unusedVariables false
namespace Go.Proofs.Ytghggnfomlibjaa
open Go.Sy
attribute [local go_sem] List.mem_cons List.not_mem_nil List.map_append List.append_assoc d_mov d_build d_lit d_litB d_load d_nchk d_bin d_beq d_eqS d_un d_toInt d_toStr d_s2b d_b2s d_mkfn d_slcS d_slcL d_slcA d_faddr d_fld d_iaddrL d_iaddrA d_idxA d_idxS d_ext d_len d_lenC d_cap d_mini d_maxi d_pick d_new d_box d_store apE d_app d_mk d_mkB d_call rd_nil rd_none rd_some gdD_b nd_some nd_none app_val app_new app_wr foot_val foot_new foot_tok foot_wr cpS_some mkS_some mkBS_some valE_some valE_none Foot.quiet noFoot SV.names SObj.names namesO Tok.ids SOp.args storeC List.length_map List.length_append List.length_replicate Int.natCast_nonneg Int.ofNat_lt Int.ofNat_le Int.ofNat_inj run_skip run_ret run_exit run_ops run_drw run_flt w_mov w_build w_lit w_litB w_load w_nchk w_bin w_beq w_eqS w_un w_toInt w_toStr w_s2b w_b2s w_mkfn w_slcS w_slcL w_slcA w_faddr w_fld w_iaddrL w_iaddrA w_idxA w_idxS w_ext w_len w_lenC w_cap w_mini w_maxi w_pick qv_n qv_s qg_b s_some stG_b fl_nil fl_q fl_n fq_s fn_s fg_s gdP_pos fk_nil fk_cons run_seq run_cond run_block run_pre run_post gd_pos putS_some putS_none put_some put_none get_mk look_mk ev_t ev_c ev_f kill_nil kill_cons o_mov o_build o_lit o_litB o_load o_nchk o_bin o_beq o_eqS o_un o_toInt o_toStr o_s2b o_b2s o_mkfn o_slcS o_slcL o_slcA o_faddr o_fld o_iaddrL o_iaddrA o_idxA o_idxS o_ext o_len o_lenC o_cap o_mini o_maxi o_pick o_isnil o_new o_box o_mk o_mkB o_store o_app o_cpy o_call addN_eq addS_some mkE mkBE stC stS_some apS apB apL appT_eq cpC cp2 cpB cpL s_none p_cons ops_nil ops_op ops_grp ops_dir nx_some nx_none pl_nil np_some np_none un_nil un_cons grp_b nx_ite ite_mk ite_tm ite_nil ite_same ite_sint ite_sbool ite_su8 iteV_bool iteV_int iteV_u8 iteV_true iteV_false nrm_some nrm_none nrm_ite sq_n sq_x sq_r sq_none sq_ite cnd_b blk_n blk_r blk_x blk_none blk_ite lp_n lp_x lp_r lp_none lp_ite prD_some psD_n psD_x psD_r psD_none psD_ite dirs_nil dirs_cons dirN_some fin_n fin_r fin_ite nchkC beqC eqsC toStrC s2bC b2sC slcSC2 slcSC slcAC faddrC fldC iaddrLC iaddrAC2 iaddrAC idxAC idxSC extC lenC capC miniC maxiC buildC litC litBC pickC isnilC getT putT delT getO putO delO putK purgeT evL CSt.purge ibinC u8binC sbinC isShift binC loadC optC slcC bytesC rowsC psC Tok.readyC SObj.wf SV.bare SV.bareL tokV tokL tokC tokOb tokObs somes reach looks ixOf obsIds nodupB subB renObL putsO putsK dropK renKs afterC slIds slId_int slId_bool slId_u8 slId_str slId_byt slId_lst slId_nilp slId_undef slId_pp slId_ptr slId_ap slId_agg slId_tup slId_fn slId_psl callV callC_eq callK_t callK_f fastC_s fast2_t fast2_f fast3_t bare_mk small_mk slowC_p slow0_p slow1_s slow2_p slow3_t slow4_s slow5_t fin0_s finP_p fin1_t fin1_f fin2_p fin3_s fin4_p fin5_t oneSV_0 oneSV_1 oneSV_2 callE_s callE2_t callEK_t callEK_f callOW_t callO_c callO1_s callO2_t callO3_s callO4_t callEV_f iteV_dl iteV_dr iteV_tl iteV_tr iteV_nl iteV_nr bif_and bif_or pubAll CSt.publish pubO pubT obPub SV.pub SV.pubL pubSl gcC dirC tokD resC upto zipIx newIx tks initT iniC initC mkLoad cmpSV unSV toIntSV lenSV SV.num slcTok fillSV toB rows eqCell eqCells setRow setCells Tok.eat SV.one SV.data SV.isData SV.cells SV.isDef SV.purge SV.purgeL SObj.purge purgeO dropT Tok.purge SV.ren SV.renL SObj.ren Tok.ren SV.ids SV.idsL SV.toks SV.toksL SObj.ids SObj.toks renO renT inR renOs dropOs id_eq List.length_cons List.length_nil List.cons_append List.nil_append List.append_nil Nat.zero_add Nat.add_zero beq_self_eq_true List.getD_cons_zero List.getD_cons_succ List.getD_nil List.take_succ_cons List.take_zero List.take_nil List.drop_zero List.drop_succ_cons List.drop_nil List.map_cons List.map_nil List.flatten_cons List.flatten_nil List.contains_nil List.contains_cons List.isEmpty_nil List.isEmpty_cons List.all_cons List.all_nil List.set_cons_zero List.set_cons_succ Option.getD_some Option.getD_none Option.map_some Option.map_none Option.toList_some Option.toList_none Option.bind_some Option.isNone_none Option.isNone_some Option.isSome_none Option.isSome_some Bool.or_false Bool.true_or Bool.or_true Bool.false_or Bool.and_self Bool.and_true Bool.true_and Bool.and_false Bool.false_and Bool.not_true Bool.not_false Bool.false_eq_true Bool.true_eq_false Bool.not_eq_true Bool.not_eq_false decide_eq_true_eq decide_eq_false_iff_not and_true true_and and_self or_false false_or or_true true_or not_true_eq_false not_false_eq_true ne_eq Int.toNat_natCast true_implies false_implies implies_true decide_true decide_false Nat.lt_irrefl Nat.not_lt_zero Nat.le_refl Nat.zero_le eq_self and_false false_and

def okL (l : List Lease) : Prop := l.length ≤ 1000000 ∧ ∀ x ∈ l, okG x.g
theorem okL.get {l : List Lease} (h : okL l) {i : Nat} (hi : i < l.length) : okG (l.getD i default).g := by
  rw [List.getD_eq_getElem?_getD, List.getElem?_eq_getElem hi]
  exact h.2 _ (List.getElem_mem hi)
def keepP (now : Int) (fs : List (List UInt8)) (x : Lease) : Bool := decide (now < x.u) && !(x.g.any fun y => !fs.any fun z => decide (z = y))
theorem l26 (l : List Lease) (H : List Hold) (now : Int) (fs : List (List UInt8)) (hl : okL l) (hf : fs.length ≤ 1000000000) : ∀ (n i : Nat) (acc : List Lease), l.length - i = n → i ≤ l.length → acc.length ≤ i →
    run T (.loop r26_9) ⟨[(1, .int .i64 now), (3, .ptr 103 0), (5, .ptr 105 0), (6, .ptr 106 0), (7, .lst 3 (acc.map Lease.sv) (.id 107)), (12, .lst 3 (l.map Lease.sv) .no), (13, .int .i64 l.length), (14, .int .i64 i)],
        [(103, .rc [.lst 3 (l.map Lease.sv) .no, .lst 3 (H.map Hold.sv) .no]), (105, .rc [.lst 1 (fs.map bytS) .no]), (106, .rc [.lst 3 [] .clip, .lst 3 [] .clip])], [107]⟩ =
      some (.x 0, ⟨[(3, .ptr 103 0), (6, .ptr 106 0), (7, .lst 3 ((acc ++ (l.drop i).filter (keepP now fs)).map Lease.sv) (.id 107))],
        [(103, .rc [.lst 3 (l.map Lease.sv) .no, .lst 3 (H.map Hold.sv) .no]), (105, .rc [.lst 1 (fs.map bytS) .no]), (106, .rc [.lst 3 [] .clip, .lst 3 [] .clip])], [107]⟩) := by
  intro n
  induction n with
  | zero =>
    intro i acc h0 h1 ha
    have hi : i = l.length := by omega
    subst hi
    rw [run_loop]
    simp only [r26_0, r26_1, r26_2, r26_3, r26_4, r26_5, r26_6, r26_7, r26_8, r26_10, r26_11, F26, q26_9, q26, go_sem, Int.reduceToNat, Int.reduceLE, Int.reduceLT, Int.reduceEq, Int.reduceNe, Int.reduceNeg, Int.reduceAdd, Int.reduceSub, Int.reduceMul, Nat.reducePow, Nat.reduceDiv, Nat.reduceMod, Nat.reduceAdd, Nat.reduceSub, Nat.reduceMul, Nat.reduceLT, Nat.reduceLeDiff, Nat.reduceEqDiff, Nat.reduceBEq, reduceCtorEq, reduceIte, List.drop_length, List.filter_nil]
  | succ n ih =>
    intro i acc h0 h1 ha
    have hi : i < l.length := by omega
    have hl1 := hl.1
    rw [run_loop, drop_cons l i hi]
    have e2 := getD_map Lease.sv l i hi
    have e3 := wsucc i (by omega)
    have e4 : (acc.length + 1) * 40 ≤ 140737488355328 := by omega
    have hg := hl.get hi
    have hq := f40b fs hf (l.getD i default).g hg.1
    simp only [r26_0, r26_1, r26_2, r26_3, r26_4, r26_5, r26_6, r26_7, r26_8, r26_10, r26_11, F26, q26_9, q26, go_sem, Int.reduceToNat, Int.reduceLE, Int.reduceLT, Int.reduceEq, Int.reduceNe, Int.reduceNeg, Int.reduceAdd, Int.reduceSub, Int.reduceMul, Nat.reducePow, Nat.reduceDiv, Nat.reduceMod, Nat.reduceAdd, Nat.reduceSub, Nat.reduceMul, Nat.reduceLT, Nat.reduceLeDiff, Nat.reduceEqDiff, Nat.reduceBEq, reduceCtorEq, reduceIte, hi, e2, Lease.sv, gsSV, e3, hq, S_40, List.filter_cons]
    have h1' := ih (i + 1) acc (by omega) (by omega) (by omega)
    have h2' := ih (i + 1) (acc ++ [l.getD i default]) (by omega) (by omega) (by simp; omega)
    simp only [List.map_append, List.map_cons, List.map_nil, Lease.sv, gsSV, List.append_assoc, List.cons_append, List.nil_append] at h1' h2'
    by_cases hc : now < (l.getD i default).u
    · by_cases hd : (l.getD i default).g.any (fun y => !fs.any fun z => decide (z = y)) = true
      · have hk : keepP now fs (l.getD i default) = false := by simp only [keepP, hc, hd, decide_true, Bool.not_true, Bool.and_false]
        simp only [hc, hd, hk, go_sem, Int.reduceToNat, Int.reduceLE, Int.reduceLT, Int.reduceEq, Int.reduceNe, Int.reduceNeg, Int.reduceAdd, Int.reduceSub, Int.reduceMul, Nat.reducePow, Nat.reduceDiv, Nat.reduceMod, Nat.reduceAdd, Nat.reduceSub, Nat.reduceMul, Nat.reduceLT, Nat.reduceLeDiff, Nat.reduceEqDiff, Nat.reduceBEq, reduceCtorEq, reduceIte, r26_0, r26_1, r26_2, r26_3, r26_4, r26_5, r26_6, r26_7, r26_8, r26_10, r26_11, F26, q26_9, q26, h1']
      · have hd' : (l.getD i default).g.any (fun y => !fs.any fun z => decide (z = y)) = false := (Bool.not_eq_true _).mp hd
        have hk : keepP now fs (l.getD i default) = true := by simp only [keepP, hc, hd', decide_true, Bool.not_false, Bool.and_true]
        simp only [hc, hd', hk, e4, go_sem, Int.reduceToNat, Int.reduceLE, Int.reduceLT, Int.reduceEq, Int.reduceNe, Int.reduceNeg, Int.reduceAdd, Int.reduceSub, Int.reduceMul, Nat.reducePow, Nat.reduceDiv, Nat.reduceMod, Nat.reduceAdd, Nat.reduceSub, Nat.reduceMul, Nat.reduceLT, Nat.reduceLeDiff, Nat.reduceEqDiff, Nat.reduceBEq, reduceCtorEq, reduceIte, r26_0, r26_1, r26_2, r26_3, r26_4, r26_5, r26_6, r26_7, r26_8, r26_10, r26_11, F26, q26_9, q26, h2', Lease.sv, gsSV]
    · have hk : keepP now fs (l.getD i default) = false := by simp only [keepP, hc, decide_false, Bool.false_and]
      simp only [hc, hk, go_sem, Int.reduceToNat, Int.reduceLE, Int.reduceLT, Int.reduceEq, Int.reduceNe, Int.reduceNeg, Int.reduceAdd, Int.reduceSub, Int.reduceMul, Nat.reducePow, Nat.reduceDiv, Nat.reduceMod, Nat.reduceAdd, Nat.reduceSub, Nat.reduceMul, Nat.reduceLT, Nat.reduceLeDiff, Nat.reduceEqDiff, Nat.reduceBEq, reduceCtorEq, reduceIte, r26_0, r26_1, r26_2, r26_3, r26_4, r26_5, r26_6, r26_7, r26_8, r26_10, r26_11, F26, q26_9, q26, h1']
theorem f26 (l : Ls) (now : Int) (fs : List (List UInt8)) (hl : okL l.ls) (hf : fs.length ≤ 1000000000) : call T 26 [l.sv, .int .i64 now, .lst 1 (fs.map bytS) .no] [] 0 = some ⟨(Ls.mk (l.ls.filter (keepP now fs)) l.hs).sv, [], []⟩ := by
  have h := l26 l.ls l.hs now fs hl hf _ 0 [] rfl (by omega) (by simp)
  rw [call_code T_26]
  simp only [Int.natCast_zero, List.drop_zero, List.map_nil, List.nil_append] at h
  simp only [r26_0, r26_1, r26_2, r26_3, r26_4, r26_5, r26_6, r26_7, r26_8, r26_10, r26_11, F26, q26_9, q26, go_sem, Int.reduceToNat, Int.reduceLE, Int.reduceLT, Int.reduceEq, Int.reduceNe, Int.reduceNeg, Int.reduceAdd, Int.reduceSub, Int.reduceMul, Nat.reducePow, Nat.reduceDiv, Nat.reduceMod, Nat.reduceAdd, Nat.reduceSub, Nat.reduceMul, Nat.reduceLT, Nat.reduceLeDiff, Nat.reduceEqDiff, Nat.reduceBEq, reduceCtorEq, reduceIte, Ls.sv, lsSV, hsSV, h]
def subsetB (a b : List (List UInt8)) : Bool := a.all fun x => b.any fun y => decide (x = y)
theorem l44b (a b : List (List UInt8)) (i : Nat) (hi : i < a.length) (ha : okG a) (hb : okG b) : ∀ (n k : Nat) (t : Bool), b.length - k = n → k ≤ b.length →
    run T (.loop r44_8) ⟨[(0, .lst 1 (a.map bytS) .no), (1, .lst 1 (b.map bytS) .no), (5, .int .i64 i), (6, .bool t), (7, .int .i64 k)], [], []⟩ =
      some (.x 2, ⟨[(0, .lst 1 (a.map bytS) .no), (1, .lst 1 (b.map bytS) .no), (5, .int .i64 i), (6, .bool (t || (b.drop k).any fun y => decide (a.getD i [] = y)))], [], []⟩) := by
  intro n
  induction n with
  | zero =>
    intro k t h0 h1
    have hk : k = b.length := by omega
    subst hk
    rw [run_loop]
    simp only [r44_0, r44_1, r44_2, r44_3, r44_4, r44_5, r44_6, r44_7, r44_9, r44_10, r44_11, r44_13, F44, q44_8, q44_12, q44, go_sem, Int.reduceToNat, Int.reduceLE, Int.reduceLT, Int.reduceEq, Int.reduceNe, Int.reduceNeg, Int.reduceAdd, Int.reduceSub, Int.reduceMul, Nat.reducePow, Nat.reduceDiv, Nat.reduceMod, Nat.reduceAdd, Nat.reduceSub, Nat.reduceMul, Nat.reduceLT, Nat.reduceLeDiff, Nat.reduceEqDiff, Nat.reduceBEq, reduceCtorEq, reduceIte, List.drop_length, List.any_nil, Bool.or_false]
  | succ n ih =>
    intro k t h0 h1
    have hk : k < b.length := by omega
    have hb1 := hb.1
    rw [run_loop, drop_consG b k hk]
    have e3 := wsucc k (by omega)
    have hs := f50 (a.getD i []) (b.getD k []) (ha.get i)
    cases t with
    | true =>
      simp only [r44_0, r44_1, r44_2, r44_3, r44_4, r44_5, r44_6, r44_7, r44_9, r44_10, r44_11, r44_13, F44, q44_8, q44_12, q44, go_sem, Int.reduceToNat, Int.reduceLE, Int.reduceLT, Int.reduceEq, Int.reduceNe, Int.reduceNeg, Int.reduceAdd, Int.reduceSub, Int.reduceMul, Nat.reducePow, Nat.reduceDiv, Nat.reduceMod, Nat.reduceAdd, Nat.reduceSub, Nat.reduceMul, Nat.reduceLT, Nat.reduceLeDiff, Nat.reduceEqDiff, Nat.reduceBEq, reduceCtorEq, reduceIte, hi, hk, e3, getD_bytS a i hi, getD_bytS b k hk, ih (k + 1) _ (by omega) (by omega), List.any_cons]
    | false =>
      simp only [r44_0, r44_1, r44_2, r44_3, r44_4, r44_5, r44_6, r44_7, r44_9, r44_10, r44_11, r44_13, F44, q44_8, q44_12, q44, go_sem, Int.reduceToNat, Int.reduceLE, Int.reduceLT, Int.reduceEq, Int.reduceNe, Int.reduceNeg, Int.reduceAdd, Int.reduceSub, Int.reduceMul, Nat.reducePow, Nat.reduceDiv, Nat.reduceMod, Nat.reduceAdd, Nat.reduceSub, Nat.reduceMul, Nat.reduceLT, Nat.reduceLeDiff, Nat.reduceEqDiff, Nat.reduceBEq, reduceCtorEq, reduceIte, hi, hk, e3, getD_bytS a i hi, getD_bytS b k hk, hs, S_50, ih (k + 1) _ (by omega) (by omega), List.any_cons]
theorem l44 (a b : List (List UInt8)) (ha : okG a) (hb : okG b) : ∀ (n i : Nat), a.length - i = n → i ≤ a.length →
    run T (.loop r44_12) ⟨[(0, .lst 1 (a.map bytS) .no), (1, .lst 1 (b.map bytS) .no), (5, .int .i64 i)], [], []⟩ =
      if subsetB (a.drop i) b = true then some (.x 0, ⟨[], [], []⟩) else some (.r, ⟨[(4, .bool false)], [], []⟩) := by
  intro n
  induction n with
  | zero =>
    intro i h0 h1
    have hi : i = a.length := by omega
    subst hi
    rw [run_loop]
    simp only [r44_0, r44_1, r44_2, r44_3, r44_4, r44_5, r44_6, r44_7, r44_9, r44_10, r44_11, r44_13, F44, q44_8, q44_12, q44, go_sem, Int.reduceToNat, Int.reduceLE, Int.reduceLT, Int.reduceEq, Int.reduceNe, Int.reduceNeg, Int.reduceAdd, Int.reduceSub, Int.reduceMul, Nat.reducePow, Nat.reduceDiv, Nat.reduceMod, Nat.reduceAdd, Nat.reduceSub, Nat.reduceMul, Nat.reduceLT, Nat.reduceLeDiff, Nat.reduceEqDiff, Nat.reduceBEq, reduceCtorEq, reduceIte, List.drop_length, subsetB]
  | succ n ih =>
    intro i h0 h1
    have hi : i < a.length := by omega
    have ha1 := ha.1
    rw [run_loop, drop_consG a i hi]
    have e3 := wsucc i (by omega)
    have h := l44b a b i hi ha hb _ 0 false rfl (by omega)
    simp only [Int.natCast_zero, List.drop_zero, Bool.false_or] at h
    have hcons : subsetB (a.getD i [] :: a.drop (i + 1)) b = ((b.any fun y => decide (a.getD i [] = y)) && subsetB (a.drop (i + 1)) b) := rfl
    rw [hcons]
    simp only [r44_0, r44_1, r44_2, r44_3, r44_4, r44_5, r44_6, r44_7, r44_9, r44_10, r44_11, r44_13, F44, q44_8, q44_12, q44, go_sem, Int.reduceToNat, Int.reduceLE, Int.reduceLT, Int.reduceEq, Int.reduceNe, Int.reduceNeg, Int.reduceAdd, Int.reduceSub, Int.reduceMul, Nat.reducePow, Nat.reduceDiv, Nat.reduceMod, Nat.reduceAdd, Nat.reduceSub, Nat.reduceMul, Nat.reduceLT, Nat.reduceLeDiff, Nat.reduceEqDiff, Nat.reduceBEq, reduceCtorEq, reduceIte, hi, e3, h, ih (i + 1) (by omega) (by omega)]
    by_cases hc : (b.any fun y => decide (a.getD i [] = y)) = true
    · simp only [hc, go_sem, Int.reduceToNat, Int.reduceLE, Int.reduceLT, Int.reduceEq, Int.reduceNe, Int.reduceNeg, Int.reduceAdd, Int.reduceSub, Int.reduceMul, Nat.reducePow, Nat.reduceDiv, Nat.reduceMod, Nat.reduceAdd, Nat.reduceSub, Nat.reduceMul, Nat.reduceLT, Nat.reduceLeDiff, Nat.reduceEqDiff, Nat.reduceBEq, reduceCtorEq, reduceIte, r44_0, r44_1, r44_2, r44_3, r44_4, r44_5, r44_6, r44_7, r44_9, r44_10, r44_11, r44_13, F44, q44_8, q44_12, q44]
    · have hc' : (b.any fun y => decide (a.getD i [] = y)) = false := (Bool.not_eq_true _).mp hc
      simp only [hc', go_sem, Int.reduceToNat, Int.reduceLE, Int.reduceLT, Int.reduceEq, Int.reduceNe, Int.reduceNeg, Int.reduceAdd, Int.reduceSub, Int.reduceMul, Nat.reducePow, Nat.reduceDiv, Nat.reduceMod, Nat.reduceAdd, Nat.reduceSub, Nat.reduceMul, Nat.reduceLT, Nat.reduceLeDiff, Nat.reduceEqDiff, Nat.reduceBEq, reduceCtorEq, reduceIte, r44_0, r44_1, r44_2, r44_3, r44_4, r44_5, r44_6, r44_7, r44_9, r44_10, r44_11, r44_13, F44, q44_8, q44_12, q44]
theorem f44 (a b : List (List UInt8)) (ha : okG a) (hb : okG b) : call T 44 [.lst 1 (a.map bytS) .no, .lst 1 (b.map bytS) .no] [] 0 = some ⟨.bool (subsetB a b), [], []⟩ := by
  have h := l44 a b ha hb _ 0 rfl (by omega)
  rw [call_code T_44]
  simp only [Int.natCast_zero, List.drop_zero] at h
  simp only [r44_0, r44_1, r44_2, r44_3, r44_4, r44_5, r44_6, r44_7, r44_9, r44_10, r44_11, r44_13, F44, q44_8, q44_12, q44, go_sem, Int.reduceToNat, Int.reduceLE, Int.reduceLT, Int.reduceEq, Int.reduceNe, Int.reduceNeg, Int.reduceAdd, Int.reduceSub, Int.reduceMul, Nat.reducePow, Nat.reduceDiv, Nat.reduceMod, Nat.reduceAdd, Nat.reduceSub, Nat.reduceMul, Nat.reduceLT, Nat.reduceLeDiff, Nat.reduceEqDiff, Nat.reduceBEq, reduceCtorEq, reduceIte, h]
  by_cases hc : subsetB a b = true
  · simp only [hc, r44_0, r44_1, r44_2, r44_3, r44_4, r44_5, r44_6, r44_7, r44_9, r44_10, r44_11, r44_13, F44, q44_8, q44_12, q44, go_sem, Int.reduceToNat, Int.reduceLE, Int.reduceLT, Int.reduceEq, Int.reduceNe, Int.reduceNeg, Int.reduceAdd, Int.reduceSub, Int.reduceMul, Nat.reducePow, Nat.reduceDiv, Nat.reduceMod, Nat.reduceAdd, Nat.reduceSub, Nat.reduceMul, Nat.reduceLT, Nat.reduceLeDiff, Nat.reduceEqDiff, Nat.reduceBEq, reduceCtorEq, reduceIte]
  · have hc' : subsetB a b = false := (Bool.not_eq_true _).mp hc
    simp only [hc', r44_0, r44_1, r44_2, r44_3, r44_4, r44_5, r44_6, r44_7, r44_9, r44_10, r44_11, r44_13, F44, q44_8, q44_12, q44, go_sem, Int.reduceToNat, Int.reduceLE, Int.reduceLT, Int.reduceEq, Int.reduceNe, Int.reduceNeg, Int.reduceAdd, Int.reduceSub, Int.reduceMul, Nat.reducePow, Nat.reduceDiv, Nat.reduceMod, Nat.reduceAdd, Nat.reduceSub, Nat.reduceMul, Nat.reduceLT, Nat.reduceLeDiff, Nat.reduceEqDiff, Nat.reduceBEq, reduceCtorEq, reduceIte]
def keepR (now : Int) (fs : List (List UInt8)) (x : Lease) : Bool := decide (now < x.u) && subsetB x.g fs
theorem l27 (l : List Lease) (H : List Hold) (now : Int) (fs : List (List UInt8)) (hl : okL l) (hf : okG fs) : ∀ (n i : Nat) (acc : List Lease), l.length - i = n → i ≤ l.length → acc.length ≤ i →
    run T (.loop r27_8) ⟨[(1, .int .i64 now), (2, .lst 1 (fs.map bytS) .no), (3, .ptr 103 0), (6, .ptr 106 0), (7, .lst 3 (acc.map Lease.sv) (.id 107)), (8, .int .i64 i)],
        [(103, .rc [.lst 3 (l.map Lease.sv) .no, .lst 3 (H.map Hold.sv) .no]), (106, .rc [.lst 3 [] .clip, .lst 3 [] .clip])], [107]⟩ =
      some (.x 0, ⟨[(3, .ptr 103 0), (6, .ptr 106 0), (7, .lst 3 ((acc ++ (l.drop i).filter (keepR now fs)).map Lease.sv) (.id 107))],
        [(103, .rc [.lst 3 (l.map Lease.sv) .no, .lst 3 (H.map Hold.sv) .no]), (106, .rc [.lst 3 [] .clip, .lst 3 [] .clip])], [107]⟩) := by
  intro n
  induction n with
  | zero =>
    intro i acc h0 h1 ha
    have hi : i = l.length := by omega
    subst hi
    rw [run_loop]
    simp only [r27_0, r27_1, r27_2, r27_3, r27_4, r27_5, r27_6, r27_7, r27_9, r27_10, F27, q27_8, q27, go_sem, Int.reduceToNat, Int.reduceLE, Int.reduceLT, Int.reduceEq, Int.reduceNe, Int.reduceNeg, Int.reduceAdd, Int.reduceSub, Int.reduceMul, Nat.reducePow, Nat.reduceDiv, Nat.reduceMod, Nat.reduceAdd, Nat.reduceSub, Nat.reduceMul, Nat.reduceLT, Nat.reduceLeDiff, Nat.reduceEqDiff, Nat.reduceBEq, reduceCtorEq, reduceIte, List.drop_length, List.filter_nil]
  | succ n ih =>
    intro i acc h0 h1 ha
    have hi : i < l.length := by omega
    have hl1 := hl.1
    rw [run_loop, drop_cons l i hi]
    have e2 := getD_map Lease.sv l i hi
    have e3 := wsucc i (by omega)
    have e4 : (acc.length + 1) * 40 ≤ 140737488355328 := by omega
    have hg := hl.get hi
    have hq := f44 (l.getD i default).g fs hg hf
    simp only [r27_0, r27_1, r27_2, r27_3, r27_4, r27_5, r27_6, r27_7, r27_9, r27_10, F27, q27_8, q27, go_sem, Int.reduceToNat, Int.reduceLE, Int.reduceLT, Int.reduceEq, Int.reduceNe, Int.reduceNeg, Int.reduceAdd, Int.reduceSub, Int.reduceMul, Nat.reducePow, Nat.reduceDiv, Nat.reduceMod, Nat.reduceAdd, Nat.reduceSub, Nat.reduceMul, Nat.reduceLT, Nat.reduceLeDiff, Nat.reduceEqDiff, Nat.reduceBEq, reduceCtorEq, reduceIte, hi, e2, Lease.sv, gsSV, e3, hq, S_44, List.filter_cons]
    have h1' := ih (i + 1) acc (by omega) (by omega) (by omega)
    have h2' := ih (i + 1) (acc ++ [l.getD i default]) (by omega) (by omega) (by simp; omega)
    simp only [List.map_append, List.map_cons, List.map_nil, Lease.sv, gsSV, List.append_assoc, List.cons_append, List.nil_append] at h1' h2'
    by_cases hc : now < (l.getD i default).u
    · by_cases hd : subsetB (l.getD i default).g fs = true
      · have hk : keepR now fs (l.getD i default) = true := by simp only [keepR, hc, hd, decide_true, Bool.and_true]
        simp only [hc, hd, hk, e4, go_sem, Int.reduceToNat, Int.reduceLE, Int.reduceLT, Int.reduceEq, Int.reduceNe, Int.reduceNeg, Int.reduceAdd, Int.reduceSub, Int.reduceMul, Nat.reducePow, Nat.reduceDiv, Nat.reduceMod, Nat.reduceAdd, Nat.reduceSub, Nat.reduceMul, Nat.reduceLT, Nat.reduceLeDiff, Nat.reduceEqDiff, Nat.reduceBEq, reduceCtorEq, reduceIte, r27_0, r27_1, r27_2, r27_3, r27_4, r27_5, r27_6, r27_7, r27_9, r27_10, F27, q27_8, q27, h2', Lease.sv, gsSV]
      · have hd' : subsetB (l.getD i default).g fs = false := (Bool.not_eq_true _).mp hd
        have hk : keepR now fs (l.getD i default) = false := by simp only [keepR, hc, hd', decide_true, Bool.and_false]
        simp only [hc, hd', hk, go_sem, Int.reduceToNat, Int.reduceLE, Int.reduceLT, Int.reduceEq, Int.reduceNe, Int.reduceNeg, Int.reduceAdd, Int.reduceSub, Int.reduceMul, Nat.reducePow, Nat.reduceDiv, Nat.reduceMod, Nat.reduceAdd, Nat.reduceSub, Nat.reduceMul, Nat.reduceLT, Nat.reduceLeDiff, Nat.reduceEqDiff, Nat.reduceBEq, reduceCtorEq, reduceIte, r27_0, r27_1, r27_2, r27_3, r27_4, r27_5, r27_6, r27_7, r27_9, r27_10, F27, q27_8, q27, h1']
    · have hk : keepR now fs (l.getD i default) = false := by simp only [keepR, hc, decide_false, Bool.false_and]
      simp only [hc, hk, go_sem, Int.reduceToNat, Int.reduceLE, Int.reduceLT, Int.reduceEq, Int.reduceNe, Int.reduceNeg, Int.reduceAdd, Int.reduceSub, Int.reduceMul, Nat.reducePow, Nat.reduceDiv, Nat.reduceMod, Nat.reduceAdd, Nat.reduceSub, Nat.reduceMul, Nat.reduceLT, Nat.reduceLeDiff, Nat.reduceEqDiff, Nat.reduceBEq, reduceCtorEq, reduceIte, r27_0, r27_1, r27_2, r27_3, r27_4, r27_5, r27_6, r27_7, r27_9, r27_10, F27, q27_8, q27, h1']
theorem f27 (l : Ls) (now : Int) (fs : List (List UInt8)) (hl : okL l.ls) (hf : okG fs) : call T 27 [l.sv, .int .i64 now, .lst 1 (fs.map bytS) .no] [] 0 = some ⟨(Ls.mk (l.ls.filter (keepR now fs)) l.hs).sv, [], []⟩ := by
  have h := l27 l.ls l.hs now fs hl hf _ 0 [] rfl (by omega) (by simp)
  rw [call_code T_27]
  simp only [Int.natCast_zero, List.drop_zero, List.map_nil, List.nil_append] at h
  simp only [r27_0, r27_1, r27_2, r27_3, r27_4, r27_5, r27_6, r27_7, r27_9, r27_10, F27, q27_8, q27, go_sem, Int.reduceToNat, Int.reduceLE, Int.reduceLT, Int.reduceEq, Int.reduceNe, Int.reduceNeg, Int.reduceAdd, Int.reduceSub, Int.reduceMul, Nat.reducePow, Nat.reduceDiv, Nat.reduceMod, Nat.reduceAdd, Nat.reduceSub, Nat.reduceMul, Nat.reduceLT, Nat.reduceLeDiff, Nat.reduceEqDiff, Nat.reduceBEq, reduceCtorEq, reduceIte, Ls.sv, lsSV, hsSV, h]
def admP (l : List Lease) (m now : Int) : Bool := has (l.map Lease.m) m && decide (now < (l.getD (lb (l.map Lease.m) m) default).u)
theorem f24 (l : Ls) (m now : Int) (hs : Sorted (l.ls.map Lease.m)) (hl : l.ls.length ≤ 1000000000) : call T 24 [l.sv, .int .i64 m, .int .i64 now] [] 0 = some ⟨.bool (admP l.ls m now), [], []⟩ := by
  have h := f31 l m hs hl
  rw [call_code T_24]
  simp only [Ls.sv, lsSV, hsSV] at h ⊢
  by_cases hc : has (l.ls.map Lease.m) m = true
  · have hk : lb (l.ls.map Lease.m) m < l.ls.length := by
      unfold has at hc
      rw [decide_eq_true_eq, List.length_map] at hc
      exact hc.1
    simp only [hc] at h
    simp only [r24_0, r24_1, r24_2, F24, q24, go_sem, Int.reduceToNat, Int.reduceLE, Int.reduceLT, Int.reduceEq, Int.reduceNe, Int.reduceNeg, Int.reduceAdd, Int.reduceSub, Int.reduceMul, Nat.reducePow, Nat.reduceDiv, Nat.reduceMod, Nat.reduceAdd, Nat.reduceSub, Nat.reduceMul, Nat.reduceLT, Nat.reduceLeDiff, Nat.reduceEqDiff, Nat.reduceBEq, reduceCtorEq, reduceIte, h, S_31, hk, getD_map Lease.sv _ _ hk, Lease.sv, gsSV, admP, hc]
  · have hc' : has (l.ls.map Lease.m) m = false := (Bool.not_eq_true _).mp hc
    simp only [hc'] at h
    simp only [r24_0, r24_1, r24_2, F24, q24, go_sem, Int.reduceToNat, Int.reduceLE, Int.reduceLT, Int.reduceEq, Int.reduceNe, Int.reduceNeg, Int.reduceAdd, Int.reduceSub, Int.reduceMul, Nat.reducePow, Nat.reduceDiv, Nat.reduceMod, Nat.reduceAdd, Nat.reduceSub, Nat.reduceMul, Nat.reduceLT, Nat.reduceLeDiff, Nat.reduceEqDiff, Nat.reduceBEq, reduceCtorEq, reduceIte, h, S_31, admP, hc']
def admR (l : List Lease) (m now : Int) : Bool := (findL l m).isSome && decide (now < ((findL l m).getD default).u)
theorem f25 (l : Ls) (m now : Int) (hl : l.ls.length ≤ 1000000000) : call T 25 [l.sv, .int .i64 m, .int .i64 now] [] 0 = some ⟨.bool (admR l.ls m now), [], []⟩ := by
  have h := f28 l m hl
  rw [call_code T_25]
  simp only [Ls.sv, lsSV, hsSV, Lease.sv, gsSV] at h ⊢
  cases hc : (findL l.ls m).isSome with
  | true =>
    simp only [hc] at h
    simp only [r25_0, r25_1, r25_2, F25, q25, go_sem, Int.reduceToNat, Int.reduceLE, Int.reduceLT, Int.reduceEq, Int.reduceNe, Int.reduceNeg, Int.reduceAdd, Int.reduceSub, Int.reduceMul, Nat.reducePow, Nat.reduceDiv, Nat.reduceMod, Nat.reduceAdd, Nat.reduceSub, Nat.reduceMul, Nat.reduceLT, Nat.reduceLeDiff, Nat.reduceEqDiff, Nat.reduceBEq, reduceCtorEq, reduceIte, h, S_28, admR, hc]
  | false =>
    simp only [hc] at h
    simp only [r25_0, r25_1, r25_2, F25, q25, go_sem, Int.reduceToNat, Int.reduceLE, Int.reduceLT, Int.reduceEq, Int.reduceNe, Int.reduceNeg, Int.reduceAdd, Int.reduceSub, Int.reduceMul, Nat.reducePow, Nat.reduceDiv, Nat.reduceMod, Nat.reduceAdd, Nat.reduceSub, Nat.reduceMul, Nat.reduceLT, Nat.reduceLeDiff, Nat.reduceEqDiff, Nat.reduceBEq, reduceCtorEq, reduceIte, h, S_28, admR, hc]
end Go.Proofs.Ytghggnfomlibjaa
