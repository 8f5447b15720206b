/-
  Copies of holds, and holds inserted.
-/
import Derived.Test.YtghggnfomlibjaaVD
set_option maxRecDepth 100000
set_option linter.unusedSimpArgs false
namespace Go.Proofs.Ytghggnfomlibjaa.Vc
open Go.Sy
attribute [local go_sem] List.length_cons List.length_nil List.replicate List.cons_append List.nil_append List.append_nil vc vo_nil vo_call vo_gcall vo_mov vo_pick vo_new vo_box vo_build vo_lit vo_litB vo_load vo_store vo_nchk vo_bin vo_beq vo_un vo_toInt vo_toStr vo_s2b vo_b2s vo_mkfn vo_mk vo_mkB vo_slcS vo_slcL vo_slcA vo_faddr vo_fld vo_iaddrL vo_iaddrA vo_idxA vo_idxS vo_ext vo_len vo_lenC vo_cap vo_app vo_appM vo_eqS vo_isnil vo_ovl vo_cpy vo_mini vo_maxi stepSI sym eff val loadSV storeE mkLoad St.app St.wr St.ev St.get St.put St.look St.setO Sy.setO St.know St.purge St.addO List.lookup beq_self_eq_true List.getD_eq_getElem?_getD List.getElem?_cons_zero List.getElem?_cons_succ List.getElem?_nil Option.getD_some Option.getD_none List.set_cons_zero List.set_cons_succ thenS blockS binSV ibin cmpSV unSV lenSV SV.num data_int data_bool data_u8 data_str data_byt data_lst data_pp data_nilp isd_int isd_bool isd_u8 isd_str isd_byt isd_lst isd_pp cel_int cel_bool cel_u8 cel_str cel_byt cel_lst cel_psl cel_pp cel_ptr cel_agg def_int def_bool def_u8 def_str def_byt def_lst def_psl def_pp def_ptr def_agg one_int one_bool one_u8 one_str one_byt one_lst one_psl one_pp one_ptr fillSV rows optI true_and and_true true_implies false_implies implies_true not_true_eq_false not_false_eq_true and_self decide_eq_true_eq decide_eq_false_iff_not Option.map_some bodyQ bodyF resV oneSV SV.strip SV.stripL SV.purge SV.purgeL SObj.purge purgeO dropT Tok.purge setCells List.take_succ_cons List.take_zero List.take_nil List.drop_zero List.drop_succ_cons List.drop_nil List.map_cons List.map_nil List.flatten_cons List.flatten_nil List.contains_nil List.contains_cons Bool.or_false Bool.true_or Bool.or_true Bool.false_or Bool.false_eq_true Bool.true_eq_false Bool.not_true Bool.not_false Bool.not_eq_true Bool.not_eq_false SOp.args Option.isNone_none Option.isNone_some Option.isSome_none Option.isSome_some Int.toNat_natCast List.all_cons List.all_nil Bool.and_self Bool.and_true Bool.true_and

def zH : List SV := [.int .i64 0, .int .i64 0, .int .i64 0]
theorem spec37 (ms : List Row) (hl : ms.length ≤ 1000000000) : Sy.Spec Try.prog 37 [rowsSV ms] [] (copyR zH ms) := by
  refine spec_tri [99] Try.func37 c37_ok (by kernel_rfl) Try.ntmps37 (rs := [.tmp 2]) Try.results37 (.inr ⟨rfl, by simp [namesL, rowsSV, SV.idsL, SV.toksL, SV.ids, SV.toks], by simp, by simp⟩) (Tri.vc ?_)
  simp only [c37_0, c37_1, c37_2, c37_3, c37, rowsSV, go_sem, Nat.reduceAdd, Nat.reduceSub, Nat.reduceMul, Nat.reduceLT, Nat.reduceLeDiff, Nat.reduceEqDiff, reduceIte, Nat.reduceBEq, reduceCtorEq, idx, List.zipIdx_nil, rowsOf, appP, capOf, List.length_map]
  intro b hb
  refine ⟨fun hb1 => ?_, fun hb1 => ?_⟩
  · have hb2 : b = true := by cases b <;> simp at hb1 ⊢
    have hm : ms = [] := by simpa using hb hb2
    exact ⟨_, Weak.refl _, .lst 3 [] .clip, [], by simp only [go_sem, Nat.reduceAdd, Nat.reduceSub, Nat.reduceMul, Nat.reduceLT, Nat.reduceLeDiff, Nat.reduceEqDiff, reduceIte, Nat.reduceBEq, reduceCtorEq]; exact SVle.refl _, by simp, by simp, by simp [SV.toks], .inl ⟨hm, rfl, rfl⟩⟩
  · refine ⟨by omega, fun h0 => ?_, fun h0 nc hnc => ?_⟩
    · have hm : ms = [] := List.length_eq_zero_iff.1 (by omega)
      simp only [fitP, go_sem, Nat.reduceAdd, Nat.reduceSub, Nat.reduceMul, Nat.reduceLT, Nat.reduceLeDiff, Nat.reduceEqDiff, reduceIte, Nat.reduceBEq, reduceCtorEq]
      exact ⟨_, Weak.refl _, .lst 3 [] .clip, [], by simp only [go_sem, Nat.reduceAdd, Nat.reduceSub, Nat.reduceMul, Nat.reduceLT, Nat.reduceLeDiff, Nat.reduceEqDiff, reduceIte, Nat.reduceBEq, reduceCtorEq]; exact SVle.refl _, by simp, by simp, by simp [SV.toks], .inl ⟨hm, rfl, rfl⟩⟩
    · have hm : ms ≠ [] := by rintro rfl; simp at h0
      simp only [growE, go_sem, Nat.reduceAdd, Nat.reduceSub, Nat.reduceMul, Nat.reduceLT, Nat.reduceLeDiff, Nat.reduceEqDiff, reduceIte, Nat.reduceBEq, reduceCtorEq, List.length_map, Nat.zero_add] at hnc ⊢
      refine ⟨_, Weak.refl _, .psl 107 3 0 ms.length nc, [(107, .arr 3 (ms.map Row.sv ++ List.replicate (nc - ms.length) zH))], ?_, ?_, ?_, by simp [SV.toks], .inr ⟨hm, nc, hnc, rfl, rfl⟩⟩
      · simp only [go_sem, Nat.reduceAdd, Nat.reduceSub, Nat.reduceMul, Nat.reduceLT, Nat.reduceLeDiff, Nat.reduceEqDiff, reduceIte, Nat.reduceBEq, reduceCtorEq]; exact SVle.refl _
      · simp [zH]
      · simp
theorem spec36 (ms : List Row) (hl : ms.length ≤ 1000000000) (nc : Nat) (hnc : ms.length ≤ nc) (i : Nat) (hi : i ≤ ms.length) (x : Row) :
    Sy.Spec Try.prog 36 [.psl 0 3 0 ms.length nc, .int .i64 i, .lst 3 [x.sv] .no] [.arr 3 (ms.map Row.sv ++ List.replicate (nc - ms.length) zH)] (insR ms i x) := by
  refine spec_tri [99] Try.func36 c36_ok (by kernel_rfl) Try.ntmps36 (rs := [.tmp 6]) Try.results36 (.inr ⟨rfl, by simp [namesL, SV.idsL, SV.toksL, SV.ids, SV.toks], by simp, by simp [SObj.names, SObj.ids, SObj.toks]⟩) ?_
  generalize hxs : ms.map Row.sv ++ List.replicate (nc - ms.length) zH = xs
  have hidx : idx [.arr 3 xs] = [(0, .arr 3 xs)] := rfl
  have hxl : xs.length = nc := by rw [← hxs]; simp; omega
  have hrows : ∀ y ∈ xs, y.length = 3 := by
    intro y hy
    rw [← hxs] at hy
    rcases List.mem_append.1 hy with h | h
    · obtain ⟨r, _, rfl⟩ := List.mem_map.1 h; rfl
    · rw [(List.mem_replicate.1 h).2]; rfl
  have htake : xs.take ms.length = ms.map Row.sv := by rw [← hxs, List.take_append_of_le_length (by simp), List.take_of_length_le (by simp)]
  rw [hidx]
  simp only [c36]
  refine Tri.seq (Tri.vc ?_)
  simp only [c36_0, go_sem, Nat.reduceAdd, Nat.reduceSub, Nat.reduceMul, Nat.reduceLT, Nat.reduceLeDiff, Nat.reduceEqDiff, reduceIte, Nat.reduceBEq, reduceCtorEq]
  refine Tri.seq (Tri.vc ?_)
  simp only [c36_1, go_sem, Nat.reduceAdd, Nat.reduceSub, Nat.reduceMul, Nat.reduceLT, Nat.reduceLeDiff, Nat.reduceEqDiff, reduceIte, Nat.reduceBEq, reduceCtorEq, slcSV]
  refine ⟨by omega, Tri.seq (Tri.vc ?_)⟩
  simp only [c36_2, go_sem, Nat.reduceAdd, Nat.reduceSub, Nat.reduceMul, Nat.reduceLT, Nat.reduceLeDiff, Nat.reduceEqDiff, reduceIte, Nat.reduceBEq, reduceCtorEq]
  refine Tri.seq (Tri.vc ?_)
  simp only [c36_3, c36_4, go_sem, Nat.reduceAdd, Nat.reduceSub, Nat.reduceMul, Nat.reduceLT, Nat.reduceLeDiff, Nat.reduceEqDiff, reduceIte, Nat.reduceBEq, reduceCtorEq]
  refine ⟨fun h => by simp at h, fun _ => ?_⟩
  refine Tri.seq (Tri.vc ?_)
  simp only [c36_5, go_sem, Nat.reduceAdd, Nat.reduceSub, Nat.reduceMul, Nat.reduceLT, Nat.reduceLeDiff, Nat.reduceEqDiff, reduceIte, Nat.reduceBEq, reduceCtorEq]
  refine Tri.seq (Tri.vc ?_)
  simp only [c36_6, c36_7, go_sem, Nat.reduceAdd, Nat.reduceSub, Nat.reduceMul, Nat.reduceLT, Nat.reduceLeDiff, Nat.reduceEqDiff, reduceIte, Nat.reduceBEq, reduceCtorEq, rowsOf, appP, capOf, htake, List.length_map]
  refine ⟨fun hin => ?_, fun hin => ?_⟩
  · have hin' : i = ms.length := by omega
    refine ⟨⟨by omega, hrows⟩, by omega, fun hfit => ?_, fun hno nc2 hnc2 => ?_⟩
    · simp only [fitP, go_sem, Nat.reduceAdd, Nat.reduceSub, Nat.reduceMul, Nat.reduceLT, Nat.reduceLeDiff, Nat.reduceEqDiff, reduceIte, Nat.reduceBEq, reduceCtorEq]
      refine ⟨hrows, by omega, ?_⟩
      refine ins_ret (o := 0) (off := 0) (n := ms.length + 1) (cap := nc) (xs := xs.take (0 + ms.length) ++ [x.sv] ++ xs.drop (0 + ms.length + 1)) rfl rfl (by simp; omega) (rows_app (rows_app (fun y hy => hrows y (List.mem_of_mem_take hy)) (rows_one x)) (fun y hy => hrows y (List.mem_of_mem_drop hy))) ?_
      rw [Nat.zero_add, htake, hin', List.take_length, List.drop_length, List.append_nil, List.drop_zero, List.take_append_of_le_length (by simp), List.take_of_length_le (by simp)]
      simp
    · simp only [growE, go_sem, Nat.reduceAdd, Nat.reduceSub, Nat.reduceMul, Nat.reduceLT, Nat.reduceLeDiff, Nat.reduceEqDiff, reduceIte, Nat.reduceBEq, reduceCtorEq, List.length_map] at hnc2 ⊢
      refine ins_ret (o := 125) (off := 0) (n := ms.length + 1) (cap := nc2) rfl rfl (by simp) (rows_app (rows_app (rows_map ms) (rows_one x)) (rows_rep _ rfl)) ?_
      rw [hin', List.take_length, List.drop_length, List.append_nil, List.drop_zero, List.take_append_of_le_length (by simp), List.take_of_length_le (by simp)]
      simp
  · have hlt : i < ms.length := by omega
    have hw : IntKind.i64.wrap ((ms.length : Int) + ((1 : Nat) : Int)) = ((ms.length + 1 : Nat) : Int) := by rw [wrap64_id (by omega) (by omega)]; omega
    refine Tri.seq (Tri.seq (Tri.vc ?_))
    simp only [c36_8, go_sem, Nat.reduceAdd, Nat.reduceSub, Nat.reduceMul, Nat.reduceLT, Nat.reduceLeDiff, Nat.reduceEqDiff, reduceIte, Nat.reduceBEq, reduceCtorEq, List.length_singleton, hw]
    refine Tri.cond (t := decide (((ms.length + 1 : Nat) : Int) > nc)) (by simp only [go_sem, Nat.reduceAdd, Nat.reduceSub, Nat.reduceMul, Nat.reduceLT, Nat.reduceLeDiff, Nat.reduceEqDiff, reduceIte, Nat.reduceBEq, reduceCtorEq]) (fun h => ?_) (fun h => ?_)
    · have hnc2 : nc = ms.length := by simp at h; omega
      simp only [go_sem, Nat.reduceAdd, Nat.reduceSub, Nat.reduceMul, Nat.reduceLT, Nat.reduceLeDiff, Nat.reduceEqDiff, reduceIte, Nat.reduceBEq, reduceCtorEq]
      refine Tri.seq (Tri.vc ?_)
      have hw2 : IntKind.i64.wrap (((ms.length + 1 : Nat) : Int) - (i : Int)) = ((ms.length + 1 - i : Nat) : Int) := by rw [wrap64_id (by omega) (by omega)]; omega
      have hti : (xs.take i).length = i := by rw [List.length_take]; omega
      simp only [c36_9, go_sem, Nat.reduceAdd, Nat.reduceSub, Nat.reduceMul, Nat.reduceLT, Nat.reduceLeDiff, Nat.reduceEqDiff, reduceIte, Nat.reduceBEq, reduceCtorEq, slcSV, appZ, capOf, rowsOf, growE, List.length_singleton, hw, hw2, Int.toNat_zero, Nat.add_zero, Nat.zero_add, Nat.sub_zero, hti, List.length_replicate]
      refine ⟨by omega, ⟨by omega, hrows⟩, by omega, by omega, by omega, by omega, fun nc2 hnc3 => ?_⟩
      generalize hys : xs.take i ++ List.replicate (ms.length + 1 - i) [SV.int IntKind.i64 0, SV.int IntKind.i64 0, SV.int IntKind.i64 0] ++ List.replicate (nc2 - (i + (ms.length + 1 - i))) [SV.int IntKind.i64 0, SV.int IntKind.i64 0, SV.int IntKind.i64 0] = ys
      refine Tri.seq (Tri.vc ?_)
      simp only [c36_10, go_sem, Nat.reduceAdd, Nat.reduceSub, Nat.reduceMul, Nat.reduceLT, Nat.reduceLeDiff, Nat.reduceEqDiff, reduceIte, Nat.reduceBEq, reduceCtorEq, slcSV, rowsOf, List.length_singleton, Nat.zero_add]
      have e1 : i + (ms.length + 1 - i) = ms.length + 1 := by omega
      have hyl : ys.length = nc2 := by rw [← hys]; simp only [List.length_append, List.length_replicate, hti]; omega
      have hyr : ∀ y ∈ ys, y.length = 3 := by rw [← hys]; exact rows_app (rows_app (fun y hy => hrows y (List.mem_of_mem_take hy)) (rows_rep _ rfl)) (rows_rep _ rfl)
      have e3 : i + ((1 : Nat) : Int).toNat = i + 1 := by simp
      have hw3 : IntKind.i64.wrap ((i : Int) + ((1 : Nat) : Int)) = ((i + 1 : Nat) : Int) := by rw [wrap64_id (by omega) (by omega)]; omega
      refine ⟨⟨by omega, by omega, by omega, by omega⟩, ⟨by omega, hyr⟩, ?_⟩
      have e2 : ([x.sv].take (ms.length + 1 - i)) = [x.sv] := List.take_of_length_le (by simp; omega)
      simp only [e1, e2]
      generalize hzs : ys.take i ++ [x.sv] ++ ys.drop (i + [x.sv].length) = zs
      have hzl : zs.length = nc2 := by rw [← hzs]; simp; omega
      have hzr : ∀ y ∈ zs, y.length = 3 := by rw [← hzs]; exact rows_app (rows_app (fun y hy => hyr y (List.mem_of_mem_take hy)) (rows_one x)) (fun y hy => hyr y (List.mem_of_mem_drop hy))
      refine Tri.seq (Tri.vc ?_)
      simp only [c36_11, go_sem, Nat.reduceAdd, Nat.reduceSub, Nat.reduceMul, Nat.reduceLT, Nat.reduceLeDiff, Nat.reduceEqDiff, reduceIte, Nat.reduceBEq, reduceCtorEq, St.forget, vcD, nextD, stepE, hw3, slcSV, rowsOf, Nat.zero_add]
      refine ⟨⟨by omega, by omega, by omega, by omega⟩, ⟨by omega, by omega, by omega, by omega⟩, ⟨⟨by omega, hrows⟩, by omega, hzr⟩, by kernel_rfl, ?_⟩
      have hd : (xs.drop i).take (ms.length - i) = (ms.drop i).map Row.sv := by rw [← List.drop_take, htake, List.map_drop]
      have ht : xs.take i = (ms.take i).map Row.sv := by
        have : xs.take i = (xs.take ms.length).take i := by rw [List.take_take, Nat.min_eq_left hi]
        rw [this, htake, List.map_take]
      have hyt : ys.take i = (ms.take i).map Row.sv := by
        rw [← hys, List.append_assoc, List.take_append_of_le_length (by rw [hti]; exact Nat.le_refl _), List.take_take, Nat.min_self, ht]
      have hz1 : zs.take (i + 1) = (ms.take i).map Row.sv ++ [x.sv] := by
        rw [← hzs, hyt, List.take_append_of_le_length (by simp; omega), List.take_of_length_le (by simp; omega)]
      refine Tri.seq (Tri.vc ?_)
      simp only [c36_12, go_sem, Nat.reduceAdd, Nat.reduceSub, Nat.reduceMul, Nat.reduceLT, Nat.reduceLeDiff, Nat.reduceEqDiff, reduceIte, Nat.reduceBEq, reduceCtorEq]
      refine Tri.vc ?_
      simp only [go_sem, Nat.reduceAdd, Nat.reduceSub, Nat.reduceMul, Nat.reduceLT, Nat.reduceLeDiff, Nat.reduceEqDiff, reduceIte, Nat.reduceBEq, reduceCtorEq]
      have hdl : ((ms.drop i).map Row.sv).length = ms.length - i := by simp
      have e4 : ((ms.drop i).map Row.sv).take (ms.length + 1 - (i + 1)) = (ms.drop i).map Row.sv := List.take_of_length_le (by rw [hdl]; omega)
      rw [hd, e4, hz1, hdl]
      refine ins_ret (o := 140) (off := 0) (n := ms.length + 1) (cap := nc2) rfl rfl (by simp; omega) (rows_app (rows_app (rows_app (rows_map _) (rows_one x)) (rows_map _)) (fun y hy => hzr y (List.mem_of_mem_drop hy))) ?_
      rw [List.drop_zero, List.take_append_of_le_length (by simp; omega), List.take_of_length_le (by simp; omega)]
      simp
    · have hnc2 : ms.length + 1 ≤ nc := by simp at h; omega
      simp only [go_sem, Nat.reduceAdd, Nat.reduceSub, Nat.reduceMul, Nat.reduceLT, Nat.reduceLeDiff, Nat.reduceEqDiff, reduceIte, Nat.reduceBEq, reduceCtorEq]
      refine Tri.vc ?_
      simp only [go_sem, Nat.reduceAdd, Nat.reduceSub, Nat.reduceMul, Nat.reduceLT, Nat.reduceLeDiff, Nat.reduceEqDiff, reduceIte, Nat.reduceBEq, reduceCtorEq]
      refine Tri.seq (Tri.vc ?_)
      simp only [c36_13, go_sem, Nat.reduceAdd, Nat.reduceSub, Nat.reduceMul, Nat.reduceLT, Nat.reduceLeDiff, Nat.reduceEqDiff, reduceIte, Nat.reduceBEq, reduceCtorEq, slcSV, List.length_singleton, hw, Int.toNat_zero, Nat.add_zero, Nat.zero_add, Nat.sub_zero]
      have hw3 : IntKind.i64.wrap ((i : Int) + ((1 : Nat) : Int)) = ((i + 1 : Nat) : Int) := by rw [wrap64_id (by omega) (by omega)]; omega
      refine ⟨by omega, Tri.seq (Tri.seq (Tri.vc ?_))⟩
      simp only [c36_14, go_sem, Nat.reduceAdd, Nat.reduceSub, Nat.reduceMul, Nat.reduceLT, Nat.reduceLeDiff, Nat.reduceEqDiff, reduceIte, Nat.reduceBEq, reduceCtorEq, slcSV, hw3, Nat.zero_add]
      refine ⟨⟨by omega, by omega, by omega, by omega⟩, ⟨by simp, by omega, by omega, by omega⟩, ?_⟩
      refine Tri.cond (t := true) (by simp only [go_sem, Nat.reduceAdd, Nat.reduceSub, Nat.reduceMul, Nat.reduceLT, Nat.reduceLeDiff, Nat.reduceEqDiff, reduceIte, Nat.reduceBEq, reduceCtorEq]) (fun _ => ?_) (fun h => by cases h)
      simp only [go_sem, Nat.reduceAdd, Nat.reduceSub, Nat.reduceMul, Nat.reduceLT, Nat.reduceLeDiff, Nat.reduceEqDiff, reduceIte, Nat.reduceBEq, reduceCtorEq]
      refine Tri.seq (Tri.vc ?_)
      simp only [c36_15, go_sem, Nat.reduceAdd, Nat.reduceSub, Nat.reduceMul, Nat.reduceLT, Nat.reduceLeDiff, Nat.reduceEqDiff, reduceIte, Nat.reduceBEq, reduceCtorEq, St.forget, vcD, nextD, stepE, hw3, slcSV, rowsOf, Nat.zero_add]
      refine ⟨⟨by omega, by omega, by omega, by omega⟩, ⟨by omega, by omega, by omega, by omega⟩, ⟨⟨by omega, hrows⟩, by omega, hrows⟩, by kernel_rfl, ?_⟩
      have hd : (xs.drop i).take (ms.length - i) = (ms.drop i).map Row.sv := by rw [← List.drop_take, htake, List.map_drop]
      have ht : xs.take i = (ms.take i).map Row.sv := by
        have : xs.take i = (xs.take ms.length).take i := by rw [List.take_take, Nat.min_eq_left hi]
        rw [this, htake, List.map_take]
      have e5 : ((xs.drop i).take (ms.length + 1 - i)).take (ms.length + 1 - (i + 1)) = (ms.drop i).map Row.sv := by
        rw [List.take_take, ← hd]; congr 1; omega
      have hdl : ((ms.drop i).map Row.sv).length = ms.length - i := by simp
      rw [e5, hdl]
      generalize hws : xs.take (i + 1) ++ (ms.drop i).map Row.sv ++ xs.drop (i + 1 + (ms.length - i)) = ws
      have hwl : ws.length = nc := by rw [← hws]; simp; omega
      have hwr : ∀ y ∈ ws, y.length = 3 := by
        rw [← hws]; exact rows_app (rows_app (fun y hy => hrows y (List.mem_of_mem_take hy)) (rows_map _)) (fun y hy => hrows y (List.mem_of_mem_drop hy))
      have hw1 : ws.take i = (ms.take i).map Row.sv := by
        rw [← hws, List.append_assoc, List.take_append_of_le_length (by simp; omega), List.take_take, Nat.min_eq_left (by omega), ht]
      have hw2 : ws.drop (i + 1) = (ms.drop i).map Row.sv ++ xs.drop (i + 1 + (ms.length - i)) := by
        rw [← hws, List.append_assoc, List.drop_append_of_le_length (by simp; omega), List.drop_eq_nil_of_le (by simp; omega), List.nil_append]
      refine Tri.seq (Tri.vc ?_)
      simp only [c36_16, go_sem, Nat.reduceAdd, Nat.reduceSub, Nat.reduceMul, Nat.reduceLT, Nat.reduceLeDiff, Nat.reduceEqDiff, reduceIte, Nat.reduceBEq, reduceCtorEq, slcSV, rowsOf, Nat.zero_add, List.length_singleton]
      have e2 : ([x.sv].take (ms.length + 1 - i)) = [x.sv] := List.take_of_length_le (by simp; omega)
      rw [e2]
      refine ⟨⟨by omega, by omega, by omega, by omega⟩, ⟨by omega, hwr⟩, ?_⟩
      refine Tri.seq (Tri.vc ?_)
      simp only [c36_17, go_sem, Nat.reduceAdd, Nat.reduceSub, Nat.reduceMul, Nat.reduceLT, Nat.reduceLeDiff, Nat.reduceEqDiff, reduceIte, Nat.reduceBEq, reduceCtorEq]
      refine Tri.vc ?_
      simp only [go_sem, Nat.reduceAdd, Nat.reduceSub, Nat.reduceMul, Nat.reduceLT, Nat.reduceLeDiff, Nat.reduceEqDiff, reduceIte, Nat.reduceBEq, reduceCtorEq]
      refine ins_ret (o := 0) (off := 0) (n := ms.length + 1) (cap := nc) rfl rfl (by simp; omega) (rows_app (rows_app (fun y hy => hwr y (List.mem_of_mem_take hy)) (rows_one x)) (fun y hy => hwr y (List.mem_of_mem_drop hy))) ?_
      rw [hw1, hw2, List.drop_zero, ← List.append_assoc, List.take_append_of_le_length (by simp; omega), List.take_of_length_le (by simp; omega)]
      simp

theorem spec36e (x : Row) : Sy.Spec Try.prog 36 [.lst 3 [] .clip, .int .i64 0, .lst 3 [x.sv] .no] [] (insR [] 0 x) := by
  refine spec_tri [99] Try.func36 c36_ok (by kernel_rfl) Try.ntmps36 (rs := [.tmp 6]) Try.results36 (.inr ⟨rfl, by simp [namesL, SV.idsL, SV.toksL, SV.ids, SV.toks], by simp, by simp⟩) ?_
  simp only [c36]
  refine Tri.seq (Tri.vc ?_)
  simp only [c36_0, go_sem, Nat.reduceAdd, Nat.reduceSub, Nat.reduceMul, Nat.reduceLT, Nat.reduceLeDiff, Nat.reduceEqDiff, reduceIte, Nat.reduceBEq, reduceCtorEq, idx, List.zipIdx_nil]
  refine Tri.seq (Tri.vc ?_)
  simp only [c36_1, go_sem, Nat.reduceAdd, Nat.reduceSub, Nat.reduceMul, Nat.reduceLT, Nat.reduceLeDiff, Nat.reduceEqDiff, reduceIte, Nat.reduceBEq, reduceCtorEq, slcSV]
  refine ⟨by simp, Tri.seq (Tri.vc ?_)⟩
  simp only [c36_2, go_sem, Nat.reduceAdd, Nat.reduceSub, Nat.reduceMul, Nat.reduceLT, Nat.reduceLeDiff, Nat.reduceEqDiff, reduceIte, Nat.reduceBEq, reduceCtorEq]
  refine Tri.seq (Tri.vc ?_)
  simp only [c36_3, c36_4, go_sem, Nat.reduceAdd, Nat.reduceSub, Nat.reduceMul, Nat.reduceLT, Nat.reduceLeDiff, Nat.reduceEqDiff, reduceIte, Nat.reduceBEq, reduceCtorEq]
  refine ⟨fun h => by simp at h, fun _ => ?_⟩
  refine Tri.seq (Tri.vc ?_)
  simp only [c36_5, go_sem, Nat.reduceAdd, Nat.reduceSub, Nat.reduceMul, Nat.reduceLT, Nat.reduceLeDiff, Nat.reduceEqDiff, reduceIte, Nat.reduceBEq, reduceCtorEq]
  refine Tri.seq (Tri.vc ?_)
  simp only [c36_6, c36_7, go_sem, Nat.reduceAdd, Nat.reduceSub, Nat.reduceMul, Nat.reduceLT, Nat.reduceLeDiff, Nat.reduceEqDiff, reduceIte, Nat.reduceBEq, reduceCtorEq, rowsOf, appP, capOf]
  refine ⟨fun _ nc2 hnc2 => ?_, fun h => by simp at h⟩
  simp only [growE, go_sem, Nat.reduceAdd, Nat.reduceSub, Nat.reduceMul, Nat.reduceLT, Nat.reduceLeDiff, Nat.reduceEqDiff, reduceIte, Nat.reduceBEq, reduceCtorEq] at hnc2 ⊢
  refine ins_ret (o := 125) (off := 0) (n := 0 + 1) (cap := nc2) rfl rfl (by simp) (rows_app (rows_one x) (rows_rep _ rfl)) ?_
  simp
end Go.Proofs.Ytghggnfomlibjaa.Vc
