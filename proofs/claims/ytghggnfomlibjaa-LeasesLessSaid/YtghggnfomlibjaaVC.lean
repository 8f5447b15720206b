/-
  Copies of lists, and elements inserted.
-/
import Derived.Test.YtghggnfomlibjaaVB
set_option maxRecDepth 100000
set_option linter.unusedSimpArgs false
namespace Go.Proofs.Ytghggnfomlibjaa.Vc
open Go.Sy
attribute [local go_sem] List.length_cons List.length_nil List.replicate List.cons_append List.nil_append List.append_nil vc vo_nil vo_call vo_gcall vo_mov vo_pick vo_new vo_box vo_build vo_lit vo_litB vo_load vo_store vo_nchk vo_bin vo_beq vo_un vo_toInt vo_toStr vo_s2b vo_b2s vo_mkfn vo_mk vo_mkB vo_slcS vo_slcL vo_slcA vo_faddr vo_fld vo_iaddrL vo_iaddrA vo_idxA vo_idxS vo_ext vo_len vo_lenC vo_cap vo_app vo_appM vo_eqS vo_isnil vo_ovl vo_cpy vo_mini vo_maxi stepSI sym eff val loadSV storeE mkLoad St.app St.wr St.ev St.get St.put St.look St.setO Sy.setO St.know St.purge St.addO List.lookup beq_self_eq_true List.getD_eq_getElem?_getD List.getElem?_cons_zero List.getElem?_cons_succ List.getElem?_nil Option.getD_some Option.getD_none List.set_cons_zero List.set_cons_succ thenS blockS binSV ibin cmpSV unSV lenSV SV.num data_int data_bool data_u8 data_str data_byt data_lst data_pp data_nilp isd_int isd_bool isd_u8 isd_str isd_byt isd_lst isd_pp cel_int cel_bool cel_u8 cel_str cel_byt cel_lst cel_psl cel_pp cel_ptr cel_agg def_int def_bool def_u8 def_str def_byt def_lst def_psl def_pp def_ptr def_agg one_int one_bool one_u8 one_str one_byt one_lst one_psl one_pp one_ptr fillSV rows optI true_and and_true true_implies false_implies implies_true not_true_eq_false not_false_eq_true and_self decide_eq_true_eq decide_eq_false_iff_not Option.map_some bodyQ bodyF resV oneSV SV.strip SV.stripL SV.purge SV.purgeL SObj.purge purgeO dropT Tok.purge setCells List.take_succ_cons List.take_zero List.take_nil List.drop_zero List.drop_succ_cons List.drop_nil List.map_cons List.map_nil List.flatten_cons List.flatten_nil List.contains_nil List.contains_cons Bool.or_false Bool.true_or Bool.or_true Bool.false_or Bool.false_eq_true Bool.true_eq_false Bool.not_true Bool.not_false Bool.not_eq_true Bool.not_eq_false SOp.args Option.isNone_none Option.isNone_some Option.isSome_none Option.isSome_some Int.toNat_natCast List.all_cons List.all_nil Bool.and_self Bool.and_true Bool.true_and

def zL : List SV := [.int .i64 0, .int .i64 0, .lst 1 [] .clip]
/-- A copy: nothing, or rows of the caller's own. -/
def copyR (z : List SV) (ms : List Row) (r : SV) (os : List (Nat × SObj)) : Prop :=
  (ms = [] ∧ r = .lst 3 [] .clip ∧ os = []) ∨ (ms ≠ [] ∧ ∃ nc, ms.length ≤ nc ∧ r = .psl 107 3 0 ms.length nc ∧ os = [(107, .arr 3 (ms.map Row.sv ++ List.replicate (nc - ms.length) z))])

theorem spec32 (ms : List Row) (hl : ms.length ≤ 1000000000) : Sy.Spec Try.prog 32 [rowsSV ms] [] (copyR zL ms) := by
  refine spec_tri [99] Try.func32 c32_ok (by kernel_rfl) Try.ntmps32 (rs := [.tmp 2]) Try.results32 (.inr ⟨rfl, by simp [namesL, rowsSV, SV.idsL, SV.toksL, SV.ids, SV.toks], by simp, by simp⟩) (Tri.vc ?_)
  simp only [c32_0, c32_1, c32_2, c32_3, c32, rowsSV, go_sem, Nat.reduceAdd, Nat.reduceSub, Nat.reduceMul, Nat.reduceLT, Nat.reduceLeDiff, Nat.reduceEqDiff, reduceIte, Nat.reduceBEq, reduceCtorEq, idx, List.zipIdx_nil, rowsOf, appP, capOf, List.length_map]
  intro b hb
  refine ⟨fun hb1 => ?_, fun hb1 => ?_⟩
  · have hb2 : b = true := by cases b <;> simp at hb1 ⊢
    have hm : ms = [] := by simpa using hb hb2
    exact ⟨_, Weak.refl _, .lst 3 [] .clip, [], by simp only [go_sem, Nat.reduceAdd, Nat.reduceSub, Nat.reduceMul, Nat.reduceLT, Nat.reduceLeDiff, Nat.reduceEqDiff, reduceIte, Nat.reduceBEq, reduceCtorEq]; exact SVle.refl _, by simp, by simp, by simp [SV.toks], .inl ⟨hm, rfl, rfl⟩⟩
  · refine ⟨by omega, fun h0 => ?_, fun h0 nc hnc => ?_⟩
    · have hm : ms = [] := List.length_eq_zero_iff.1 (by omega)
      simp only [fitP, go_sem, Nat.reduceAdd, Nat.reduceSub, Nat.reduceMul, Nat.reduceLT, Nat.reduceLeDiff, Nat.reduceEqDiff, reduceIte, Nat.reduceBEq, reduceCtorEq]
      exact ⟨_, Weak.refl _, .lst 3 [] .clip, [], by simp only [go_sem, Nat.reduceAdd, Nat.reduceSub, Nat.reduceMul, Nat.reduceLT, Nat.reduceLeDiff, Nat.reduceEqDiff, reduceIte, Nat.reduceBEq, reduceCtorEq]; exact SVle.refl _, by simp, by simp, by simp [SV.toks], .inl ⟨hm, rfl, rfl⟩⟩
    · have hm : ms ≠ [] := by rintro rfl; simp at h0
      simp only [growE, go_sem, Nat.reduceAdd, Nat.reduceSub, Nat.reduceMul, Nat.reduceLT, Nat.reduceLeDiff, Nat.reduceEqDiff, reduceIte, Nat.reduceBEq, reduceCtorEq, List.length_map, Nat.zero_add] at hnc ⊢
      refine ⟨_, Weak.refl _, .psl 107 3 0 ms.length nc, [(107, .arr 3 (ms.map Row.sv ++ List.replicate (nc - ms.length) zL))], ?_, ?_, ?_, by simp [SV.toks], .inr ⟨hm, nc, hnc, rfl, rfl⟩⟩
      · simp only [go_sem, Nat.reduceAdd, Nat.reduceSub, Nat.reduceMul, Nat.reduceLT, Nat.reduceLeDiff, Nat.reduceEqDiff, reduceIte, Nat.reduceBEq, reduceCtorEq]; exact SVle.refl _
      · simp [zL]
      · simp
end Go.Proofs.Ytghggnfomlibjaa.Vc
