/-
  Searching the holds; who is held.
-/
import Derived.Test.YtghggnfomlibjaaVA
set_option maxRecDepth 100000
set_option linter.unusedSimpArgs false
namespace Go.Proofs.Ytghggnfomlibjaa.Vc
open Go.Sy
attribute [local go_sem] List.length_cons List.length_nil List.replicate List.cons_append List.nil_append List.append_nil vc vo_nil vo_call vo_gcall vo_mov vo_pick vo_new vo_box vo_build vo_lit vo_litB vo_load vo_store vo_nchk vo_bin vo_beq vo_un vo_toInt vo_toStr vo_s2b vo_b2s vo_mkfn vo_mk vo_mkB vo_slcS vo_slcL vo_slcA vo_faddr vo_fld vo_iaddrL vo_iaddrA vo_idxA vo_idxS vo_ext vo_len vo_lenC vo_cap vo_app vo_appM vo_eqS vo_isnil vo_ovl vo_cpy vo_mini vo_maxi stepSI sym eff val loadSV storeE mkLoad St.app St.wr St.ev St.get St.put St.look St.setO Sy.setO St.know St.purge St.addO List.lookup beq_self_eq_true List.getD_eq_getElem?_getD List.getElem?_cons_zero List.getElem?_cons_succ List.getElem?_nil Option.getD_some Option.getD_none List.set_cons_zero List.set_cons_succ thenS blockS binSV ibin cmpSV unSV lenSV SV.num data_int data_bool data_u8 data_str data_byt data_lst data_pp data_nilp isd_int isd_bool isd_u8 isd_str isd_byt isd_lst isd_pp cel_int cel_bool cel_u8 cel_str cel_byt cel_lst cel_psl cel_pp cel_ptr cel_agg def_int def_bool def_u8 def_str def_byt def_lst def_psl def_pp def_ptr def_agg one_int one_bool one_u8 one_str one_byt one_lst one_psl one_pp one_ptr fillSV rows optI true_and and_true true_implies false_implies implies_true not_true_eq_false not_false_eq_true and_self decide_eq_true_eq decide_eq_false_iff_not Option.map_some bodyQ bodyF resV oneSV SV.strip SV.stripL SV.purge SV.purgeL SObj.purge purgeO dropT Tok.purge setCells List.take_succ_cons List.take_zero List.take_nil List.drop_zero List.drop_succ_cons List.drop_nil List.map_cons List.map_nil List.flatten_cons List.flatten_nil List.contains_nil List.contains_cons Bool.or_false Bool.true_or Bool.or_true Bool.false_or Bool.false_eq_true Bool.true_eq_false Bool.not_true Bool.not_false Bool.not_eq_true Bool.not_eq_false SOp.args Option.isNone_none Option.isNone_some Option.isSome_none Option.isSome_some Int.toNat_natCast List.all_cons List.all_nil Bool.and_self Bool.and_true Bool.true_and

theorem spec52 (r : Row) (b : Int) : Sy.Fn Try.prog 52 [.agg [.int .i64 r.m, r.u, r.v], .int .i64 b] (.int .i64 (cmpI r.m b)) := by
  refine fn_of Try.func52 c52_ok (by kernel_rfl) Try.ntmps52 (rs := [.tmp 4]) Try.results52 rfl ?_
  simp only [c52_0, c52_1, c52, go_sem, Nat.reduceAdd, Nat.reduceSub, Nat.reduceMul, Nat.reduceLT, Nat.reduceLeDiff, Nat.reduceEqDiff, reduceIte, Nat.reduceBEq, reduceCtorEq]
  refine call_fn (spec47 r.m b) rfl rfl rfl rfl rfl ?_
  simp only [later, go_sem, Nat.reduceAdd, Nat.reduceSub, Nat.reduceMul, Nat.reduceLT, Nat.reduceLeDiff, Nat.reduceEqDiff, reduceIte, Nat.reduceBEq, reduceCtorEq]

def st51 (ms : List Row) (m : Int) (q : Nat × Nat) : St :=
  ⟨[rowsSV ms, .int .i64 m, .fn 52 [] [], .undef, .undef, .undef, .undef, .undef, .int .i64 ms.length, .int .i64 q.1, .int .i64 q.2] ++ List.replicate 38 .undef, [], []⟩
def inv51 (ms : List Row) (m : Int) (q : Nat × Nat) : Prop :=
  q.1 ≤ q.2 ∧ q.2 ≤ ms.length ∧ (∀ i (h : i < ms.length), i < q.1 → ms[i].m < m) ∧ (∀ i (h : i < ms.length), q.2 ≤ i → ¬ ms[i].m < m)

theorem spec51 (ms : List Row) (hs : Sorted ms) (hl : ms.length ≤ 1000000000) (m : Int) : Sy.Fn Try.prog 51 [rowsSV ms, .int .i64 m, .fn 52 [] []]
    (.tup [.int .i64 (lb ms m), .bool (decide (lb ms m < ms.length ∧ (ms.map Row.m).getD (lb ms m) 0 = m))]) := by
  refine fn_tri Try.func51 c51_ok (by kernel_rfl) Try.ntmps51 (rs := [.tmp 6, .tmp 7]) Try.results51 rfl ?_
  simp only [c51]
  refine Tri.seq (Tri.vc ?_)
  simp only [c51_0, go_sem, Nat.reduceAdd, Nat.reduceSub, Nat.reduceMul, Nat.reduceLT, Nat.reduceLeDiff, Nat.reduceEqDiff, reduceIte, Nat.reduceBEq, reduceCtorEq, rowsSV]
  refine Tri.seq (Tri.vc ?_)
  simp only [c51_1, go_sem, Nat.reduceAdd, Nat.reduceSub, Nat.reduceMul, Nat.reduceLT, Nat.reduceLeDiff, Nat.reduceEqDiff, reduceIte, Nat.reduceBEq, reduceCtorEq, List.length_map]
  refine Tri.seq (Tri.vc ?_)
  simp only [c51_2, go_sem, Nat.reduceAdd, Nat.reduceSub, Nat.reduceMul, Nat.reduceLT, Nat.reduceLeDiff, Nat.reduceEqDiff, reduceIte, Nat.reduceBEq, reduceCtorEq]
  refine Tri.seq (Tri.block (Tri.loop (st51 ms m) (inv51 ms m) (fun q => q.2 - q.1) (0, ms.length) ⟨by omega, by omega, fun i h hi => by omega, fun i h hi => by omega⟩ (weak_of ?_ (by simp [st51]) (by simp [st51]) (by simp [st51])) ?_))
  · simp only [st51, go_sem, Nat.reduceAdd, Nat.reduceSub, Nat.reduceMul, Nat.reduceLT, Nat.reduceLeDiff, Nat.reduceEqDiff, reduceIte, Nat.reduceBEq, reduceCtorEq, tmLe, rowsSV, SVle.refl, SVle.undef, Int.natCast_zero]
  · rintro ⟨i, j⟩ ⟨h1, h2, h3, h4⟩
    simp only at h1 h2 h3 h4
    simp only [c51_8]
    refine Tri.seq (Tri.vc ?_)
    simp only [c51_3, st51, rowsSV, go_sem, Nat.reduceAdd, Nat.reduceSub, Nat.reduceMul, Nat.reduceLT, Nat.reduceLeDiff, Nat.reduceEqDiff, reduceIte, Nat.reduceBEq, reduceCtorEq]
    refine ⟨fun hij => ?_, fun hij => ?_⟩
    · refine Tri.block (Tri.seq (Tri.vc ?_))
      simp only [c51_4, go_sem, Nat.reduceAdd, Nat.reduceSub, Nat.reduceMul, Nat.reduceLT, Nat.reduceLeDiff, Nat.reduceEqDiff, reduceIte, Nat.reduceBEq, reduceCtorEq, toIntSV, ishift]
      first | rw [hmid i j (by omega)] | rw [hmid2 i j (by omega)]
      refine ⟨by decide, Tri.seq (Tri.vc ?_)⟩
      have hk1 : (i + j) / 2 < ms.length := by omega
      have hrow : (ms.map Row.sv)[(i + j) / 2]?.getD [] = ms[(i + j) / 2].sv := by simp [hk1]
      simp only [c51_5, go_sem, Nat.reduceAdd, Nat.reduceSub, Nat.reduceMul, Nat.reduceLT, Nat.reduceLeDiff, Nat.reduceEqDiff, reduceIte, Nat.reduceBEq, reduceCtorEq, List.length_map, hrow, Row.sv, Row.du, Row.dv]
      refine ⟨⟨by omega, by omega⟩, call_fn (spec52 ms[(i + j) / 2] m) (by simp only [go_sem, Nat.reduceAdd, Nat.reduceSub, Nat.reduceMul, Nat.reduceLT, Nat.reduceLeDiff, Nat.reduceEqDiff, reduceIte, Nat.reduceBEq, reduceCtorEq, Row.su, Row.s2]) (by simp only [SV.renL, SV.ren, Row.ru, Row.rv]) rfl rfl rfl ?_⟩
      simp only [later, go_sem, Nat.reduceAdd, Nat.reduceSub, Nat.reduceMul, Nat.reduceLT, Nat.reduceLeDiff, Nat.reduceEqDiff, reduceIte, Nat.reduceBEq, reduceCtorEq]
      refine Tri.vc ?_
      simp only [c51_6, c51_7, go_sem, Nat.reduceAdd, Nat.reduceSub, Nat.reduceMul, Nat.reduceLT, Nat.reduceLeDiff, Nat.reduceEqDiff, reduceIte, Nat.reduceBEq, reduceCtorEq]
      refine ⟨fun hc => ⟨((i + j) / 2 + 1, j), ⟨by simp only; omega, h2, fun k hk hlt => ?_, h4⟩, ?_, by simp only; omega⟩, fun hc => ⟨(i, (i + j) / 2), ⟨by simp only; omega, by simp only; omega, h3, fun k hk hle => ?_⟩, ?_, by simp only; omega⟩⟩
      · have hm : ms[(i + j) / 2].m < m := (cmp_lt _ _).1 hc
        rcases Nat.lt_or_ge k ((i + j) / 2) with h | h
        · have := List.pairwise_iff_getElem.1 hs k ((i + j) / 2) hk hk1 h
          omega
        · have : k = (i + j) / 2 := by simp only at hlt; omega
          subst this; exact hm
      · refine weak_of ?_ (by simp) (by simp) (by simp)
        rw [wrap64_id (by omega) (by omega)]
        simp only [tmLe, SVle.refl, SVle.undef, go_sem, Nat.reduceAdd, Nat.reduceSub, Nat.reduceMul, Nat.reduceLT, Nat.reduceLeDiff, Nat.reduceEqDiff, reduceIte, Nat.reduceBEq, reduceCtorEq, Int.natCast_add, Int.natCast_one]
      · have hm : ¬ ms[(i + j) / 2].m < m := fun h => hc ((cmp_lt _ _).2 h)
        rcases Nat.lt_or_ge ((i + j) / 2) k with h | h
        · have := List.pairwise_iff_getElem.1 hs ((i + j) / 2) k hk1 hk h
          omega
        · have : k = (i + j) / 2 := by simp only at hle; omega
          subst this; exact hm
      · refine weak_of ?_ (by simp) (by simp) (by simp)
        simp only [tmLe, SVle.refl, SVle.undef, go_sem, Nat.reduceAdd, Nat.reduceSub, Nat.reduceMul, Nat.reduceLT, Nat.reduceLeDiff, Nat.reduceEqDiff, reduceIte, Nat.reduceBEq, reduceCtorEq]
    · have hij' : i = j := by omega
      subst hij'
      have hlb : lb ms m = i := lb_eq h2 h3 h4
      refine Tri.vc ?_
      simp only [c51_9, go_sem, Nat.reduceAdd, Nat.reduceSub, Nat.reduceMul, Nat.reduceLT, Nat.reduceLeDiff, Nat.reduceEqDiff, reduceIte, Nat.reduceBEq, reduceCtorEq, hlb, List.length_map]
      refine ⟨fun hlt => ?_, fun hge => ?_⟩
      · have hk : i < ms.length := by omega
        have hrow : (ms.map Row.sv)[i]?.getD [] = ms[i].sv := by simp [hk]
        simp only [hrow, Row.sv, go_sem, Nat.reduceAdd, Nat.reduceSub, Nat.reduceMul, Nat.reduceLT, Nat.reduceLeDiff, Nat.reduceEqDiff, reduceIte, Nat.reduceBEq, reduceCtorEq, Row.du, Row.dv]
        refine ⟨⟨by omega, by omega⟩, call_fn (spec52 ms[i] m) (by simp only [go_sem, Nat.reduceAdd, Nat.reduceSub, Nat.reduceMul, Nat.reduceLT, Nat.reduceLeDiff, Nat.reduceEqDiff, reduceIte, Nat.reduceBEq, reduceCtorEq, Row.su, Row.s2]) (by simp only [SV.renL, SV.ren, Row.ru, Row.rv]) rfl rfl rfl ?_⟩
        simp only [later, go_sem, Nat.reduceAdd, Nat.reduceSub, Nat.reduceMul, Nat.reduceLT, Nat.reduceLeDiff, Nat.reduceEqDiff, reduceIte, Nat.reduceBEq, reduceCtorEq]
        have hm := h4 i hk (Nat.le_refl _)
        have hg : (ms.map Row.m)[i]?.getD 0 = ms[i].m := by simp [hk]
        rw [hg]
        have e1 : (cmpI ms[i].m m = 0) = (ms[i].m = m) := propext (cmp_eq _ _)
        simp only [e1, hk, true_and]
      · have : ¬ i < ms.length := by omega
        simp [this]

theorem spec35 (ls hs : List Row) (hs1 : Sorted hs) (hl : hs.length ≤ 1000000000) (m : Int) : Sy.Fn Try.prog 35 [lsSV ls hs, .int .i64 m] (.tup [.int .i64 (lb hs m), .bool (hasM hs m)]) := by
  refine fn_of Try.func35 c35_ok (by kernel_rfl) Try.ntmps35 (rs := [.tmp 4, .tmp 5]) Try.results35 rfl ?_
  simp only [c35_0, c35_1, c35, lsSV, rowsSV, go_sem, Nat.reduceAdd, Nat.reduceSub, Nat.reduceMul, Nat.reduceLT, Nat.reduceLeDiff, Nat.reduceEqDiff, reduceIte, Nat.reduceBEq, reduceCtorEq]
  refine call_fn (spec51 hs hs1 hl m) (by simp only [rowsSV, go_sem, Nat.reduceAdd, Nat.reduceSub, Nat.reduceMul, Nat.reduceLT, Nat.reduceLeDiff, Nat.reduceEqDiff, reduceIte, Nat.reduceBEq, reduceCtorEq]) (by simp only [rowsSV, SV.renL, SV.ren, Tok.ren]) rfl rfl rfl ?_
  simp only [later, go_sem, Nat.reduceAdd, Nat.reduceSub, Nat.reduceMul, Nat.reduceLT, Nat.reduceLeDiff, Nat.reduceEqDiff, reduceIte, Nat.reduceBEq, reduceCtorEq, hasM]

theorem spec20 (ls hs : List Row) (hs1 : Sorted hs) (hl : hs.length ≤ 1000000000) (m : Int) : Sy.Fn Try.prog 20 [lsSV ls hs, .int .i64 m] (.bool (hasM hs m)) := by
  refine fn_of Try.func20 c20_ok (by kernel_rfl) Try.ntmps20 (rs := [.tmp 4]) Try.results20 rfl ?_
  simp only [c20_0, c20_1, c20_2, c20, lsSV, rowsSV, go_sem, Nat.reduceAdd, Nat.reduceSub, Nat.reduceMul, Nat.reduceLT, Nat.reduceLeDiff, Nat.reduceEqDiff, reduceIte, Nat.reduceBEq, reduceCtorEq]
  refine call_fn (spec35 ls hs hs1 hl m) (by simp only [lsSV, rowsSV, go_sem, Nat.reduceAdd, Nat.reduceSub, Nat.reduceMul, Nat.reduceLT, Nat.reduceLeDiff, Nat.reduceEqDiff, reduceIte, Nat.reduceBEq, reduceCtorEq]) (by simp only [lsSV, rowsSV, SV.renL, SV.ren, Tok.ren]) rfl rfl rfl ?_
  simp only [later, go_sem, Nat.reduceAdd, Nat.reduceSub, Nat.reduceMul, Nat.reduceLT, Nat.reduceLeDiff, Nat.reduceEqDiff, reduceIte, Nat.reduceBEq, reduceCtorEq]
end Go.Proofs.Ytghggnfomlibjaa.Vc
