/-
  A hold put on a machine.
-/
import Derived.Test.YtghggnfomlibjaaVF
set_option maxRecDepth 100000
set_option linter.unusedSimpArgs false
namespace Go.Proofs.Ytghggnfomlibjaa.Vc
open Go.Sy
attribute [local go_sem] List.length_cons List.length_nil List.replicate List.cons_append List.nil_append List.append_nil vc vo_nil vo_call vo_gcall vo_mov vo_pick vo_new vo_box vo_build vo_lit vo_litB vo_load vo_store vo_nchk vo_bin vo_beq vo_un vo_toInt vo_toStr vo_s2b vo_b2s vo_mkfn vo_mk vo_mkB vo_slcS vo_slcL vo_slcA vo_faddr vo_fld vo_iaddrL vo_iaddrA vo_idxA vo_idxS vo_ext vo_len vo_lenC vo_cap vo_app vo_appM vo_eqS vo_isnil vo_ovl vo_cpy vo_mini vo_maxi stepSI sym eff val loadSV storeE mkLoad St.app St.wr St.ev St.get St.put St.look St.setO Sy.setO St.know St.purge St.addO List.lookup beq_self_eq_true List.getD_eq_getElem?_getD List.getElem?_cons_zero List.getElem?_cons_succ List.getElem?_nil Option.getD_some Option.getD_none List.set_cons_zero List.set_cons_succ thenS blockS binSV ibin cmpSV unSV lenSV SV.num data_int data_bool data_u8 data_str data_byt data_lst data_pp data_nilp isd_int isd_bool isd_u8 isd_str isd_byt isd_lst isd_pp cel_int cel_bool cel_u8 cel_str cel_byt cel_lst cel_psl cel_pp cel_ptr cel_agg def_int def_bool def_u8 def_str def_byt def_lst def_psl def_pp def_ptr def_agg one_int one_bool one_u8 one_str one_byt one_lst one_psl one_pp one_ptr fillSV rows optI true_and and_true true_implies false_implies implies_true not_true_eq_false not_false_eq_true and_self decide_eq_true_eq decide_eq_false_iff_not Option.map_some bodyQ bodyF resV oneSV SV.strip SV.stripL SV.purge SV.purgeL SObj.purge purgeO dropT Tok.purge setCells List.take_succ_cons List.take_zero List.take_nil List.drop_zero List.drop_succ_cons List.drop_nil List.map_cons List.map_nil List.flatten_cons List.flatten_nil List.contains_nil List.contains_cons Bool.or_false Bool.true_or Bool.or_true Bool.false_or Bool.false_eq_true Bool.true_eq_false Bool.not_true Bool.not_false Bool.not_eq_true Bool.not_eq_false SOp.args Option.isNone_none Option.isNone_some Option.isSome_none Option.isSome_some Int.toNat_natCast List.all_cons List.all_nil Bool.and_self Bool.and_true Bool.true_and

def delR (ms : List Row) (i : Nat) (r : SV) (os : List (Nat × SObj)) : Prop := r = rowsSV (ms.take i ++ ms.drop (i + 1)) ∧ os = []
theorem spec38 (ms : List Row) (hl : ms.length ≤ 1000000000) (i : Nat) (hi : i < ms.length) : Sy.Spec Try.prog 38 [rowsSV ms, .int .i64 i] [] (delR ms i) := by
  refine spec_tri [99] Try.func38 c38_ok (by kernel_rfl) Try.ntmps38 (rs := [.tmp 4]) Try.results38 (.inr ⟨rfl, by simp [namesL, rowsSV, SV.idsL, SV.toksL, SV.ids, SV.toks], by simp, by simp⟩) (Tri.vc ?_)
  have hw : IntKind.i64.wrap ((i : Int) + 1) = ((i + 1 : Nat) : Int) := by rw [wrap64_id (by omega) (by omega)]; omega
  have e1 : ∀ n : Nat, (Int.toNat ((n : Nat) : Int)) = n := fun n => Int.toNat_natCast n
  have e2 : (ms.map Row.sv).take ms.length = ms.map Row.sv := List.take_of_length_le (by simp)
  simp only [c38_0, c38_1, c38, rowsSV, go_sem, Nat.reduceAdd, Nat.reduceSub, Nat.reduceMul, Nat.reduceLT, Nat.reduceLeDiff, Nat.reduceEqDiff, reduceIte, Nat.reduceBEq, reduceCtorEq, idx, List.zipIdx_nil, St.forget, vcD, nextD, stepE, rowsOf, appP, capOf, slcSV, List.length_map, slcTok, hw, e1, e2, St.grew, Tok.ready, Int.toNat_zero, List.drop_zero]
  have hl1 : (List.take i (ms.map Row.sv)).length + (List.drop (i + 1) (ms.map Row.sv)).length ≤ ms.length := by
    simp only [List.length_take, List.length_drop, List.length_map]; omega
  refine ⟨by omega, by omega, by omega, by kernel_rfl, ?_⟩
  refine ⟨_, Weak.refl _, rowsSV (ms.take i ++ ms.drop (i + 1)), [], ?_, by simp, by simp, by simp [rowsSV, SV.toks], rfl, rfl⟩
  simp only [go_sem, Nat.reduceAdd, Nat.reduceSub, Nat.reduceMul, Nat.reduceLT, Nat.reduceLeDiff, Nat.reduceEqDiff, reduceIte, Nat.reduceBEq, reduceCtorEq, rowsSV, List.map_append, List.map_take, List.map_drop]
  exact SVle.lst _ _ _

def newH (m r s : Int) : Row := ⟨m, .int .i64 r, .int .i64 s, ⟨rfl, rfl⟩, ⟨rfl, rfl⟩⟩
def dropL (ls : List Row) (m : Int) : List Row := if hasM ls m = true then ls.take (lb ls m) ++ ls.drop (lb ls m + 1) else ls
def holdI (ls hs : List Row) (m r s : Int) : SV :=
  if hasM hs m = true then lsSV ls hs else if ¬ (1 ≤ m ∧ m ≤ 4) then lsSV ls hs else lsSV (dropL ls m) (hs.take (lb hs m) ++ [newH m r s] ++ hs.drop (lb hs m))

theorem spec18 (ls hs : List Row) (h1 : Sorted ls) (h2 : Sorted hs) (l1 : ls.length ≤ 1000000) (l2 : hs.length ≤ 1000000) (m r s : Int) :
    Sy.Fn Try.prog 18 [lsSV ls hs, .int .i64 m, .int .i64 r, .int .i64 s] (holdI ls hs m r s) := by
  refine spec_end [] Try.func18 c18_ok (by kernel_rfl) Try.ntmps18 (rs := [.cell 8 27]) Try.results18 (.inl rfl) ?_
  have z27 : szOf Try.prog 27 = some 2 := by kernel_rfl
  have a27 : isAg Try.prog 27 = some true := by kernel_rfl
  simp only [c18]
  refine Tri.seq (Tri.vc ?_)
  simp only [c18_0, lsSV, rowsSV, go_sem, Nat.reduceAdd, Nat.reduceSub, Nat.reduceMul, Nat.reduceLT, Nat.reduceLeDiff, Nat.reduceEqDiff, reduceIte, Nat.reduceBEq, reduceCtorEq, idx, List.zipIdx_nil]
  refine Tri.seq (Tri.vc ?_)
  simp only [c18_1, go_sem, Nat.reduceAdd, Nat.reduceSub, Nat.reduceMul, Nat.reduceLT, Nat.reduceLeDiff, Nat.reduceEqDiff, reduceIte, Nat.reduceBEq, reduceCtorEq]
  refine call_fn (spec35 ls hs h2 (by omega) m) (by simp only [lsSV, rowsSV, go_sem, Nat.reduceAdd, Nat.reduceSub, Nat.reduceMul, Nat.reduceLT, Nat.reduceLeDiff, Nat.reduceEqDiff, reduceIte, Nat.reduceBEq, reduceCtorEq]) (by simp only [lsSV, rowsSV, SV.renL, SV.ren, Tok.ren]) rfl rfl rfl ?_
  simp only [later, go_sem, Nat.reduceAdd, Nat.reduceSub, Nat.reduceMul, Nat.reduceLT, Nat.reduceLeDiff, Nat.reduceEqDiff, reduceIte, Nat.reduceBEq, reduceCtorEq]
  refine Tri.seq (Tri.seq (Tri.vc ?_))
  simp only [c18_2, go_sem, Nat.reduceAdd, Nat.reduceSub, Nat.reduceMul, Nat.reduceLT, Nat.reduceLeDiff, Nat.reduceEqDiff, reduceIte, Nat.reduceBEq, reduceCtorEq]
  have back : ∀ b : Bool, b = true → lsSV ls hs = holdI ls hs m r s → Tri Try.prog (SCode.cond (Arg.t 24) ((SCode.ops c18_3).seq SCode.ret) SCode.skip)
      (thenS (Tri Try.prog ((SCode.ops c18_4).seq (((SCode.ops c18_5).seq ((SCode.ops c18_6).seq (SCode.cond (Arg.t 43) (SCode.ops c18_7) SCode.skip))).seq ((SCode.ops c18_8).seq SCode.ret)))
        (endQ Try.prog [ResultVar.cell 8 27] fun r' os' => r' = holdI ls hs m r s ∧ os' = [])) (endQ Try.prog [ResultVar.cell 8 27] fun r' os' => r' = holdI ls hs m r s ∧ os' = []))
      ⟨[.undef, .undef, .undef, .undef, .ptr 104 0, .undef, .undef, .undef, .ptr 108 0] ++ List.replicate 15 .undef ++ [.bool b] ++ List.replicate 25 .undef,
        [(108, .rc [.lst 3 [] .clip, .lst 3 [] .clip]), (104, .rc [.lst 3 (ls.map Row.sv) .no, .lst 3 (hs.map Row.sv) .no])], []⟩ := by
    rintro b rfl he
    simp only [go_sem, Nat.reduceAdd, Nat.reduceSub, Nat.reduceMul, Nat.reduceLT, Nat.reduceLeDiff, Nat.reduceEqDiff, reduceIte, Nat.reduceBEq, reduceCtorEq]
    refine Tri.cond (t := true) (by simp only [go_sem, Nat.reduceAdd, Nat.reduceSub, Nat.reduceMul, Nat.reduceLT, Nat.reduceLeDiff, Nat.reduceEqDiff, reduceIte, Nat.reduceBEq, reduceCtorEq]) (fun _ => ?_) (fun h => by cases h)
    refine Tri.vc ?_
    simp only [c18_3, go_sem, Nat.reduceAdd, Nat.reduceSub, Nat.reduceMul, Nat.reduceLT, Nat.reduceLeDiff, Nat.reduceEqDiff, reduceIte, Nat.reduceBEq, reduceCtorEq, List.length_append]
    rw [← he]
    refine end_fn rfl ?_
    simp only [z27, a27, go_sem, Nat.reduceAdd, Nat.reduceSub, Nat.reduceMul, Nat.reduceLT, Nat.reduceLeDiff, Nat.reduceEqDiff, reduceIte, Nat.reduceBEq, reduceCtorEq, lsSV, rowsSV]
  refine ⟨fun hq => ?_, fun hq => ?_⟩
  · refine call_fn (spec30 m) rfl rfl rfl rfl rfl ?_
    simp only [later, go_sem, Nat.reduceAdd, Nat.reduceSub, Nat.reduceMul, Nat.reduceLT, Nat.reduceLeDiff, Nat.reduceEqDiff, reduceIte, Nat.reduceBEq, reduceCtorEq]
    cases hm : decide (1 ≤ m ∧ m ≤ 4) with
    | false =>
      have hm' : ¬ (1 ≤ m ∧ m ≤ 4) := by simpa using hm
      simp only [go_sem, Nat.reduceAdd, Nat.reduceSub, Nat.reduceMul, Nat.reduceLT, Nat.reduceLeDiff, Nat.reduceEqDiff, reduceIte, Nat.reduceBEq, reduceCtorEq]
      refine (back true rfl (by unfold holdI; rw [if_neg (by rw [hq]; simp), if_pos hm'])).weak (weak_of ?_ (by simp) (by simp) (by simp))
      simp only [tmLe, SVle.refl, SVle.undef, go_sem, Nat.reduceAdd, Nat.reduceSub, Nat.reduceMul, Nat.reduceLT, Nat.reduceLeDiff, Nat.reduceEqDiff, reduceIte, Nat.reduceBEq, reduceCtorEq]
    | true =>
      have hm' : 1 ≤ m ∧ m ≤ 4 := by simpa using hm
      have hgr : holdI ls hs m r s = lsSV (dropL ls m) (hs.take (lb hs m) ++ [newH m r s] ++ hs.drop (lb hs m)) := by
        unfold holdI; rw [if_neg (by rw [hq]; simp), if_neg (fun h => h hm')]
      rw [hgr]
      simp only [go_sem, Nat.reduceAdd, Nat.reduceSub, Nat.reduceMul, Nat.reduceLT, Nat.reduceLeDiff, Nat.reduceEqDiff, reduceIte, Nat.reduceBEq, reduceCtorEq]
      refine Tri.cond (t := false) (by simp only [go_sem, Nat.reduceAdd, Nat.reduceSub, Nat.reduceMul, Nat.reduceLT, Nat.reduceLeDiff, Nat.reduceEqDiff, reduceIte, Nat.reduceBEq, reduceCtorEq]) (fun h => by cases h) (fun _ => ?_)
      refine Tri.vc ?_
      simp only [go_sem, Nat.reduceAdd, Nat.reduceSub, Nat.reduceMul, Nat.reduceLT, Nat.reduceLeDiff, Nat.reduceEqDiff, reduceIte, Nat.reduceBEq, reduceCtorEq]
      generalize hH : hs.take (lb hs m) ++ [newH m r s] ++ hs.drop (lb hs m) = H
      have last : ∀ L : List Row, L = dropL ls m → Tri Try.prog ((SCode.ops c18_8).seq SCode.ret) (endQ Try.prog [ResultVar.cell 8 27] fun r' os' => r' = lsSV (dropL ls m) H ∧ os' = [])
          ⟨[.undef, .undef, .undef, .undef, .ptr 104 0, .undef, .undef, .undef, .ptr 108 0] ++ List.replicate 41 .undef, [(108, .rc [.lst 3 [] .clip, .lst 3 [] .clip]), (104, .rc [.lst 3 (L.map Row.sv) .no, .lst 3 (H.map Row.sv) .no])], []⟩ := by
        rintro L rfl
        simp only [go_sem, Nat.reduceAdd, Nat.reduceSub, Nat.reduceMul, Nat.reduceLT, Nat.reduceLeDiff, Nat.reduceEqDiff, reduceIte, Nat.reduceBEq, reduceCtorEq]
        refine Tri.seq (Tri.vc ?_)
        simp only [c18_8, go_sem, Nat.reduceAdd, Nat.reduceSub, Nat.reduceMul, Nat.reduceLT, Nat.reduceLeDiff, Nat.reduceEqDiff, reduceIte, Nat.reduceBEq, reduceCtorEq]
        refine Tri.vc ?_
        simp only [go_sem, Nat.reduceAdd, Nat.reduceSub, Nat.reduceMul, Nat.reduceLT, Nat.reduceLeDiff, Nat.reduceEqDiff, reduceIte, Nat.reduceBEq, reduceCtorEq]
        refine end_fn rfl ?_
        simp only [z27, a27, go_sem, Nat.reduceAdd, Nat.reduceSub, Nat.reduceMul, Nat.reduceLT, Nat.reduceLeDiff, Nat.reduceEqDiff, reduceIte, Nat.reduceBEq, reduceCtorEq, lsSV, rowsSV]
      have tail : Tri Try.prog (((SCode.ops c18_5).seq ((SCode.ops c18_6).seq (SCode.cond (Arg.t 43) (SCode.ops c18_7) SCode.skip))).seq ((SCode.ops c18_8).seq SCode.ret)) (endQ Try.prog [ResultVar.cell 8 27] fun r' os' => r' = lsSV (dropL ls m) H ∧ os' = [])
          ⟨[.undef, .int .i64 m, .undef, .undef, .ptr 104 0, .undef, .undef, .undef, .ptr 108 0] ++ List.replicate 41 .undef, [(108, .rc [.lst 3 [] .clip, .lst 3 [] .clip]), (104, .rc [.lst 3 (ls.map Row.sv) .no, .lst 3 (H.map Row.sv) .no])], []⟩ := by
        simp only [go_sem, Nat.reduceAdd, Nat.reduceSub, Nat.reduceMul, Nat.reduceLT, Nat.reduceLeDiff, Nat.reduceEqDiff, reduceIte, Nat.reduceBEq, reduceCtorEq]
        refine Tri.seq (Tri.seq (Tri.vc ?_))
        simp only [c18_5, go_sem, Nat.reduceAdd, Nat.reduceSub, Nat.reduceMul, Nat.reduceLT, Nat.reduceLeDiff, Nat.reduceEqDiff, reduceIte, Nat.reduceBEq, reduceCtorEq]
        refine call_fn (spec31 ls H h1 (by omega) m) (by simp only [lsSV, rowsSV, go_sem, Nat.reduceAdd, Nat.reduceSub, Nat.reduceMul, Nat.reduceLT, Nat.reduceLeDiff, Nat.reduceEqDiff, reduceIte, Nat.reduceBEq, reduceCtorEq]) (by simp only [lsSV, rowsSV, SV.renL, SV.ren, Tok.ren]) rfl rfl rfl ?_
        simp only [later, go_sem, Nat.reduceAdd, Nat.reduceSub, Nat.reduceMul, Nat.reduceLT, Nat.reduceLeDiff, Nat.reduceEqDiff, reduceIte, Nat.reduceBEq, reduceCtorEq]
        refine Tri.seq (Tri.vc ?_)
        simp only [c18_6, go_sem, Nat.reduceAdd, Nat.reduceSub, Nat.reduceMul, Nat.reduceLT, Nat.reduceLeDiff, Nat.reduceEqDiff, reduceIte, Nat.reduceBEq, reduceCtorEq]
        cases hf : hasM ls m with
        | false =>
          refine Tri.cond (t := false) (by simp only [go_sem, Nat.reduceAdd, Nat.reduceSub, Nat.reduceMul, Nat.reduceLT, Nat.reduceLeDiff, Nat.reduceEqDiff, reduceIte, Nat.reduceBEq, reduceCtorEq]) (fun h => by cases h) (fun _ => ?_)
          refine Tri.vc ?_
          simp only [go_sem, Nat.reduceAdd, Nat.reduceSub, Nat.reduceMul, Nat.reduceLT, Nat.reduceLeDiff, Nat.reduceEqDiff, reduceIte, Nat.reduceBEq, reduceCtorEq]
          refine (last ls (by simp only [dropL, hf, Bool.false_eq_true, if_false])).weak (weak_of ?_ (by simp) (by simp) (by simp))
          simp only [tmLe, SVle.refl, SVle.undef, go_sem, Nat.reduceAdd, Nat.reduceSub, Nat.reduceMul, Nat.reduceLT, Nat.reduceLeDiff, Nat.reduceEqDiff, reduceIte, Nat.reduceBEq, reduceCtorEq]
        | true =>
          have hk : lb ls m < ls.length := by
            unfold hasM at hf
            rw [decide_eq_true_eq] at hf
            exact hf.1
          refine Tri.cond (t := true) (by simp only [go_sem, Nat.reduceAdd, Nat.reduceSub, Nat.reduceMul, Nat.reduceLT, Nat.reduceLeDiff, Nat.reduceEqDiff, reduceIte, Nat.reduceBEq, reduceCtorEq]) (fun _ => ?_) (fun h => by cases h)
          refine Tri.vc ?_
          simp only [c18_7, go_sem, Nat.reduceAdd, Nat.reduceSub, Nat.reduceMul, Nat.reduceLT, Nat.reduceLeDiff, Nat.reduceEqDiff, reduceIte, Nat.reduceBEq, reduceCtorEq]
          refine call_new (spec38 ls (by omega) (lb ls m) hk) (leL.refl _) (by simp only [rowsSV, SV.renL, SV.ren, Tok.ren]) (fun r' os' hR => ?_)
          obtain ⟨rfl, rfl⟩ := hR
          refine ⟨by simp [small, rowsSV, SV.ids, SV.toks], ?_⟩
          simp only [later, St.after, SV.ren, Tok.ren, renOs, dropOs, List.not_mem_nil, SV.toks, rowsSV, go_sem, Nat.reduceAdd, Nat.reduceSub, Nat.reduceMul, Nat.reduceLT, Nat.reduceLeDiff, Nat.reduceEqDiff, reduceIte, Nat.reduceBEq, reduceCtorEq]
          refine (last (ls.take (lb ls m) ++ ls.drop (lb ls m + 1)) (by simp only [dropL, hf, if_true])).weak (weak_of ?_ (by simp) (by simp) (by simp))
          simp only [tmLe, SVle.refl, SVle.undef, go_sem, Nat.reduceAdd, Nat.reduceSub, Nat.reduceMul, Nat.reduceLT, Nat.reduceLeDiff, Nat.reduceEqDiff, reduceIte, Nat.reduceBEq, reduceCtorEq]
      refine Tri.seq (Tri.vc ?_)
      simp only [c18_4, go_sem, Nat.reduceAdd, Nat.reduceSub, Nat.reduceMul, Nat.reduceLT, Nat.reduceLeDiff, Nat.reduceEqDiff, reduceIte, Nat.reduceBEq, reduceCtorEq]
      refine call_new (spec37 hs (by omega)) (leL.refl _) (by simp only [rowsSV, SV.renL, SV.ren, Tok.ren]) (fun r' os' hR => ?_)
      rcases hR with ⟨he, rfl, rfl⟩ | ⟨hne, nc, hnc, rfl, rfl⟩
      · refine ⟨by simp [small, SV.ids, SV.toks], ?_⟩
        simp only [later, St.after, SV.ren, Tok.ren, renOs, dropOs, List.not_mem_nil, SV.toks, go_sem, Nat.reduceAdd, Nat.reduceSub, Nat.reduceMul, Nat.reduceLT, Nat.reduceLeDiff, Nat.reduceEqDiff, reduceIte, Nat.reduceBEq, reduceCtorEq]
        subst he
        have hlb : lb [] m = 0 := rfl
        rw [hlb]
        refine call_new (spec36e (newH m r s)) (leL.cons (SVle.refl _) (leL.cons (SVle.refl _) (leL.cons (SVle.lst _ _ _) leL.nil))) (by simp only [SV.renL, SV.ren, Tok.ren]) (fun r' os' hR => ?_)
        obtain ⟨rfl, rfl⟩ := hR
        refine ⟨by simp [small, rowsSV, SV.ids, SV.toks], ?_⟩
        simp only [later, St.after, SV.ren, Tok.ren, renOs, dropOs, List.not_mem_nil, SV.toks, rowsSV, go_sem, Nat.reduceAdd, Nat.reduceSub, Nat.reduceMul, Nat.reduceLT, Nat.reduceLeDiff, Nat.reduceEqDiff, reduceIte, Nat.reduceBEq, reduceCtorEq]
        rw [hlb] at hH
        simp only [List.take_nil, List.drop_nil, List.nil_append, List.append_nil] at hH
        subst hH
        refine tail.weak (weak_of ?_ (by simp) (by simp) (by simp))
        simp only [tmLe, SVle.refl, SVle.undef, go_sem, Nat.reduceAdd, Nat.reduceSub, Nat.reduceMul, Nat.reduceLT, Nat.reduceLeDiff, Nat.reduceEqDiff, reduceIte, Nat.reduceBEq, reduceCtorEq]
      · refine ⟨by simp [small, SV.ids, SV.toks, SObj.ids, SObj.toks], ?_⟩
        simp only [later, St.after, SV.ren, SObj.ren, Tok.ren, renOs, renO, dropOs, List.not_mem_nil, SV.toks, go_sem, Nat.reduceAdd, Nat.reduceSub, Nat.reduceMul, Nat.reduceLT, Nat.reduceLeDiff, Nat.reduceEqDiff, reduceIte, Nat.reduceBEq, reduceCtorEq]
        generalize hxs : hs.map Row.sv ++ List.replicate (nc - hs.length) zH = xs
        refine call_one (o := 29107) (args' := [.psl 29107 3 0 hs.length nc, .int .i64 (lb hs m), .lst 3 [(newH m r s).sv] .no]) (spec36 hs (by omega) nc hnc (lb hs m) (lb_le hs m) (newH m r s)) (by simp only [SV.renL, SV.ren, Tok.ren]; rfl) (leL.cons (SVle.refl _) (leL.cons (SVle.refl _) (leL.cons (SVle.lst _ _ _) leL.nil))) (by rw [hxs]; rfl) rfl (fun r' os' hR => ?_)
        obtain ⟨rfl, rfl⟩ := hR
        refine ⟨by simp [small, rowsSV, SV.ids, SV.toks], ?_⟩
        simp only [later, St.after, SV.ren, Tok.ren, renOs, dropOs, List.not_mem_nil, List.mem_singleton, SV.toks, rowsSV, go_sem, Nat.reduceAdd, Nat.reduceSub, Nat.reduceMul, Nat.reduceLT, Nat.reduceLeDiff, Nat.reduceEqDiff, reduceIte, Nat.reduceBEq, reduceCtorEq]
        rw [hH]
        refine tail.weak (weak_of ?_ (by simp) (by simp) (by simp))
        simp only [tmLe, SVle.refl, SVle.undef, go_sem, Nat.reduceAdd, Nat.reduceSub, Nat.reduceMul, Nat.reduceLT, Nat.reduceLeDiff, Nat.reduceEqDiff, reduceIte, Nat.reduceBEq, reduceCtorEq]
  · refine (back true rfl (by unfold holdI; rw [if_pos hq])).weak (weak_of ?_ (by simp) (by simp) (by simp))
    simp only [tmLe, SVle.refl, SVle.undef, go_sem, Nat.reduceAdd, Nat.reduceSub, Nat.reduceMul, Nat.reduceLT, Nat.reduceLeDiff, Nat.reduceEqDiff, reduceIte, Nat.reduceBEq, reduceCtorEq]
end Go.Proofs.Ytghggnfomlibjaa.Vc
