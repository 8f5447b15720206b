/-
  A lease granted.
-/
import Derived.Test.YtghggnfomlibjaaVE
set_option maxRecDepth 100000
set_option linter.unusedSimpArgs false
namespace Go.Proofs.Ytghggnfomlibjaa.Vc
open Go.Sy
attribute [local go_sem] List.length_cons List.length_nil List.replicate List.cons_append List.nil_append List.append_nil vc vo_nil vo_call vo_gcall vo_mov vo_pick vo_new vo_box vo_build vo_lit vo_litB vo_load vo_store vo_nchk vo_bin vo_beq vo_un vo_toInt vo_toStr vo_s2b vo_b2s vo_mkfn vo_mk vo_mkB vo_slcS vo_slcL vo_slcA vo_faddr vo_fld vo_iaddrL vo_iaddrA vo_idxA vo_idxS vo_ext vo_len vo_lenC vo_cap vo_app vo_appM vo_eqS vo_isnil vo_ovl vo_cpy vo_mini vo_maxi stepSI sym eff val loadSV storeE mkLoad St.app St.wr St.ev St.get St.put St.look St.setO Sy.setO St.know St.purge St.addO List.lookup beq_self_eq_true List.getD_eq_getElem?_getD List.getElem?_cons_zero List.getElem?_cons_succ List.getElem?_nil Option.getD_some Option.getD_none List.set_cons_zero List.set_cons_succ thenS blockS binSV ibin cmpSV unSV lenSV SV.num data_int data_bool data_u8 data_str data_byt data_lst data_pp data_nilp isd_int isd_bool isd_u8 isd_str isd_byt isd_lst isd_pp cel_int cel_bool cel_u8 cel_str cel_byt cel_lst cel_psl cel_pp cel_ptr cel_agg def_int def_bool def_u8 def_str def_byt def_lst def_psl def_pp def_ptr def_agg one_int one_bool one_u8 one_str one_byt one_lst one_psl one_pp one_ptr fillSV rows optI true_and and_true true_implies false_implies implies_true not_true_eq_false not_false_eq_true and_self decide_eq_true_eq decide_eq_false_iff_not Option.map_some bodyQ bodyF resV oneSV SV.strip SV.stripL SV.purge SV.purgeL SObj.purge purgeO dropT Tok.purge setCells List.take_succ_cons List.take_zero List.take_nil List.drop_zero List.drop_succ_cons List.drop_nil List.map_cons List.map_nil List.flatten_cons List.flatten_nil List.contains_nil List.contains_cons Bool.or_false Bool.true_or Bool.or_true Bool.false_or Bool.false_eq_true Bool.true_eq_false Bool.not_true Bool.not_false Bool.not_eq_true Bool.not_eq_false SOp.args Option.isNone_none Option.isNone_some Option.isSome_none Option.isSome_some Int.toNat_natCast List.all_cons List.all_nil Bool.and_self Bool.and_true Bool.true_and

def grantL (ls : List Row) (x : Row) : List Row := if hasM ls x.m = true then ls.set (lb ls x.m) x else ls.take (lb ls x.m) ++ [x] ++ ls.drop (lb ls x.m)
def pairSV (v : SV) (e : Int) : SV := .tup [v, .int .i64 e]
def newL (m now : Int) (gs : List (List SV)) : Row := ⟨m, .int .i64 (now + 64), .lst 1 gs .no, ⟨rfl, rfl⟩, ⟨rfl, rfl⟩⟩
def grantI (ls hs : List Row) (m now : Int) (gs : List (List SV)) : SV :=
  if ¬ (1 ≤ m ∧ m ≤ 4) then pairSV (lsSV [] []) 49 else if now < 0 ∨ now > 1099511627776 then pairSV (lsSV [] []) 1 else if hasM hs m = true then pairSV (lsSV [] []) 48 else pairSV (lsSV (grantL ls (newL m now gs)) hs) 0

theorem lp_refl (o sz : Nat) (xs : List (List SV)) (a : SV) : leP o sz xs a a := leP.le (SVle.refl a)
theorem lb_le (ms : List Row) (m : Int) : lb ms m ≤ ms.length := by unfold lb; exact (List.takeWhile_sublist _).length_le
theorem spec13 (ls hs : List Row) (h1 : Sorted ls) (h2 : Sorted hs) (l1 : ls.length ≤ 1000000) (l2 : hs.length ≤ 1000000) (m now : Int) (gs : List (List SV)) :
    Sy.Fn Try.prog 13 [lsSV ls hs, .int .i64 m, .int .i64 now, .lst 1 gs .no] (grantI ls hs m now gs) := by
  refine spec_end [] Try.func13 c13_ok (by kernel_rfl) Try.ntmps13 (rs := [.cell 8 27, .tmp 9]) Try.results13 (.inl rfl) ?_
  simp only [c13]
  refine Tri.seq (Tri.vc ?_)
  simp only [c13_0, lsSV, rowsSV, go_sem, Nat.reduceAdd, Nat.reduceSub, Nat.reduceMul, Nat.reduceLT, Nat.reduceLeDiff, Nat.reduceEqDiff, reduceIte, Nat.reduceBEq, reduceCtorEq, idx, List.zipIdx_nil]
  refine Tri.seq (Tri.block (Tri.seq (Tri.vc ?_)))
  simp only [c13_1, go_sem, Nat.reduceAdd, Nat.reduceSub, Nat.reduceMul, Nat.reduceLT, Nat.reduceLeDiff, Nat.reduceEqDiff, reduceIte, Nat.reduceBEq, reduceCtorEq]
  refine call_fn (spec30 m) rfl rfl rfl rfl rfl ?_
  simp only [later, go_sem, Nat.reduceAdd, Nat.reduceSub, Nat.reduceMul, Nat.reduceLT, Nat.reduceLeDiff, Nat.reduceEqDiff, reduceIte, Nat.reduceBEq, reduceCtorEq]
  have z27 : szOf Try.prog 27 = some 2 := by kernel_rfl
  have a27 : isAg Try.prog 27 = some true := by kernel_rfl
  refine Tri.cond (t := !decide (1 ≤ m ∧ m ≤ 4)) (by simp only [go_sem, Nat.reduceAdd, Nat.reduceSub, Nat.reduceMul, Nat.reduceLT, Nat.reduceLeDiff, Nat.reduceEqDiff, reduceIte, Nat.reduceBEq, reduceCtorEq]) (fun hc => ?_) (fun hc => ?_)
  · have hm : ¬ (1 ≤ m ∧ m ≤ 4) := fun h => by simp [h] at hc
    refine Tri.vc ?_
    simp only [c13_2, go_sem, Nat.reduceAdd, Nat.reduceSub, Nat.reduceMul, Nat.reduceLT, Nat.reduceLeDiff, Nat.reduceEqDiff, reduceIte, Nat.reduceBEq, reduceCtorEq, List.length_append]
    refine end_fn (by simp only [grantI, if_pos hm]; rfl) ?_
    simp only [z27, a27, go_sem, Nat.reduceAdd, Nat.reduceSub, Nat.reduceMul, Nat.reduceLT, Nat.reduceLeDiff, Nat.reduceEqDiff, reduceIte, Nat.reduceBEq, reduceCtorEq, grantI, if_pos hm, pairSV, lsSV, rowsSV]
  · have hm : 1 ≤ m ∧ m ≤ 4 := by
      rw [Bool.not_eq_false', decide_eq_true_eq] at hc; exact hc
    simp only [go_sem, Nat.reduceAdd, Nat.reduceSub, Nat.reduceMul, Nat.reduceLT, Nat.reduceLeDiff, Nat.reduceEqDiff, reduceIte, Nat.reduceBEq, reduceCtorEq]
    refine Tri.seq (Tri.vc ?_)
    simp only [c13_3, go_sem, Nat.reduceAdd, Nat.reduceSub, Nat.reduceMul, Nat.reduceLT, Nat.reduceLeDiff, Nat.reduceEqDiff, reduceIte, Nat.reduceBEq, reduceCtorEq]
    have keep : ∀ b : Bool, (b = true ↔ now < 0 ∨ now > 1099511627776) → Tri Try.prog (SCode.cond (Arg.t 18) ((SCode.ops c13_4).seq SCode.ret) ((SCode.ops c13_5).seq (SCode.cond (Arg.t 26) ((SCode.ops c13_6).seq SCode.ret) SCode.skip)))
        (blockS 0 (thenS (Tri Try.prog ((SCode.ops c13_7).seq ((SCode.ops c13_8).seq ((SCode.ops c13_9).seq (((SCode.ops c13_10).seq (SCode.cond (Arg.t 46) (SCode.ops c13_11) (SCode.ops c13_12))).seq ((SCode.ops c13_13).seq SCode.ret)))))
          (endQ Try.prog [ResultVar.cell 8 27, ResultVar.tmp 9] fun r' os' => r' = grantI ls hs m now gs ∧ os' = [])) (endQ Try.prog [ResultVar.cell 8 27, ResultVar.tmp 9] fun r' os' => r' = grantI ls hs m now gs ∧ os' = [])))
        ⟨[.undef, .int .i64 m, .int .i64 now, .lst 1 gs .no, .ptr 104 0, .undef, .undef, .undef, .ptr 108 0, .int .i64 0, .undef, .undef, .undef, .undef, .undef, .undef, .undef, .undef, .bool b] ++ List.replicate 41 .undef,
          [(108, .rc [.lst 3 [] .clip, .lst 3 [] .clip]), (104, .rc [.lst 3 (ls.map Row.sv) .no, .lst 3 (hs.map Row.sv) .no])], []⟩ := by
      intro b hb
      simp only [go_sem, Nat.reduceAdd, Nat.reduceSub, Nat.reduceMul, Nat.reduceLT, Nat.reduceLeDiff, Nat.reduceEqDiff, reduceIte, Nat.reduceBEq, reduceCtorEq]
      refine Tri.cond (t := b) (by simp only [go_sem, Nat.reduceAdd, Nat.reduceSub, Nat.reduceMul, Nat.reduceLT, Nat.reduceLeDiff, Nat.reduceEqDiff, reduceIte, Nat.reduceBEq, reduceCtorEq]) (fun hb1 => ?_) (fun hb1 => ?_)
      · have hn := hb.1 hb1
        have hgr : grantI ls hs m now gs = pairSV (lsSV [] []) 1 := by unfold grantI; rw [if_neg (by simp [hm]), if_pos hn]
        refine Tri.vc ?_
        simp only [c13_4, go_sem, Nat.reduceAdd, Nat.reduceSub, Nat.reduceMul, Nat.reduceLT, Nat.reduceLeDiff, Nat.reduceEqDiff, reduceIte, Nat.reduceBEq, reduceCtorEq, List.length_append]
        rw [hgr]
        refine end_fn rfl ?_
        simp only [z27, a27, go_sem, Nat.reduceAdd, Nat.reduceSub, Nat.reduceMul, Nat.reduceLT, Nat.reduceLeDiff, Nat.reduceEqDiff, reduceIte, Nat.reduceBEq, reduceCtorEq, pairSV, lsSV, rowsSV]
      · have hn : ¬ (now < 0 ∨ now > 1099511627776) := fun h => by rw [hb.2 h] at hb1; cases hb1
        simp only [go_sem, Nat.reduceAdd, Nat.reduceSub, Nat.reduceMul, Nat.reduceLT, Nat.reduceLeDiff, Nat.reduceEqDiff, reduceIte, Nat.reduceBEq, reduceCtorEq]
        refine Tri.seq (Tri.vc ?_)
        simp only [c13_5, go_sem, Nat.reduceAdd, Nat.reduceSub, Nat.reduceMul, Nat.reduceLT, Nat.reduceLeDiff, Nat.reduceEqDiff, reduceIte, Nat.reduceBEq, reduceCtorEq]
        refine call_fn (spec20 ls hs h2 (by omega) m) (by simp only [lsSV, rowsSV, go_sem, Nat.reduceAdd, Nat.reduceSub, Nat.reduceMul, Nat.reduceLT, Nat.reduceLeDiff, Nat.reduceEqDiff, reduceIte, Nat.reduceBEq, reduceCtorEq]) (by simp only [lsSV, rowsSV, SV.renL, SV.ren, Tok.ren]) rfl rfl rfl ?_
        simp only [later, go_sem, Nat.reduceAdd, Nat.reduceSub, Nat.reduceMul, Nat.reduceLT, Nat.reduceLeDiff, Nat.reduceEqDiff, reduceIte, Nat.reduceBEq, reduceCtorEq]
        refine Tri.cond (t := hasM hs m) (by simp only [go_sem, Nat.reduceAdd, Nat.reduceSub, Nat.reduceMul, Nat.reduceLT, Nat.reduceLeDiff, Nat.reduceEqDiff, reduceIte, Nat.reduceBEq, reduceCtorEq]) (fun hq => ?_) (fun hq => ?_)
        · have hgr : grantI ls hs m now gs = pairSV (lsSV [] []) 48 := by unfold grantI; rw [if_neg (by simp [hm]), if_neg hn, if_pos hq]
          refine Tri.vc ?_
          simp only [c13_6, go_sem, Nat.reduceAdd, Nat.reduceSub, Nat.reduceMul, Nat.reduceLT, Nat.reduceLeDiff, Nat.reduceEqDiff, reduceIte, Nat.reduceBEq, reduceCtorEq, List.length_append]
          rw [hgr]
          refine end_fn rfl ?_
          simp only [z27, a27, go_sem, Nat.reduceAdd, Nat.reduceSub, Nat.reduceMul, Nat.reduceLT, Nat.reduceLeDiff, Nat.reduceEqDiff, reduceIte, Nat.reduceBEq, reduceCtorEq, pairSV, lsSV, rowsSV]
        · have hgr : grantI ls hs m now gs = pairSV (lsSV (grantL ls (newL m now gs)) hs) 0 := by unfold grantI; rw [if_neg (by simp [hm]), if_neg hn, if_neg (by rw [hq]; simp)]
          rw [hgr]
          refine Tri.vc ?_
          simp only [go_sem, Nat.reduceAdd, Nat.reduceSub, Nat.reduceMul, Nat.reduceLT, Nat.reduceLeDiff, Nat.reduceEqDiff, reduceIte, Nat.reduceBEq, reduceCtorEq]
          refine Tri.seq (Tri.vc ?_)
          simp only [c13_7, go_sem, Nat.reduceAdd, Nat.reduceSub, Nat.reduceMul, Nat.reduceLT, Nat.reduceLeDiff, Nat.reduceEqDiff, reduceIte, Nat.reduceBEq, reduceCtorEq]
          have hw : IntKind.i64.wrap (now + 64) = now + 64 := wrap64_id (by omega) (by omega)
          rw [hw]
          refine Tri.weak (t := ⟨[.undef, .int .i64 m, .undef, .undef, .ptr 104 0, .undef, .undef, .undef, .ptr 108 0, .int .i64 0, .ptr 110 0] ++ List.replicate 49 .undef,
            [(110, .rc [.int .i64 m, .int .i64 (now + 64), .lst 1 gs .no]), (108, .rc [.lst 3 [] .clip, .lst 3 [] .clip]), (104, .rc [.lst 3 (ls.map Row.sv) .no, .lst 3 (hs.map Row.sv) .no])], []⟩) (weak_of ?_ (by simp) (by simp) (by simp)) ?_
          · simp only [tmLe, SVle.refl, SVle.undef, go_sem, Nat.reduceAdd, Nat.reduceSub, Nat.reduceMul, Nat.reduceLT, Nat.reduceLeDiff, Nat.reduceEqDiff, reduceIte, Nat.reduceBEq, reduceCtorEq]
          have tail : ∀ L : List Row, L = grantL ls (newL m now gs) → Tri Try.prog ((SCode.ops c13_13).seq SCode.ret) (endQ Try.prog [ResultVar.cell 8 27, ResultVar.tmp 9] fun r' os' => r' = pairSV (lsSV (grantL ls (newL m now gs)) hs) 0 ∧ os' = [])
              ⟨[.undef, .undef, .undef, .undef, .ptr 104 0, .undef, .undef, .undef, .ptr 108 0] ++ List.replicate 51 .undef, [(108, .rc [.lst 3 [] .clip, .lst 3 [] .clip]), (104, .rc [.lst 3 (L.map Row.sv) .no, .lst 3 (hs.map Row.sv) .no])], []⟩ := by
            rintro L rfl
            simp only [go_sem, Nat.reduceAdd, Nat.reduceSub, Nat.reduceMul, Nat.reduceLT, Nat.reduceLeDiff, Nat.reduceEqDiff, reduceIte, Nat.reduceBEq, reduceCtorEq]
            refine Tri.seq (Tri.vc ?_)
            simp only [c13_13, go_sem, Nat.reduceAdd, Nat.reduceSub, Nat.reduceMul, Nat.reduceLT, Nat.reduceLeDiff, Nat.reduceEqDiff, reduceIte, Nat.reduceBEq, reduceCtorEq]
            refine Tri.vc ?_
            simp only [go_sem, Nat.reduceAdd, Nat.reduceSub, Nat.reduceMul, Nat.reduceLT, Nat.reduceLeDiff, Nat.reduceEqDiff, reduceIte, Nat.reduceBEq, reduceCtorEq]
            refine end_fn rfl ?_
            simp only [z27, a27, go_sem, Nat.reduceAdd, Nat.reduceSub, Nat.reduceMul, Nat.reduceLT, Nat.reduceLeDiff, Nat.reduceEqDiff, reduceIte, Nat.reduceBEq, reduceCtorEq, pairSV, lsSV, rowsSV]
          simp only [go_sem, Nat.reduceAdd, Nat.reduceSub, Nat.reduceMul, Nat.reduceLT, Nat.reduceLeDiff, Nat.reduceEqDiff, reduceIte, Nat.reduceBEq, reduceCtorEq]
          refine Tri.seq (Tri.vc ?_)
          simp only [c13_8, go_sem, Nat.reduceAdd, Nat.reduceSub, Nat.reduceMul, Nat.reduceLT, Nat.reduceLeDiff, Nat.reduceEqDiff, reduceIte, Nat.reduceBEq, reduceCtorEq]
          refine call_fn (spec31 ls hs h1 (by omega) m) (by simp only [lsSV, rowsSV, go_sem, Nat.reduceAdd, Nat.reduceSub, Nat.reduceMul, Nat.reduceLT, Nat.reduceLeDiff, Nat.reduceEqDiff, reduceIte, Nat.reduceBEq, reduceCtorEq]) (by simp only [lsSV, rowsSV, SV.renL, SV.ren, Tok.ren]) rfl rfl rfl ?_
          simp only [later, go_sem, Nat.reduceAdd, Nat.reduceSub, Nat.reduceMul, Nat.reduceLT, Nat.reduceLeDiff, Nat.reduceEqDiff, reduceIte, Nat.reduceBEq, reduceCtorEq]
          refine Tri.seq (Tri.vc ?_)
          simp only [c13_9, go_sem, Nat.reduceAdd, Nat.reduceSub, Nat.reduceMul, Nat.reduceLT, Nat.reduceLeDiff, Nat.reduceEqDiff, reduceIte, Nat.reduceBEq, reduceCtorEq]
          refine call_new (spec32 ls (by omega)) (leL.refl _) (by simp only [rowsSV, SV.renL, SV.ren, Tok.ren]) (fun r os' hR => ?_)
          rcases hR with ⟨he, rfl, rfl⟩ | ⟨hne, nc, hnc, rfl, rfl⟩
          · refine ⟨by simp [small, SV.ids, SV.toks], ?_⟩
            simp only [later, St.after, SV.ren, Tok.ren, renOs, dropOs, List.not_mem_nil, SV.toks, go_sem, Nat.reduceAdd, Nat.reduceSub, Nat.reduceMul, Nat.reduceLT, Nat.reduceLeDiff, Nat.reduceEqDiff, reduceIte, Nat.reduceBEq, reduceCtorEq]
            subst he
            refine Tri.seq (Tri.seq (Tri.vc ?_))
            simp only [c13_10, go_sem, Nat.reduceAdd, Nat.reduceSub, Nat.reduceMul, Nat.reduceLT, Nat.reduceLeDiff, Nat.reduceEqDiff, reduceIte, Nat.reduceBEq, reduceCtorEq]
            have hf : hasM [] m = false := by simp [hasM]
            rw [hf]
            refine Tri.cond (t := false) (by simp only [go_sem, Nat.reduceAdd, Nat.reduceSub, Nat.reduceMul, Nat.reduceLT, Nat.reduceLeDiff, Nat.reduceEqDiff, reduceIte, Nat.reduceBEq, reduceCtorEq]) (fun h => by cases h) (fun _ => ?_)
            simp only [go_sem, Nat.reduceAdd, Nat.reduceSub, Nat.reduceMul, Nat.reduceLT, Nat.reduceLeDiff, Nat.reduceEqDiff, reduceIte, Nat.reduceBEq, reduceCtorEq]
            refine Tri.vc ?_
            simp only [c13_12, go_sem, Nat.reduceAdd, Nat.reduceSub, Nat.reduceMul, Nat.reduceLT, Nat.reduceLeDiff, Nat.reduceEqDiff, reduceIte, Nat.reduceBEq, reduceCtorEq]
            have hlb : lb [] m = 0 := rfl
            rw [hlb]
            refine call_new (spec33e (newL m now gs)) (leL.cons (SVle.refl _) (leL.cons (SVle.refl _) (leL.cons (SVle.lst _ _ _) leL.nil))) (by simp only [SV.renL, SV.ren, Tok.ren]) (fun r os' hR => ?_)
            obtain ⟨rfl, rfl⟩ := hR
            refine ⟨by simp [small, rowsSV, SV.ids, SV.toks], ?_⟩
            simp only [later, St.after, SV.ren, Tok.ren, renOs, dropOs, List.not_mem_nil, SV.toks, rowsSV, go_sem, Nat.reduceAdd, Nat.reduceSub, Nat.reduceMul, Nat.reduceLT, Nat.reduceLeDiff, Nat.reduceEqDiff, reduceIte, Nat.reduceBEq, reduceCtorEq]
            refine (tail ([].take 0 ++ [newL m now gs] ++ [].drop 0) (by simp [grantL, hasM, lb, newL])).weak (weak_of ?_ (by simp) (by simp) (by simp))
            simp only [tmLe, SVle.refl, SVle.undef, go_sem, Nat.reduceAdd, Nat.reduceSub, Nat.reduceMul, Nat.reduceLT, Nat.reduceLeDiff, Nat.reduceEqDiff, reduceIte, Nat.reduceBEq, reduceCtorEq]
          · refine ⟨by simp [small, SV.ids, SV.toks, SObj.ids, SObj.toks], ?_⟩
            simp only [later, St.after, SV.ren, SObj.ren, Tok.ren, renOs, renO, dropOs, List.not_mem_nil, SV.toks, go_sem, Nat.reduceAdd, Nat.reduceSub, Nat.reduceMul, Nat.reduceLT, Nat.reduceLeDiff, Nat.reduceEqDiff, reduceIte, Nat.reduceBEq, reduceCtorEq]
            generalize hxs : ls.map Row.sv ++ List.replicate (nc - ls.length) zL = xs
            have hxl : xs.length = nc := by rw [← hxs]; simp; omega
            have hrows : ∀ y ∈ xs, y.length = 3 := by rw [← hxs]; exact rows_app (rows_map ls) (rows_rep _ rfl)
            have htake : xs.take ls.length = ls.map Row.sv := by rw [← hxs, List.take_append_of_le_length (by simp), List.take_of_length_le (by simp)]
            refine Tri.seq (Tri.seq (Tri.vc ?_))
            simp only [c13_10, go_sem, Nat.reduceAdd, Nat.reduceSub, Nat.reduceMul, Nat.reduceLT, Nat.reduceLeDiff, Nat.reduceEqDiff, reduceIte, Nat.reduceBEq, reduceCtorEq]
            refine Tri.cond (t := hasM ls m) (by simp only [go_sem, Nat.reduceAdd, Nat.reduceSub, Nat.reduceMul, Nat.reduceLT, Nat.reduceLeDiff, Nat.reduceEqDiff, reduceIte, Nat.reduceBEq, reduceCtorEq]) (fun hf => ?_) (fun hf => ?_)
            · have hk : lb ls m < ls.length := by
                unfold hasM at hf
                rw [decide_eq_true_eq] at hf
                exact hf.1
              simp only [go_sem, Nat.reduceAdd, Nat.reduceSub, Nat.reduceMul, Nat.reduceLT, Nat.reduceLeDiff, Nat.reduceEqDiff, reduceIte, Nat.reduceBEq, reduceCtorEq]
              refine Tri.vc ?_
              simp only [c13_11, go_sem, Nat.reduceAdd, Nat.reduceSub, Nat.reduceMul, Nat.reduceLT, Nat.reduceLeDiff, Nat.reduceEqDiff, reduceIte, Nat.reduceBEq, reduceCtorEq]
              have hset : setRow 3 xs (0 + lb ls m) 0 3 [.int .i64 m, .int .i64 (now + 64), .lst 1 gs .no] = xs.set (lb ls m) (newL m now gs).sv := by
                rw [Nat.zero_add]; rfl
              refine ⟨⟨by omega, by omega⟩, ⟨by omega, hrows⟩, ?_⟩
              rw [hset]
              have hlen : 0 + ls.length ≤ (xs.set (lb ls m) (newL m now gs).sv).length := by rw [List.length_set]; omega
              have hrows2 : ∀ y ∈ xs.set (lb ls m) (newL m now gs).sv, y.length = 3 := by
                intro y hy
                rcases List.mem_or_eq_of_mem_set hy with h | h
                · exact hrows y h
                · rw [h]; rfl
              have hfin : (((xs.set (lb ls m) (newL m now gs).sv).drop 0).take ls.length) = (ls.set (lb ls m) (newL m now gs)).map Row.sv := by
                rw [List.drop_zero, List.take_set, htake, List.map_set]
              refine (tail (ls.set (lb ls m) (newL m now gs)) (by simp only [grantL, newL, hf, if_true])).weak (weak_pub2 (o := 45107) (sz := 3) (xs := xs.set (lb ls m) (newL m now gs).sv) rfl ?_ ?_ (by simp) (by simp))
              · simp only [tmLe, lp_refl, leP.undef, go_sem, Nat.reduceAdd, Nat.reduceSub, Nat.reduceMul, Nat.reduceLT, Nat.reduceLeDiff, Nat.reduceEqDiff, reduceIte, Nat.reduceBEq, reduceCtorEq]
              · intro p hp
                simp only [List.mem_cons, List.not_mem_nil, or_false] at hp
                rcases hp with rfl | rfl
                · exact ⟨_, .tail _ (.tail _ (.head _)), rfl, by simp, lp_refl _ _ _ _, lp_refl _ _ _ _, trivial⟩
                · refine ⟨_, .tail _ (.tail _ (.tail _ (.head _))), rfl, by simp, ?_, lp_refl _ _ _ _, trivial⟩
                  rw [← hfin]
                  exact leP.psl hlen hrows2
            · simp only [go_sem, Nat.reduceAdd, Nat.reduceSub, Nat.reduceMul, Nat.reduceLT, Nat.reduceLeDiff, Nat.reduceEqDiff, reduceIte, Nat.reduceBEq, reduceCtorEq]
              refine Tri.vc ?_
              simp only [c13_12, go_sem, Nat.reduceAdd, Nat.reduceSub, Nat.reduceMul, Nat.reduceLT, Nat.reduceLeDiff, Nat.reduceEqDiff, reduceIte, Nat.reduceBEq, reduceCtorEq]
              refine call_one (o := 45107) (args' := [.psl 45107 3 0 ls.length nc, .int .i64 (lb ls m), .lst 3 [(newL m now gs).sv] .no]) (spec33 ls (by omega) nc hnc (lb ls m) (lb_le ls m) (newL m now gs)) (by simp only [SV.renL, SV.ren, Tok.ren]; rfl) (leL.cons (SVle.refl _) (leL.cons (SVle.refl _) (leL.cons (SVle.lst _ _ _) leL.nil))) (by rw [hxs]; rfl) rfl (fun r os' hR => ?_)
              obtain ⟨rfl, rfl⟩ := hR
              refine ⟨by simp [small, rowsSV, SV.ids, SV.toks], ?_⟩
              simp only [later, St.after, SV.ren, Tok.ren, renOs, dropOs, List.not_mem_nil, List.mem_singleton, SV.toks, rowsSV, go_sem, Nat.reduceAdd, Nat.reduceSub, Nat.reduceMul, Nat.reduceLT, Nat.reduceLeDiff, Nat.reduceEqDiff, reduceIte, Nat.reduceBEq, reduceCtorEq]
              refine (tail (ls.take (lb ls m) ++ [newL m now gs] ++ ls.drop (lb ls m)) (by simp only [grantL, newL, hf, Bool.false_eq_true, if_false])).weak (weak_of ?_ (by simp) (by simp) (by simp))
              simp only [tmLe, SVle.refl, SVle.undef, go_sem, Nat.reduceAdd, Nat.reduceSub, Nat.reduceMul, Nat.reduceLT, Nat.reduceLeDiff, Nat.reduceEqDiff, reduceIte, Nat.reduceBEq, reduceCtorEq]
    refine ⟨fun h => (keep (decide (1099511627776 < now)) (by simp; omega)).weak (weak_of ?_ (by simp) (by simp) (by simp)), fun h => (keep true (by simp; omega)).weak (weak_of ?_ (by simp) (by simp) (by simp))⟩
    · simp only [tmLe, SVle.refl, SVle.undef, go_sem, Nat.reduceAdd, Nat.reduceSub, Nat.reduceMul, Nat.reduceLT, Nat.reduceLeDiff, Nat.reduceEqDiff, reduceIte, Nat.reduceBEq, reduceCtorEq]
    · simp only [tmLe, SVle.refl, SVle.undef, go_sem, Nat.reduceAdd, Nat.reduceSub, Nat.reduceMul, Nat.reduceLT, Nat.reduceLeDiff, Nat.reduceEqDiff, reduceIte, Nat.reduceBEq, reduceCtorEq]
end Go.Proofs.Ytghggnfomlibjaa.Vc
