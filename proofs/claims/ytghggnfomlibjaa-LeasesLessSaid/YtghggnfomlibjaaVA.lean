/-
  Searching the lists: contracts.
-/
import Derived.Test.YtghggnfomlibjaaEd
import Derived.Test.YtghggnfomlibjaaVCode
set_option maxRecDepth 100000
set_option linter.unusedSimpArgs false
namespace Go.Proofs.Ytghggnfomlibjaa.Vc
open Go.Sy
attribute [local go_sem] List.length_cons List.length_nil List.replicate List.cons_append List.nil_append List.append_nil vc vo_nil vo_call vo_gcall vo_mov vo_pick vo_new vo_box vo_build vo_lit vo_litB vo_load vo_store vo_nchk vo_bin vo_beq vo_un vo_toInt vo_toStr vo_s2b vo_b2s vo_mkfn vo_mk vo_mkB vo_slcS vo_slcL vo_slcA vo_faddr vo_fld vo_iaddrL vo_iaddrA vo_idxA vo_idxS vo_ext vo_len vo_lenC vo_cap vo_app vo_appM vo_eqS vo_isnil vo_ovl vo_cpy vo_mini vo_maxi stepSI sym eff val loadSV storeE mkLoad St.app St.wr St.ev St.get St.put St.look St.setO Sy.setO St.know St.purge St.addO List.lookup beq_self_eq_true List.getD_eq_getElem?_getD List.getElem?_cons_zero List.getElem?_cons_succ List.getElem?_nil Option.getD_some Option.getD_none List.set_cons_zero List.set_cons_succ thenS blockS binSV ibin cmpSV unSV lenSV SV.num data_int data_bool data_u8 data_str data_byt data_lst data_pp data_nilp isd_int isd_bool isd_u8 isd_str isd_byt isd_lst isd_pp cel_int cel_bool cel_u8 cel_str cel_byt cel_lst cel_psl cel_pp cel_ptr cel_agg def_int def_bool def_u8 def_str def_byt def_lst def_psl def_pp def_ptr def_agg one_int one_bool one_u8 one_str one_byt one_lst one_psl one_pp one_ptr fillSV rows optI true_and and_true true_implies false_implies implies_true not_true_eq_false not_false_eq_true and_self decide_eq_true_eq decide_eq_false_iff_not Option.map_some bodyQ bodyF resV oneSV SV.strip SV.stripL SV.purge SV.purgeL SObj.purge purgeO dropT Tok.purge setCells List.take_succ_cons List.take_zero List.take_nil List.drop_zero List.drop_succ_cons List.drop_nil List.map_cons List.map_nil List.flatten_cons List.flatten_nil List.contains_nil List.contains_cons Bool.or_false Bool.true_or Bool.or_true Bool.false_or Bool.false_eq_true Bool.true_eq_false Bool.not_true Bool.not_false Bool.not_eq_true Bool.not_eq_false SOp.args Option.isNone_none Option.isNone_some Option.isSome_none Option.isSome_some Int.toNat_natCast List.all_cons List.all_nil Bool.and_self Bool.and_true Bool.true_and

theorem wrap64_id {n : Int} (h1 : -9223372036854775808 ≤ n) (h2 : n ≤ 9223372036854775807) : IntKind.i64.wrap n = n := by
  rw [IntKind.wrap_i64]; omega
def cmpI (a b : Int) : Int := if a < b then -1 else if b < a then 1 else 0

theorem cmp_lt (a b : Int) : cmpI a b < 0 ↔ a < b := by
  unfold cmpI
  split
  · simp; assumption
  · split <;> simp <;> omega
theorem cmp_eq (a b : Int) : cmpI a b = 0 ↔ a = b := by
  unfold cmpI
  split
  · simp; omega
  · split <;> simp <;> omega
theorem spec56 (a : Int) : Sy.Fn Try.prog 56 [.int .i64 a] (.bool false) := by
  refine fn_of Try.func56 c56_ok (by kernel_rfl) Try.ntmps56 (rs := [.tmp 2]) Try.results56 rfl ?_
  simp only [c56_0, c56_1, c56, go_sem, Nat.reduceAdd, Nat.reduceSub, Nat.reduceMul, Nat.reduceLT, Nat.reduceLeDiff, Nat.reduceEqDiff, reduceIte, Nat.reduceBEq, reduceCtorEq]
  simp

theorem spec47 (a b : Int) : Sy.Fn Try.prog 47 [.int .i64 a, .int .i64 b] (.int .i64 (cmpI a b)) := by
  refine fn_of Try.func47 c47_ok (by kernel_rfl) Try.ntmps47 (rs := [.tmp 4]) Try.results47 rfl ?_
  simp only [c47_0, c47_1, c47_2, c47_3, c47_4, c47_5, c47_6, c47_7, c47_8, c47_9, c47_10, c47_11, c47_12, c47_13, c47, go_sem, Nat.reduceAdd, Nat.reduceSub, Nat.reduceMul, Nat.reduceLT, Nat.reduceLeDiff, Nat.reduceEqDiff, reduceIte, Nat.reduceBEq, reduceCtorEq]
  refine call_fn (spec56 a) rfl rfl rfl rfl rfl ?_
  simp only [later, go_sem, Nat.reduceAdd, Nat.reduceSub, Nat.reduceMul, Nat.reduceLT, Nat.reduceLeDiff, Nat.reduceEqDiff, reduceIte, Nat.reduceBEq, reduceCtorEq]
  refine call_fn (spec56 b) rfl rfl rfl rfl rfl ?_
  simp only [later, go_sem, Nat.reduceAdd, Nat.reduceSub, Nat.reduceMul, Nat.reduceLT, Nat.reduceLeDiff, Nat.reduceEqDiff, reduceIte, Nat.reduceBEq, reduceCtorEq]
  simp only [false_implies, true_implies, true_and, SV.int.injEq, cmpI]
  refine ⟨fun h => by rw [if_pos h], fun h => ⟨fun h2 => by rw [if_neg h, if_pos h2], fun h2 => by rw [if_neg h, if_neg h2]⟩⟩

/-- Data without claims. -/
structure Plain (v : SV) : Prop where
  d : v.isData = true
  k : v.data = v
theorem Plain.toks {v : SV} (h : Plain v) : v.toks = [] := by
  cases v with
  | byt l t => have := h.k; simp only [SV.data, SV.byt.injEq, true_and] at this; rw [← this]; rfl
  | lst sz xs t => have := h.k; simp only [SV.data, SV.lst.injEq, true_and] at this; rw [← this]; rfl
  | _ => first | rfl | exact absurd h.d (by simp [SV.isData])
theorem Plain.purge {v : SV} (h : Plain v) (lo hi : Nat) : v.purge lo hi = v := purge_data h.d h.toks lo hi
theorem Plain.strip {v : SV} (h : Plain v) : v.strip = v := by rw [strip_data h.d, h.k]
theorem Plain.ids {v : SV} (h : Plain v) : v.ids = [] := ids_data h.d
theorem Plain.ren {v : SV} (h : Plain v) (m mt : Nat → Nat) : v.ren m mt = v := by
  cases v with
  | byt l t => have := h.k; simp only [SV.data, SV.byt.injEq, true_and] at this; rw [← this]; rfl
  | lst sz xs t => have := h.k; simp only [SV.data, SV.lst.injEq, true_and] at this; rw [← this]; rfl
  | _ => first | rfl | exact absurd h.d (by simp [SV.isData])
/-- A row of a list: its machine, and two more cells of data. -/
structure Row where
  m : Int
  u : SV
  v : SV
  hu : Plain u
  hv : Plain v
theorem Row.du (r : Row) : r.u.data = r.u := r.hu.k
theorem Row.dv (r : Row) : r.v.data = r.v := r.hv.k
theorem Row.su (r : Row) : r.u.strip = r.u := r.hu.strip
theorem Row.s2 (r : Row) : r.v.strip = r.v := r.hv.strip
theorem Row.ru (r : Row) (m mt : Nat → Nat) : r.u.ren m mt = r.u := r.hu.ren m mt
theorem Row.rv (r : Row) (m mt : Nat → Nat) : r.v.ren m mt = r.v := r.hv.ren m mt
def Row.sv (r : Row) : List SV := [.int .i64 r.m, r.u, r.v]

theorem spec46 (r : Row) (b : Int) : Sy.Fn Try.prog 46 [.agg [.int .i64 r.m, r.u, r.v], .int .i64 b] (.int .i64 (cmpI r.m b)) := by
  refine fn_of Try.func46 c46_ok (by kernel_rfl) Try.ntmps46 (rs := [.tmp 4]) Try.results46 rfl ?_
  simp only [c46_0, c46_1, c46, go_sem, Nat.reduceAdd, Nat.reduceSub, Nat.reduceMul, Nat.reduceLT, Nat.reduceLeDiff, Nat.reduceEqDiff, reduceIte, Nat.reduceBEq, reduceCtorEq]
  refine call_fn (spec47 r.m b) rfl rfl rfl rfl rfl ?_
  simp only [later, go_sem, Nat.reduceAdd, Nat.reduceSub, Nat.reduceMul, Nat.reduceLT, Nat.reduceLeDiff, Nat.reduceEqDiff, reduceIte, Nat.reduceBEq, reduceCtorEq]

/-- How many machines are less than m. -/
def lb (ms : List Row) (m : Int) : Nat := (ms.takeWhile fun r => decide (r.m < m)).length
def Sorted (ms : List Row) : Prop := ms.Pairwise fun a b => a.m < b.m
def rowsSV (ms : List Row) : SV := .lst 3 (ms.map Row.sv) .no

theorem lb_eq {ms : List Row} {m : Int} {k : Nat} (hk : k ≤ ms.length) (h1 : ∀ i (h : i < ms.length), i < k → ms[i].m < m) (h2 : ∀ i (h : i < ms.length), k ≤ i → ¬ ms[i].m < m) : lb ms m = k := by
  unfold lb
  induction ms generalizing k with
  | nil => simp at hk; simp [hk]
  | cons r ms ih =>
    cases k with
    | zero =>
      have := h2 0 (by simp) (by omega)
      simp only [List.getElem_cons_zero] at this
      rw [List.takeWhile_cons, if_neg (by simpa using this)]; rfl
    | succ k =>
      have := h1 0 (by simp) (by omega)
      simp only [List.getElem_cons_zero] at this
      rw [List.takeWhile_cons, if_pos (by simpa using this), List.length_cons, ih (k := k) (by simpa using hk)]
      · intro i h hi; have := h1 (i + 1) (by simpa using h) (by omega); simpa using this
      · intro i h hi; have := h2 (i + 1) (by simpa using h) (by omega); simpa using this

def st45 (ms : List Row) (m : Int) (q : Nat × Nat) : St :=
  ⟨[rowsSV ms, .int .i64 m, .fn 46 [] [], .undef, .undef, .undef, .undef, .undef, .int .i64 ms.length, .int .i64 q.1, .int .i64 q.2] ++ List.replicate 38 .undef, [], []⟩
def inv45 (ms : List Row) (m : Int) (q : Nat × Nat) : Prop :=
  q.1 ≤ q.2 ∧ q.2 ≤ ms.length ∧ (∀ i (h : i < ms.length), i < q.1 → ms[i].m < m) ∧ (∀ i (h : i < ms.length), q.2 ≤ i → ¬ ms[i].m < m)

theorem hmid (i j : Nat) (h : i + j ≤ 4000000000) : IntKind.i64.wrap ((IntKind.u64.wrap (IntKind.i64.wrap ((i : Int) + j))).fdiv (2 ^ min (Int.toNat 1) IntKind.u64.bits)) = (((i + j) / 2 : Nat) : Int) := by
  have e : (2 : Int) ^ min (Int.toNat 1) IntKind.u64.bits = 2 := rfl
  have e1 : IntKind.i64.wrap ((i : Int) + j) = (i : Int) + j := wrap64_id (by omega) (by omega)
  rw [e, e1, IntKind.wrap_u64, Int.fdiv_eq_ediv_of_nonneg _ (by omega), wrap64_id (by omega) (by omega)]
  omega

theorem hmid2 (i j : Nat) (h : i + j ≤ 4000000000) : IntKind.i64.wrap ((IntKind.u64.wrap (IntKind.i64.wrap ((i : Int) + j))).fdiv (2 ^ min (Int.toNat 1) 64)) = (((i + j) / 2 : Nat) : Int) := hmid i j h
theorem spec45 (ms : List Row) (hs : Sorted ms) (hl : ms.length ≤ 1000000000) (m : Int) : Sy.Fn Try.prog 45 [rowsSV ms, .int .i64 m, .fn 46 [] []]
    (.tup [.int .i64 (lb ms m), .bool (decide (lb ms m < ms.length ∧ (ms.map Row.m).getD (lb ms m) 0 = m))]) := by
  refine fn_tri Try.func45 c45_ok (by kernel_rfl) Try.ntmps45 (rs := [.tmp 6, .tmp 7]) Try.results45 rfl ?_
  simp only [c45]
  refine Tri.seq (Tri.vc ?_)
  simp only [c45_0, go_sem, Nat.reduceAdd, Nat.reduceSub, Nat.reduceMul, Nat.reduceLT, Nat.reduceLeDiff, Nat.reduceEqDiff, reduceIte, Nat.reduceBEq, reduceCtorEq, rowsSV]
  refine Tri.seq (Tri.vc ?_)
  simp only [c45_1, go_sem, Nat.reduceAdd, Nat.reduceSub, Nat.reduceMul, Nat.reduceLT, Nat.reduceLeDiff, Nat.reduceEqDiff, reduceIte, Nat.reduceBEq, reduceCtorEq, List.length_map]
  refine Tri.seq (Tri.vc ?_)
  simp only [c45_2, go_sem, Nat.reduceAdd, Nat.reduceSub, Nat.reduceMul, Nat.reduceLT, Nat.reduceLeDiff, Nat.reduceEqDiff, reduceIte, Nat.reduceBEq, reduceCtorEq]
  refine Tri.seq (Tri.block (Tri.loop (st45 ms m) (inv45 ms m) (fun q => q.2 - q.1) (0, ms.length) ⟨by omega, by omega, fun i h hi => by omega, fun i h hi => by omega⟩ (weak_of ?_ (by simp [st45]) (by simp [st45]) (by simp [st45])) ?_))
  · simp only [st45, go_sem, Nat.reduceAdd, Nat.reduceSub, Nat.reduceMul, Nat.reduceLT, Nat.reduceLeDiff, Nat.reduceEqDiff, reduceIte, Nat.reduceBEq, reduceCtorEq, tmLe, rowsSV, SVle.refl, SVle.undef, Int.natCast_zero]
  · rintro ⟨i, j⟩ ⟨h1, h2, h3, h4⟩
    simp only at h1 h2 h3 h4
    simp only [c45_8]
    refine Tri.seq (Tri.vc ?_)
    simp only [c45_3, st45, rowsSV, go_sem, Nat.reduceAdd, Nat.reduceSub, Nat.reduceMul, Nat.reduceLT, Nat.reduceLeDiff, Nat.reduceEqDiff, reduceIte, Nat.reduceBEq, reduceCtorEq]
    refine ⟨fun hij => ?_, fun hij => ?_⟩
    · refine Tri.block (Tri.seq (Tri.vc ?_))
      simp only [c45_4, go_sem, Nat.reduceAdd, Nat.reduceSub, Nat.reduceMul, Nat.reduceLT, Nat.reduceLeDiff, Nat.reduceEqDiff, reduceIte, Nat.reduceBEq, reduceCtorEq, toIntSV, ishift]
      first | rw [hmid i j (by omega)] | rw [hmid2 i j (by omega)]
      refine ⟨by decide, Tri.seq (Tri.vc ?_)⟩
      have hk1 : (i + j) / 2 < ms.length := by omega
      have hrow : (ms.map Row.sv)[(i + j) / 2]?.getD [] = ms[(i + j) / 2].sv := by simp [hk1]
      simp only [c45_5, go_sem, Nat.reduceAdd, Nat.reduceSub, Nat.reduceMul, Nat.reduceLT, Nat.reduceLeDiff, Nat.reduceEqDiff, reduceIte, Nat.reduceBEq, reduceCtorEq, List.length_map, hrow, Row.sv, Row.du, Row.dv]
      refine ⟨⟨by omega, by omega⟩, call_fn (spec46 ms[(i + j) / 2] m) (by simp only [go_sem, Nat.reduceAdd, Nat.reduceSub, Nat.reduceMul, Nat.reduceLT, Nat.reduceLeDiff, Nat.reduceEqDiff, reduceIte, Nat.reduceBEq, reduceCtorEq, Row.su, Row.s2]) (by simp only [SV.renL, SV.ren, Row.ru, Row.rv]) rfl rfl rfl ?_⟩
      simp only [later, go_sem, Nat.reduceAdd, Nat.reduceSub, Nat.reduceMul, Nat.reduceLT, Nat.reduceLeDiff, Nat.reduceEqDiff, reduceIte, Nat.reduceBEq, reduceCtorEq]
      refine Tri.vc ?_
      simp only [c45_6, c45_7, go_sem, Nat.reduceAdd, Nat.reduceSub, Nat.reduceMul, Nat.reduceLT, Nat.reduceLeDiff, Nat.reduceEqDiff, reduceIte, Nat.reduceBEq, reduceCtorEq]
      refine ⟨fun hc => ⟨((i + j) / 2 + 1, j), ⟨by simp only; omega, h2, fun k hk hlt => ?_, h4⟩, ?_, by simp only; omega⟩, fun hc => ⟨(i, (i + j) / 2), ⟨by simp only; omega, by simp only; omega, h3, fun k hk hle => ?_⟩, ?_, by simp only; omega⟩⟩
      · have hm : ms[(i + j) / 2].m < m := (cmp_lt _ _).1 hc
        rcases Nat.lt_or_ge k ((i + j) / 2) with h | h
        · have := List.pairwise_iff_getElem.1 hs k ((i + j) / 2) hk hk1 h
          omega
        · have : k = (i + j) / 2 := by simp only at hlt; omega
          subst this; exact hm
      · refine weak_of ?_ (by simp) (by simp) (by simp)
        rw [wrap64_id (by omega) (by omega)]
        simp only [tmLe, SVle.refl, SVle.undef, go_sem, Nat.reduceAdd, Nat.reduceSub, Nat.reduceMul, Nat.reduceLT, Nat.reduceLeDiff, Nat.reduceEqDiff, reduceIte, Nat.reduceBEq, reduceCtorEq, Int.natCast_add, Int.natCast_one]
      · have hm : ¬ ms[(i + j) / 2].m < m := fun h => hc ((cmp_lt _ _).2 h)
        rcases Nat.lt_or_ge ((i + j) / 2) k with h | h
        · have := List.pairwise_iff_getElem.1 hs ((i + j) / 2) k hk1 hk h
          omega
        · have : k = (i + j) / 2 := by simp only at hle; omega
          subst this; exact hm
      · refine weak_of ?_ (by simp) (by simp) (by simp)
        simp only [tmLe, SVle.refl, SVle.undef, go_sem, Nat.reduceAdd, Nat.reduceSub, Nat.reduceMul, Nat.reduceLT, Nat.reduceLeDiff, Nat.reduceEqDiff, reduceIte, Nat.reduceBEq, reduceCtorEq]
    · have hij' : i = j := by omega
      subst hij'
      have hlb : lb ms m = i := lb_eq h2 h3 h4
      refine Tri.vc ?_
      simp only [c45_9, go_sem, Nat.reduceAdd, Nat.reduceSub, Nat.reduceMul, Nat.reduceLT, Nat.reduceLeDiff, Nat.reduceEqDiff, reduceIte, Nat.reduceBEq, reduceCtorEq, hlb, List.length_map]
      refine ⟨fun hlt => ?_, fun hge => ?_⟩
      · have hk : i < ms.length := by omega
        have hrow : (ms.map Row.sv)[i]?.getD [] = ms[i].sv := by simp [hk]
        simp only [hrow, Row.sv, go_sem, Nat.reduceAdd, Nat.reduceSub, Nat.reduceMul, Nat.reduceLT, Nat.reduceLeDiff, Nat.reduceEqDiff, reduceIte, Nat.reduceBEq, reduceCtorEq, Row.du, Row.dv]
        refine ⟨⟨by omega, by omega⟩, call_fn (spec46 ms[i] m) (by simp only [go_sem, Nat.reduceAdd, Nat.reduceSub, Nat.reduceMul, Nat.reduceLT, Nat.reduceLeDiff, Nat.reduceEqDiff, reduceIte, Nat.reduceBEq, reduceCtorEq, Row.su, Row.s2]) (by simp only [SV.renL, SV.ren, Row.ru, Row.rv]) rfl rfl rfl ?_⟩
        simp only [later, go_sem, Nat.reduceAdd, Nat.reduceSub, Nat.reduceMul, Nat.reduceLT, Nat.reduceLeDiff, Nat.reduceEqDiff, reduceIte, Nat.reduceBEq, reduceCtorEq]
        have hm := h4 i hk (Nat.le_refl _)
        have hg : (ms.map Row.m)[i]?.getD 0 = ms[i].m := by simp [hk]
        rw [hg]
        have e1 : (cmpI ms[i].m m = 0) = (ms[i].m = m) := propext (cmp_eq _ _)
        simp only [e1, hk, true_and]
      · have : ¬ i < ms.length := by omega
        simp [this]

/-- The leases and the holds. -/
def lsSV (ls hs : List Row) : SV := .agg [rowsSV ls, rowsSV hs]
def hasM (ms : List Row) (m : Int) : Bool := decide (lb ms m < ms.length ∧ (ms.map Row.m).getD (lb ms m) 0 = m)

theorem spec31 (ls hs : List Row) (hs1 : Sorted ls) (hl : ls.length ≤ 1000000000) (m : Int) : Sy.Fn Try.prog 31 [lsSV ls hs, .int .i64 m] (.tup [.int .i64 (lb ls m), .bool (hasM ls m)]) := by
  refine fn_of Try.func31 c31_ok (by kernel_rfl) Try.ntmps31 (rs := [.tmp 4, .tmp 5]) Try.results31 rfl ?_
  simp only [c31_0, c31_1, c31, lsSV, rowsSV, go_sem, Nat.reduceAdd, Nat.reduceSub, Nat.reduceMul, Nat.reduceLT, Nat.reduceLeDiff, Nat.reduceEqDiff, reduceIte, Nat.reduceBEq, reduceCtorEq]
  refine call_fn (spec45 ls hs1 hl m) (by simp only [rowsSV, go_sem, Nat.reduceAdd, Nat.reduceSub, Nat.reduceMul, Nat.reduceLT, Nat.reduceLeDiff, Nat.reduceEqDiff, reduceIte, Nat.reduceBEq, reduceCtorEq]) (by simp only [rowsSV, SV.renL, SV.ren, Tok.ren]) rfl rfl rfl ?_
  simp only [later, go_sem, Nat.reduceAdd, Nat.reduceSub, Nat.reduceMul, Nat.reduceLT, Nat.reduceLeDiff, Nat.reduceEqDiff, reduceIte, Nat.reduceBEq, reduceCtorEq, hasM]
theorem spec30 (m : Int) : Sy.Fn Try.prog 30 [.int .i64 m] (.bool (decide (1 ≤ m ∧ m ≤ 4))) := by
  refine fn_of Try.func30 c30_ok (by kernel_rfl) Try.ntmps30 (rs := [.tmp 2]) Try.results30 rfl ?_
  simp only [c30_0, c30_1, c30, go_sem, Nat.reduceAdd, Nat.reduceSub, Nat.reduceMul, Nat.reduceLT, Nat.reduceLeDiff, Nat.reduceEqDiff, reduceIte, Nat.reduceBEq, reduceCtorEq]
  refine ⟨fun h => by simp [h], fun h => by simp [h]⟩
end Go.Proofs.Ytghggnfomlibjaa.Vc
