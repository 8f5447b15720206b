/-
  RuleNumber.
-/
import Derived.Test.YtmekdaifojaoiaaDoorS
set_option maxRecDepth 100000
set_option linter.unusedSimpArgs false
set_option linter.unusedVariables false
namespace Go.Proofs.YtmekdaifojaoiaaDoor
open Go.Sy Go.Glob

set_option maxHeartbeats 4000000 in
theorem f26 : ∀ n : Nat, n ≤ 1000000000000 → call T 26 [.int .i64 n] [] 0 = some ⟨.byt (dec n) (.id 60), [], [60]⟩ := by
  intro n
  induction n using Nat.strongRecOn with
  | _ n ih =>
    intro hn
    rw [call_code T_26]
    by_cases h : n < 10
    · have h' : (n : Int) < 10 := by omega
      have e1 : IntKind.i64.wrap (48 + (n : Int)) = ((48 + n : Nat) : Int) := by rw [w64 (by omega) (by omega)]; omega
      have e2 : UInt8.ofInt ((48 + n : Nat) : Int) = dg n := rfl
      simp only [r26_0, r26_1, r26_2, r26_3, F26, q26, go_sem, UInt8.reduceLT, UInt8.reduceLE, Int.reduceToNat, Int.reduceLE, Int.reduceLT, Int.reduceEq, Int.reduceNe, Int.reduceNeg, Int.reduceAdd, Int.reduceSub, Int.reduceMul, Nat.reducePow, Nat.reduceDiv, Nat.reduceMod, Nat.reduceAdd, Nat.reduceSub, Nat.reduceMul, Nat.reduceLT, Nat.reduceLeDiff, Nat.reduceEqDiff, Nat.reduceBEq, reduceCtorEq, reduceIte, h', e1, e2, dec_lt h]
    · have h' : ¬ (n : Int) < 10 := by omega
      have i1 := ih (n / 10) (by omega) (by omega)
      have e0 : (n : Int).tdiv 10 = ((n / 10 : Nat) : Int) := rfl
      have e0' : (n : Int).tmod 10 = ((n % 10 : Nat) : Int) := rfl
      have e00 : IntKind.i64.wrap ((n / 10 : Nat) : Int) = ((n / 10 : Nat) : Int) := w64 (by omega) (by omega)
      have e1 : IntKind.i64.wrap (48 + ((n % 10 : Nat) : Int)) = ((48 + n % 10 : Nat) : Int) := by rw [w64 (by omega) (by omega)]; omega
      have e2 : UInt8.ofInt ((48 + n % 10 : Nat) : Int) = dg (n % 10) := rfl
      have hl := dec_len (n / 10)
      have hl2 : (dec (n / 10)).length + 1 ≤ 140737488355328 := by omega
      simp only [r26_0, r26_1, r26_2, r26_3, F26, q26, go_sem, UInt8.reduceLT, UInt8.reduceLE, Int.reduceToNat, Int.reduceLE, Int.reduceLT, Int.reduceEq, Int.reduceNe, Int.reduceNeg, Int.reduceAdd, Int.reduceSub, Int.reduceMul, Nat.reducePow, Nat.reduceDiv, Nat.reduceMod, Nat.reduceAdd, Nat.reduceSub, Nat.reduceMul, Nat.reduceLT, Nat.reduceLeDiff, Nat.reduceEqDiff, Nat.reduceBEq, reduceCtorEq, reduceIte, h', i1, e0, e0', e00, e1, e2, hl2, S_26, dec_ge h]
def gp (c : UInt8) : UInt8 := 32 + c % 95
def tr (s : List UInt8) (i : Nat) : List UInt8 := (s.take i).map gp ++ s.drop i
theorem tr_len (s : List UInt8) (i : Nat) : (tr s i).length = s.length := by simp only [tr, List.length_append, List.length_map, List.length_take, List.length_drop]; omega
theorem tr_0 (s : List UInt8) : tr s 0 = s := rfl
theorem tr_end (s : List UInt8) : tr s s.length = s.map gp := by simp [tr]
theorem tr_get (s : List UInt8) (i : Nat) (h : i < s.length) : (tr s i).getD i 0 = s.getD i 0 := by
  have hl : ((s.take i).map gp).length = i := by simp; omega
  simp only [tr, List.getD_eq_getElem?_getD]
  rw [List.getElem?_append_right (by omega), hl, Nat.sub_self, List.getElem?_drop, Nat.add_zero]
theorem tr_set (s : List UInt8) (i : Nat) (h : i < s.length) : (tr s i).set i (gp (s.getD i 0)) = tr s (i + 1) := by
  have hl : ((s.take i).map gp).length = i := by simp; omega
  simp only [tr]
  rw [List.set_append_right _ _ (by omega), hl, Nat.sub_self, drop_cons0 s i h, List.set_cons_zero, take_succ_get s i h, List.map_append, List.append_assoc]
  rfl
theorem gp_ok : ∀ c : UInt8, ¬ gp c < 32 ∧ ¬ 126 < gp c := by
  intro c
  have h : c.toNat % 95 < 95 := Nat.mod_lt _ (by omega)
  have e : (gp c).toNat = 32 + c.toNat % 95 := by
    unfold gp
    rw [UInt8.toNat_add, UInt8.toNat_mod]
    show (32 + c.toNat % 95) % 256 = _
    omega
  constructor
  · rw [UInt8.lt_iff_toNat_lt, e]; show ¬ 32 + c.toNat % 95 < 32; omega
  · rw [UInt8.lt_iff_toNat_lt, e]; show ¬ 126 < 32 + c.toNat % 95; omega
theorem prn_gp : ∀ s : List UInt8, prn (s.map gp) = true
  | [] => rfl
  | c :: s => by
    rw [List.map_cons, prn, if_neg (gp_ok c).1, if_neg (gp_ok c).2]
    exact prn_gp s
theorem l9 (s : List UInt8) (hs : s.length ≤ 1000) (a b c d : Int) : ∀ (n i : Nat), s.length - i = n → i ≤ s.length →
    run T (.loop r9_8) ⟨[(1, .int .i64 a), (2, .int .i64 b), (3, .int .i64 c), (4, .int .i64 d), (11, .psl 122 1 0 s.length none), (12, .int .i64 i)], [(122, .bar (tr s i))], []⟩ =
    some (.x 0, ⟨[(1, .int .i64 a), (2, .int .i64 b), (3, .int .i64 c), (4, .int .i64 d), (11, .psl 122 1 0 s.length none)], [(122, .bar (s.map gp))], []⟩) := by
  intro n
  induction n with
  | zero =>
    intro i h0 h1
    have hi : i = s.length := by omega
    subst hi
    rw [run_loop]
    simp only [r9_0, r9_1, r9_2, r9_3, r9_4, r9_5, r9_6, r9_7, r9_9, r9_10, r9_11, r9_12, r9_13, r9_14, r9_15, r9_16, r9_17, r9_19, r9_20, r9_21, r9_22, F9, q9_8, q9_18, q9, go_sem, UInt8.reduceLT, UInt8.reduceLE, Int.reduceToNat, Int.reduceLE, Int.reduceLT, Int.reduceEq, Int.reduceNe, Int.reduceNeg, Int.reduceAdd, Int.reduceSub, Int.reduceMul, Nat.reducePow, Nat.reduceDiv, Nat.reduceMod, Nat.reduceAdd, Nat.reduceSub, Nat.reduceMul, Nat.reduceLT, Nat.reduceLeDiff, Nat.reduceEqDiff, Nat.reduceBEq, reduceCtorEq, reduceIte, tr_end]
  | succ n ih =>
    intro i h0 h1
    have hi : i < s.length := by omega
    have e1 := wsucc i (by omega)
    have ih' := ih (i + 1) (by omega) (by omega)
    have hg := tr_get s i hi
    have ht := tr_set s i hi
    unfold gp at ht
    have h95 : ¬ (95 : UInt8) = 0 := by decide
    rw [run_loop]
    simp only [r9_0, r9_1, r9_2, r9_3, r9_4, r9_5, r9_6, r9_7, r9_9, r9_10, r9_11, r9_12, r9_13, r9_14, r9_15, r9_16, r9_17, r9_19, r9_20, r9_21, r9_22, F9, q9_8, q9_18, q9, go_sem, UInt8.reduceLT, UInt8.reduceLE, Int.reduceToNat, Int.reduceLE, Int.reduceLT, Int.reduceEq, Int.reduceNe, Int.reduceNeg, Int.reduceAdd, Int.reduceSub, Int.reduceMul, Nat.reducePow, Nat.reduceDiv, Nat.reduceMod, Nat.reduceAdd, Nat.reduceSub, Nat.reduceMul, Nat.reduceLT, Nat.reduceLeDiff, Nat.reduceEqDiff, Nat.reduceBEq, reduceCtorEq, reduceIte, hi, e1, hg, ht, h95, tr_len, ih']
theorem l9b (c : Int) (o1 : Nat) (L : Int) (b : Int) (t : List UInt8) : ∀ (z : Nat) (acc : List UInt8), z ≤ 100 → acc.length + z ≤ 1000 →
    run T (.loop r9_18) ⟨[(3, .int .i64 c), (11, .psl 122 1 0 o1 none), (13, .ptr 113 0), (14, .byt acc (.id 114)), (15, .int .i64 (z : Nat))], [(113, .rc [.int .i64 4, .str t, .int .i64 L, .int .i64 b]), (122, .bar t)], [114]⟩ =
    some (.x 2, ⟨[(3, .int .i64 c), (11, .psl 122 1 0 o1 none), (13, .ptr 113 0), (14, .byt (acc ++ List.replicate z 48) (.id 114))], [(113, .rc [.int .i64 4, .str t, .int .i64 L, .int .i64 b]), (122, .bar t)], [114]⟩) := by
  intro z
  induction z with
  | zero =>
    intro acc hz ha
    rw [run_loop]
    simp only [r9_0, r9_1, r9_2, r9_3, r9_4, r9_5, r9_6, r9_7, r9_9, r9_10, r9_11, r9_12, r9_13, r9_14, r9_15, r9_16, r9_17, r9_19, r9_20, r9_21, r9_22, F9, q9_8, q9_18, q9, go_sem, UInt8.reduceLT, UInt8.reduceLE, Int.reduceToNat, Int.reduceLE, Int.reduceLT, Int.reduceEq, Int.reduceNe, Int.reduceNeg, Int.reduceAdd, Int.reduceSub, Int.reduceMul, Nat.reducePow, Nat.reduceDiv, Nat.reduceMod, Nat.reduceAdd, Nat.reduceSub, Nat.reduceMul, Nat.reduceLT, Nat.reduceLeDiff, Nat.reduceEqDiff, Nat.reduceBEq, reduceCtorEq, reduceIte, Int.natCast_zero, List.replicate_zero]
  | succ z ih =>
    intro acc hz ha
    have e2 : IntKind.i64.wrap (((z + 1 : Nat) : Int) - 1) = (z : Int) := by rw [w64 (by omega) (by omega)]; omega
    have e3 : (0 : Int) < ((z + 1 : Nat) : Int) := by omega
    have e4 : acc.length + 1 ≤ 140737488355328 := by omega
    have ih' := ih (acc ++ [48]) (by omega) (by simp; omega)
    simp only [List.append_assoc, List.cons_append, List.nil_append] at ih'
    rw [run_loop]
    simp only [r9_0, r9_1, r9_2, r9_3, r9_4, r9_5, r9_6, r9_7, r9_9, r9_10, r9_11, r9_12, r9_13, r9_14, r9_15, r9_16, r9_17, r9_19, r9_20, r9_21, r9_22, F9, q9_8, q9_18, q9, go_sem, UInt8.reduceLT, UInt8.reduceLE, Int.reduceToNat, Int.reduceLE, Int.reduceLT, Int.reduceEq, Int.reduceNe, Int.reduceNeg, Int.reduceAdd, Int.reduceSub, Int.reduceMul, Nat.reducePow, Nat.reduceDiv, Nat.reduceMod, Nat.reduceAdd, Nat.reduceSub, Nat.reduceMul, Nat.reduceLT, Nat.reduceLeDiff, Nat.reduceEqDiff, Nat.reduceBEq, reduceCtorEq, reduceIte, e2, e3, e4, ih', List.replicate_succ]
theorem alw_app {t : List UInt8} {lo hi : Int} (hc : chk 4 t lo hi = 0) (D : List UInt8) : alw 4 t lo hi (t ++ D) = (if lo ≤ numV D then decide (numV D ≤ hi) else false) := by
  unfold alw
  rw [if_pos hc, if_neg (by omega), if_neg (by omega), if_pos rfl, if_pos ⟨by simp, List.take_left⟩, List.drop_left]
theorem alw_neg {t : List UInt8} {lo hi : Int} (hc : chk 4 t lo hi = 0) {D : List UInt8} (h : numV D = -1) : alw 4 t lo hi (t ++ D) = false := by
  have := alw_4 (b := []) rfl hc
  rw [alw_app hc, h, if_neg (by omega)]
theorem numV_dec (n : Nat) (h : n ≤ 1000000000) : numV (dec n) = n := by
  have h1 : (dec n).length ≤ 10 := dec_lenk 9 n (by have : (10 : Nat) ^ 10 = 10000000000 := rfl; omega)
  rw [numV_eq (dec_ne n) h1 (dec_digs n), num_dec, if_pos rfl]
theorem numV_lead (n z : Nat) (hz : 1 ≤ z) : numV (List.replicate z 48 ++ dec n) = -1 := by
  obtain ⟨y, rfl⟩ : ∃ y, z = y + 1 := ⟨z - 1, by omega⟩
  have hl : 1 < (List.replicate (y + 1) (48 : UInt8) ++ dec n).length := by
    have : (dec n).length ≠ 0 := fun e => dec_ne n (List.length_eq_zero_iff.1 e)
    simp only [List.length_append, List.length_replicate]; omega
  unfold numV
  rw [if_neg (by intro e; rw [e] at hl; simp at hl)]
  split
  · rfl
  · rw [if_pos ⟨hl, rfl⟩]
theorem numV_sp (D : List UInt8) : numV (D ++ [32]) = -1 := numV_nd (by rw [digs_app]; simp [digs])
theorem chk_min {t : List UInt8} (ht : prn t = true) (hl : t.length ≤ 32) (a b : Nat) (hb : b ≤ 1000000000) : chk 4 t ((min a b : Nat) : Int) b = 0 := by
  unfold chk
  rw [if_neg (by omega), if_neg (by omega), if_pos ht, if_pos rfl, if_neg (by omega), if_neg (by omega), if_neg (by omega), if_neg (by omega)]
set_option maxHeartbeats 16000000 in
theorem f9 (S : List UInt8) (lo hi n z : Int) (l1 : -9223372036854775808 ≤ lo) (l2 : lo ≤ 9223372036854775807) (h1 : -9223372036854775808 ≤ hi) (h2 : hi ≤ 9223372036854775807)
    (n1 : -9223372036854775808 ≤ n) (n2 : n ≤ 9223372036854775807) (z1 : -9223372036854775808 ≤ z) (z2 : z ≤ 9223372036854775807) :
    call T 9 [.str S, .int .i64 lo, .int .i64 hi, .int .i64 n, .int .i64 z] [] 0 = some ⟨.bool true, [], []⟩ := by
  rw [call_code T_9]
  have g1 := f11 S 20
  have c20 : ((20 : Nat) : Int) = 20 := rfl
  rw [c20] at g1
  have hs : (S.take 20).length ≤ 20 := by rw [List.length_take]; omega
  generalize S.take 20 = s at *
  have hl := l9 s (by omega) lo hi n z _ 0 rfl (by omega)
  rw [tr_0] at hl
  simp only [Int.natCast_zero] at hl
  have ht := prn_gp s
  have htl : (s.map gp).length = s.length := List.length_map _
  have hs' : s.length ≤ 9223372036854775807 := by omega
  generalize s.map gp = t at *
  have htk : List.take s.length t = t := List.take_of_length_le (by omega)
  have q1 := f16 lo 2000 l1 l2 (by omega)
  have q2 := f16 hi 1000000001 h1 h2 (by omega)
  have q3 := f16 n 3000 n1 n2 (by omega)
  have q4 := f16 z 3 z1 z2 (by omega)
  obtain ⟨a, ha, ha2⟩ := modI_nat lo 1999
  obtain ⟨b, hb, hb2⟩ := modI_nat hi 1000000000
  obtain ⟨c, hc, hc2⟩ := modI_nat n 2999
  obtain ⟨y, hy, hy2⟩ := modI_nat z 2
  rw [show ((1999 + 1 : Nat) : Int) = 2000 from rfl] at ha
  rw [show ((1000000000 + 1 : Nat) : Int) = 1000000001 from rfl] at hb
  rw [show ((2999 + 1 : Nat) : Int) = 3000 from rfl] at hc
  rw [show ((2 + 1 : Nat) : Int) = 3 from rfl] at hy
  rw [ha] at q1
  rw [hb] at q2
  rw [hc] at q3
  rw [hy] at q4
  have em : (if b < a then (b : Int) else (a : Int)) = ((min a b : Nat) : Int) := by split <;> omega
  have hck := chk_min ht (by omega) a b hb2
  generalize hlo : ((min a b : Nat) : Int) = L at *
  have hdl : ∀ m : Nat, m ≤ 1000000000 → (dec m).length ≤ 10 := fun m hm => dec_lenk 9 m (by have : (10 : Nat) ^ 10 = 10000000000 := rfl; omega)
  have h0 := alw_neg hck (D := []) rfl
  rw [List.append_nil] at h0
  have a3 := f24 4 t L b t (by omega) (by omega)
  rw [h0] at a3
  have ht2 : s.length ≤ 140737488355328 := by omega
  by_cases hz : ibits .and .i64 z 4 = 4
  · have hdm := hdl b (by omega)
    have g26 := f26 b (by omega)
    have k1 := l9b (b : Nat) s.length L b t y [] (by omega) (by simp; omega)
    rw [List.nil_append] at k1
    have hsp := alw_neg hck (D := List.replicate y 48 ++ (dec b ++ [32])) (by rw [← List.append_assoc]; exact numV_sp _)
    have a2 := f24 4 t L b (t ++ (List.replicate y 48 ++ (dec b ++ [32]))) (by omega) (by simp; omega)
    rw [hsp] at a2
    have r1 : y + (dec b).length ≤ 140737488355328 := by omega
    have r2 : s.length + (y + (dec b).length) ≤ 140737488355328 := by omega
    have r3 : s.length + (y + ((dec b).length + 1)) ≤ 140737488355328 := by omega
    have r4 : s.length + (y + (dec b).length) + 1 ≤ 140737488355328 := by omega
    rcases Nat.eq_zero_or_pos y with hy0 | hy0
    · subst hy0
      have a1 := f24 4 t L b (t ++ dec b) (by omega) (by simp; omega)
      rw [alw_app hck, numV_dec b (by omega)] at a1
      simp only [List.replicate_zero, List.nil_append, Int.natCast_zero, Nat.zero_add] at k1 a2 r1 r2 r3 r4 q4
      by_cases h5 : L ≤ (b : Int)
      · rw [if_pos h5] at a1
        by_cases h6 : b ≤ b
        · rw [decide_eq_true (by omega : (b : Int) ≤ (b : Int))] at a1
          simp only [r9_0, r9_1, r9_2, r9_3, r9_4, r9_5, r9_6, r9_7, r9_9, r9_10, r9_11, r9_12, r9_13, r9_14, r9_15, r9_16, r9_17, r9_19, r9_20, r9_21, r9_22, F9, q9_8, q9_18, q9, go_sem, UInt8.reduceLT, UInt8.reduceLE, Int.reduceToNat, Int.reduceLE, Int.reduceLT, Int.reduceEq, Int.reduceNe, Int.reduceNeg, Int.reduceAdd, Int.reduceSub, Int.reduceMul, Nat.reducePow, Nat.reduceDiv, Nat.reduceMod, Nat.reduceAdd, Nat.reduceSub, Nat.reduceMul, Nat.reduceLT, Nat.reduceLeDiff, Nat.reduceEqDiff, Nat.reduceBEq, reduceCtorEq, reduceIte, f10, S_10, g1, S_11, hl, hs', q1, q2, q3, q4, S_16, hz, List.take_length, htl, htk, em, cz0, k1, g26, S_26, ht2, hdm, r1, r2, r3, r4, a1, a2, a3, S_24, h5, h6]
        · rw [decide_eq_false (by omega : ¬ (b : Int) ≤ (b : Int))] at a1
          simp only [r9_0, r9_1, r9_2, r9_3, r9_4, r9_5, r9_6, r9_7, r9_9, r9_10, r9_11, r9_12, r9_13, r9_14, r9_15, r9_16, r9_17, r9_19, r9_20, r9_21, r9_22, F9, q9_8, q9_18, q9, go_sem, UInt8.reduceLT, UInt8.reduceLE, Int.reduceToNat, Int.reduceLE, Int.reduceLT, Int.reduceEq, Int.reduceNe, Int.reduceNeg, Int.reduceAdd, Int.reduceSub, Int.reduceMul, Nat.reducePow, Nat.reduceDiv, Nat.reduceMod, Nat.reduceAdd, Nat.reduceSub, Nat.reduceMul, Nat.reduceLT, Nat.reduceLeDiff, Nat.reduceEqDiff, Nat.reduceBEq, reduceCtorEq, reduceIte, f10, S_10, g1, S_11, hl, hs', q1, q2, q3, q4, S_16, hz, List.take_length, htl, htk, em, cz0, k1, g26, S_26, ht2, hdm, r1, r2, r3, r4, a1, a2, a3, S_24, h5, h6]
      · rw [if_neg h5] at a1
        simp only [r9_0, r9_1, r9_2, r9_3, r9_4, r9_5, r9_6, r9_7, r9_9, r9_10, r9_11, r9_12, r9_13, r9_14, r9_15, r9_16, r9_17, r9_19, r9_20, r9_21, r9_22, F9, q9_8, q9_18, q9, go_sem, UInt8.reduceLT, UInt8.reduceLE, Int.reduceToNat, Int.reduceLE, Int.reduceLT, Int.reduceEq, Int.reduceNe, Int.reduceNeg, Int.reduceAdd, Int.reduceSub, Int.reduceMul, Nat.reducePow, Nat.reduceDiv, Nat.reduceMod, Nat.reduceAdd, Nat.reduceSub, Nat.reduceMul, Nat.reduceLT, Nat.reduceLeDiff, Nat.reduceEqDiff, Nat.reduceBEq, reduceCtorEq, reduceIte, f10, S_10, g1, S_11, hl, hs', q1, q2, q3, q4, S_16, hz, List.take_length, htl, htk, em, cz0, k1, g26, S_26, ht2, hdm, r1, r2, r3, r4, a1, a2, a3, S_24, h5]
    · have hy3 : (0 : Int) < (y : Int) := by omega
      have a1 := f24 4 t L b (t ++ (List.replicate y 48 ++ dec b)) (by omega) (by simp; omega)
      rw [alw_neg hck (numV_lead b y hy0)] at a1
      simp only [r9_0, r9_1, r9_2, r9_3, r9_4, r9_5, r9_6, r9_7, r9_9, r9_10, r9_11, r9_12, r9_13, r9_14, r9_15, r9_16, r9_17, r9_19, r9_20, r9_21, r9_22, F9, q9_8, q9_18, q9, go_sem, UInt8.reduceLT, UInt8.reduceLE, Int.reduceToNat, Int.reduceLE, Int.reduceLT, Int.reduceEq, Int.reduceNe, Int.reduceNeg, Int.reduceAdd, Int.reduceSub, Int.reduceMul, Nat.reducePow, Nat.reduceDiv, Nat.reduceMod, Nat.reduceAdd, Nat.reduceSub, Nat.reduceMul, Nat.reduceLT, Nat.reduceLeDiff, Nat.reduceEqDiff, Nat.reduceBEq, reduceCtorEq, reduceIte, f10, S_10, g1, S_11, hl, hs', q1, q2, q3, q4, S_16, hz, List.take_length, htl, htk, em, cz0, k1, g26, S_26, ht2, hdm, r1, r2, r3, r4, a1, a2, a3, S_24, hy3, hy0]
  · have hdm := hdl c (by omega)
    have g26 := f26 c (by omega)
    have k1 := l9b (c : Nat) s.length L b t y [] (by omega) (by simp; omega)
    rw [List.nil_append] at k1
    have hsp := alw_neg hck (D := List.replicate y 48 ++ (dec c ++ [32])) (by rw [← List.append_assoc]; exact numV_sp _)
    have a2 := f24 4 t L b (t ++ (List.replicate y 48 ++ (dec c ++ [32]))) (by omega) (by simp; omega)
    rw [hsp] at a2
    have r1 : y + (dec c).length ≤ 140737488355328 := by omega
    have r2 : s.length + (y + (dec c).length) ≤ 140737488355328 := by omega
    have r3 : s.length + (y + ((dec c).length + 1)) ≤ 140737488355328 := by omega
    have r4 : s.length + (y + (dec c).length) + 1 ≤ 140737488355328 := by omega
    rcases Nat.eq_zero_or_pos y with hy0 | hy0
    · subst hy0
      have a1 := f24 4 t L b (t ++ dec c) (by omega) (by simp; omega)
      rw [alw_app hck, numV_dec c (by omega)] at a1
      simp only [List.replicate_zero, List.nil_append, Int.natCast_zero, Nat.zero_add] at k1 a2 r1 r2 r3 r4 q4
      by_cases h5 : L ≤ (c : Int)
      · rw [if_pos h5] at a1
        by_cases h6 : c ≤ b
        · rw [decide_eq_true (by omega : (c : Int) ≤ (b : Int))] at a1
          simp only [r9_0, r9_1, r9_2, r9_3, r9_4, r9_5, r9_6, r9_7, r9_9, r9_10, r9_11, r9_12, r9_13, r9_14, r9_15, r9_16, r9_17, r9_19, r9_20, r9_21, r9_22, F9, q9_8, q9_18, q9, go_sem, UInt8.reduceLT, UInt8.reduceLE, Int.reduceToNat, Int.reduceLE, Int.reduceLT, Int.reduceEq, Int.reduceNe, Int.reduceNeg, Int.reduceAdd, Int.reduceSub, Int.reduceMul, Nat.reducePow, Nat.reduceDiv, Nat.reduceMod, Nat.reduceAdd, Nat.reduceSub, Nat.reduceMul, Nat.reduceLT, Nat.reduceLeDiff, Nat.reduceEqDiff, Nat.reduceBEq, reduceCtorEq, reduceIte, f10, S_10, g1, S_11, hl, hs', q1, q2, q3, q4, S_16, hz, List.take_length, htl, htk, em, cz0, k1, g26, S_26, ht2, hdm, r1, r2, r3, r4, a1, a2, a3, S_24, h5, h6]
        · rw [decide_eq_false (by omega : ¬ (c : Int) ≤ (b : Int))] at a1
          simp only [r9_0, r9_1, r9_2, r9_3, r9_4, r9_5, r9_6, r9_7, r9_9, r9_10, r9_11, r9_12, r9_13, r9_14, r9_15, r9_16, r9_17, r9_19, r9_20, r9_21, r9_22, F9, q9_8, q9_18, q9, go_sem, UInt8.reduceLT, UInt8.reduceLE, Int.reduceToNat, Int.reduceLE, Int.reduceLT, Int.reduceEq, Int.reduceNe, Int.reduceNeg, Int.reduceAdd, Int.reduceSub, Int.reduceMul, Nat.reducePow, Nat.reduceDiv, Nat.reduceMod, Nat.reduceAdd, Nat.reduceSub, Nat.reduceMul, Nat.reduceLT, Nat.reduceLeDiff, Nat.reduceEqDiff, Nat.reduceBEq, reduceCtorEq, reduceIte, f10, S_10, g1, S_11, hl, hs', q1, q2, q3, q4, S_16, hz, List.take_length, htl, htk, em, cz0, k1, g26, S_26, ht2, hdm, r1, r2, r3, r4, a1, a2, a3, S_24, h5, h6]
      · rw [if_neg h5] at a1
        simp only [r9_0, r9_1, r9_2, r9_3, r9_4, r9_5, r9_6, r9_7, r9_9, r9_10, r9_11, r9_12, r9_13, r9_14, r9_15, r9_16, r9_17, r9_19, r9_20, r9_21, r9_22, F9, q9_8, q9_18, q9, go_sem, UInt8.reduceLT, UInt8.reduceLE, Int.reduceToNat, Int.reduceLE, Int.reduceLT, Int.reduceEq, Int.reduceNe, Int.reduceNeg, Int.reduceAdd, Int.reduceSub, Int.reduceMul, Nat.reducePow, Nat.reduceDiv, Nat.reduceMod, Nat.reduceAdd, Nat.reduceSub, Nat.reduceMul, Nat.reduceLT, Nat.reduceLeDiff, Nat.reduceEqDiff, Nat.reduceBEq, reduceCtorEq, reduceIte, f10, S_10, g1, S_11, hl, hs', q1, q2, q3, q4, S_16, hz, List.take_length, htl, htk, em, cz0, k1, g26, S_26, ht2, hdm, r1, r2, r3, r4, a1, a2, a3, S_24, h5]
    · have hy3 : (0 : Int) < (y : Int) := by omega
      have a1 := f24 4 t L b (t ++ (List.replicate y 48 ++ dec c)) (by omega) (by simp; omega)
      rw [alw_neg hck (numV_lead c y hy0)] at a1
      simp only [r9_0, r9_1, r9_2, r9_3, r9_4, r9_5, r9_6, r9_7, r9_9, r9_10, r9_11, r9_12, r9_13, r9_14, r9_15, r9_16, r9_17, r9_19, r9_20, r9_21, r9_22, F9, q9_8, q9_18, q9, go_sem, UInt8.reduceLT, UInt8.reduceLE, Int.reduceToNat, Int.reduceLE, Int.reduceLT, Int.reduceEq, Int.reduceNe, Int.reduceNeg, Int.reduceAdd, Int.reduceSub, Int.reduceMul, Nat.reducePow, Nat.reduceDiv, Nat.reduceMod, Nat.reduceAdd, Nat.reduceSub, Nat.reduceMul, Nat.reduceLT, Nat.reduceLeDiff, Nat.reduceEqDiff, Nat.reduceBEq, reduceCtorEq, reduceIte, f10, S_10, g1, S_11, hl, hs', q1, q2, q3, q4, S_16, hz, List.take_length, htl, htk, em, cz0, k1, g26, S_26, ht2, hdm, r1, r2, r3, r4, a1, a2, a3, S_24, hy3, hy0]
end Go.Proofs.YtmekdaifojaoiaaDoor
