/-
  Decimal numbers; what the reference allows; RuleAllows.
-/
import Derived.Test.YtmekdaifojaoiaaDoorK
set_option maxRecDepth 100000
set_option linter.unusedSimpArgs false
set_option linter.unusedVariables false
namespace Go.Proofs.YtmekdaifojaoiaaDoor
open Go.Sy Go.Glob

def dg (d : Nat) : UInt8 := UInt8.ofInt ((48 + d : Nat) : Int)
theorem dg_ok : ∀ d, d < 10 → (dg d).toNat = 48 + d ∧ ¬ dg d < 48 ∧ ¬ 57 < dg d ∧ (d ≠ 0 → dg d ≠ 48) := by decide
def dec (n : Nat) : List UInt8 := if h : n < 10 then [dg n] else dec (n / 10) ++ [dg (n % 10)]
termination_by n
decreasing_by omega
theorem dec_lt {n : Nat} (h : n < 10) : dec n = [dg n] := by rw [dec, dif_pos h]
theorem dec_ge {n : Nat} (h : ¬ n < 10) : dec n = dec (n / 10) ++ [dg (n % 10)] := by rw [dec, dif_neg h]
theorem dec_len : ∀ n, (dec n).length ≤ n + 1 := by
  intro n
  induction n using Nat.strongRecOn with
  | _ n ih =>
    by_cases h : n < 10
    · rw [dec_lt h]; simp
    · have := ih (n / 10) (by omega)
      rw [dec_ge h, List.length_append, List.length_singleton]; omega
theorem dec_ne (n : Nat) : dec n ≠ [] := by
  by_cases h : n < 10
  · rw [dec_lt h]; simp
  · rw [dec_ge h]; simp
theorem dec_lenk : ∀ k n, n < 10 ^ (k + 1) → (dec n).length ≤ k + 1
  | 0, n, h => by rw [dec_lt (by simpa using h)]; simp
  | k + 1, n, h => by
    by_cases h1 : n < 10
    · rw [dec_lt h1]; simp
    · have := dec_lenk k (n / 10) (by rw [Nat.pow_succ] at h; omega)
      rw [dec_ge h1, List.length_append, List.length_singleton]; omega
theorem num_app : ∀ (s t : List UInt8) (a : Nat), num a (s ++ t) = num (num a s) t
  | [], _, _ => rfl
  | c :: s, t, a => num_app s t _
theorem num_snoc (s : List UInt8) (c : UInt8) (a : Nat) : num a (s ++ [c]) = num a s * 10 + (c.toNat - 48) := by rw [num_app]; rfl
theorem digs_cons (c : UInt8) (s : List UInt8) : digs (c :: s) = (decide (¬ c < 48 ∧ ¬ 57 < c) && digs s) := by
  simp only [digs]
  by_cases h1 : c < 48
  · rw [if_pos h1, decide_eq_false (by simp [h1])]; rfl
  · by_cases h2 : 57 < c
    · rw [if_neg h1, if_pos h2, decide_eq_false (by simp [h2])]; rfl
    · rw [if_neg h1, if_neg h2, decide_eq_true ⟨h1, h2⟩]; rfl
theorem digs_app : ∀ s t : List UInt8, digs (s ++ t) = (digs s && digs t)
  | [], _ => rfl
  | c :: s, t => by rw [List.cons_append, digs_cons, digs_cons, digs_app s t, Bool.and_assoc]
theorem digs_one {c : UInt8} (h : digs [c] = true) : ¬ c < 48 ∧ ¬ 57 < c := by
  rw [digs_cons, Bool.and_eq_true, decide_eq_true_eq] at h; exact h.1
theorem dec_digs : ∀ n, digs (dec n) = true := by
  intro n
  induction n using Nat.strongRecOn with
  | _ n ih =>
    by_cases h : n < 10
    · have := dg_ok n h
      rw [dec_lt h, digs_cons, decide_eq_true ⟨this.2.1, this.2.2.1⟩]; rfl
    · have := dg_ok (n % 10) (by omega)
      rw [dec_ge h, digs_app, ih (n / 10) (by omega), digs_cons, decide_eq_true ⟨this.2.1, this.2.2.1⟩]; rfl
theorem num_dec : ∀ n, num 0 (dec n) = n := by
  intro n
  induction n using Nat.strongRecOn with
  | _ n ih =>
    by_cases h : n < 10
    · have := dg_ok n h
      rw [dec_lt h]; show 0 * 10 + ((dg n).toNat - 48) = n; omega
    · have := dg_ok (n % 10) (by omega)
      rw [dec_ge h, num_snoc, ih (n / 10) (by omega)]; omega
theorem head_app {s t : List UInt8} (h : s ≠ []) : (s ++ t).getD 0 0 = s.getD 0 0 := by
  cases s with
  | nil => exact absurd rfl h
  | cons c s => rfl
theorem dec_head : ∀ n, 1 ≤ n → (dec n).getD 0 0 ≠ 48 := by
  intro n
  induction n using Nat.strongRecOn with
  | _ n ih =>
    intro h1
    by_cases h : n < 10
    · rw [dec_lt h]; exact (dg_ok n h).2.2.2 (by omega)
    · rw [dec_ge h, head_app (dec_ne _)]; exact ih (n / 10) (by omega) (by omega)
theorem dg_of (c : UInt8) (h1 : ¬ c < 48) (h2 : ¬ 57 < c) : dg (c.toNat - 48) = c ∧ c.toNat - 48 < 10 := by
  have h1' : 48 ≤ c.toNat := by simpa [UInt8.lt_iff_toNat_lt] using h1
  have h2' : c.toNat ≤ 57 := by simpa [UInt8.lt_iff_toNat_lt] using h2
  have h3 : c.toNat - 48 < 10 := by omega
  refine ⟨?_, h3⟩
  apply UInt8.toNat_inj.1
  rw [(dg_ok _ h3).1]; omega
theorem dec_step (N : Nat) (r : List UInt8) (c : UInt8) (h1 : ¬ c < 48) (h2 : ¬ 57 < c) (e1 : dec N = r) (e2 : 1 ≤ N) : dec (N * 10 + (c.toNat - 48)) = r ++ [c] ∧ 1 ≤ N * 10 + (c.toNat - 48) := by
  obtain ⟨q1, q2⟩ := dg_of c h1 h2
  generalize c.toNat - 48 = d at *
  have h3 : ¬ N * 10 + d < 10 := by omega
  refine ⟨?_, by omega⟩
  rw [dec_ge h3, show (N * 10 + d) / 10 = N from by omega, show (N * 10 + d) % 10 = d from by omega, e1, q1]
theorem dec_one (c : UInt8) (h1 : ¬ c < 48) (h2 : ¬ 57 < c) (hc : c ≠ 48) : dec (c.toNat - 48) = [c] ∧ 1 ≤ c.toNat - 48 := by
  obtain ⟨q1, q2⟩ := dg_of c h1 h2
  have h1' : 48 ≤ c.toNat := by simpa [UInt8.lt_iff_toNat_lt] using h1
  have : c.toNat ≠ 48 := fun e => hc (UInt8.toNat_inj.1 e)
  have h3 : 1 ≤ c.toNat - 48 := by omega
  exact ⟨by rw [dec_lt q2, q1], h3⟩
theorem num_one (c : UInt8) : num 0 [c] = c.toNat - 48 := by
  show 0 * 10 + (c.toNat - 48) = _
  generalize c.toNat - 48 = d
  omega
theorem dec_num : ∀ (n : Nat) (s : List UInt8), s.length = n → digs s = true → s ≠ [] → s.getD 0 0 ≠ 48 → dec (num 0 s) = s ∧ 1 ≤ num 0 s := by
  intro n
  induction n with
  | zero => intro s h _ h0; exact absurd (List.length_eq_zero_iff.1 h) h0
  | succ n ih =>
    intro s hl hd h0 hh
    obtain ⟨r, c, rfl⟩ : ∃ r c, s = r ++ [c] := ⟨s.dropLast, s.getLast h0, (List.dropLast_concat_getLast h0).symm⟩
    rw [digs_app, Bool.and_eq_true] at hd
    obtain ⟨h1, h2⟩ := digs_one hd.2
    rcases Classical.em (r = []) with hr | hr
    · subst hr
      have hc : c ≠ 48 := hh
      rw [List.nil_append, num_one]
      exact dec_one c h1 h2 hc
    · rw [head_app hr] at hh
      obtain ⟨e1, e2⟩ := ih r (by simpa using hl) hd.1 hr hh
      rw [num_snoc]
      generalize num 0 r = N at *
      exact dec_step N r c h1 h2 e1 e2
theorem numV_eq {s : List UInt8} (h0 : s ≠ []) (h1 : s.length ≤ 10) (h2 : digs s = true) : numV s = if dec (num 0 s) = s then ((num 0 s : Nat) : Int) else -1 := by
  unfold numV
  rw [if_neg h0, if_neg (show ¬ 10 < s.length by omega)]
  by_cases h3 : 1 < s.length ∧ s.getD 0 0 = 48
  · rw [if_pos h3, if_neg]
    intro e
    by_cases hz : 1 ≤ num 0 s
    · have := dec_head _ hz
      rw [e] at this
      exact this h3.2
    · rw [show num 0 s = 0 from by omega, dec_lt (by omega)] at e
      have := h3.1
      rw [← e] at this
      simp at this
  · rw [if_neg h3, if_pos h2, if_pos]
    by_cases hh : s.getD 0 0 = 48
    · have hl : s.length = 1 := by
        have : s.length ≠ 0 := fun e => h0 (List.length_eq_zero_iff.1 e)
        have h4 : ¬ 1 < s.length := fun q => h3 ⟨q, hh⟩
        omega
      match s, hl with
      | [c], _ =>
        have hc : c = 48 := hh
        subst hc
        rw [show num 0 [48] = 0 from rfl, dec_lt (by omega)]; rfl
    · exact (dec_num _ s rfl h2 h0 hh).1
theorem numV_nd {s : List UInt8} (h2 : digs s = false) : numV s = -1 := by
  unfold numV
  rw [h2]
  repeat' split
  all_goals first | rfl | (rename_i h; cases h)
theorem numV_nil : numV [] = -1 := rfl
theorem numV_long {s : List UInt8} (h : 10 < s.length) : numV s = -1 := by
  unfold numV
  split
  · rfl
  · first | rfl | rw [if_pos h]
set_option maxHeartbeats 4000000 in
theorem f32 : ∀ n : Nat, n ≤ 1000000000000 → call T 32 [.int .i64 n] [] 0 = some ⟨.byt (dec n) (.id 60), [], [60]⟩ := by
  intro n
  induction n using Nat.strongRecOn with
  | _ n ih =>
    intro hn
    rw [call_code T_32]
    by_cases h : n < 10
    · have h' : (n : Int) < 10 := by omega
      have e1 : IntKind.i64.wrap (48 + (n : Int)) = ((48 + n : Nat) : Int) := by rw [w64 (by omega) (by omega)]; omega
      have e2 : UInt8.ofInt ((48 + n : Nat) : Int) = dg n := rfl
      simp only [r32_0, r32_1, r32_2, r32_3, F32, q32, go_sem, UInt8.reduceLT, UInt8.reduceLE, Int.reduceToNat, Int.reduceLE, Int.reduceLT, Int.reduceEq, Int.reduceNe, Int.reduceNeg, Int.reduceAdd, Int.reduceSub, Int.reduceMul, Nat.reducePow, Nat.reduceDiv, Nat.reduceMod, Nat.reduceAdd, Nat.reduceSub, Nat.reduceMul, Nat.reduceLT, Nat.reduceLeDiff, Nat.reduceEqDiff, Nat.reduceBEq, reduceCtorEq, reduceIte, h', e1, e2, dec_lt h]
    · have h' : ¬ (n : Int) < 10 := by omega
      have i1 := ih (n / 10) (by omega) (by omega)
      have e0 : (n : Int).tdiv 10 = ((n / 10 : Nat) : Int) := rfl
      have e0' : (n : Int).tmod 10 = ((n % 10 : Nat) : Int) := rfl
      have e00 : IntKind.i64.wrap ((n / 10 : Nat) : Int) = ((n / 10 : Nat) : Int) := w64 (by omega) (by omega)
      have e1 : IntKind.i64.wrap (48 + ((n % 10 : Nat) : Int)) = ((48 + n % 10 : Nat) : Int) := by rw [w64 (by omega) (by omega)]; omega
      have e2 : UInt8.ofInt ((48 + n % 10 : Nat) : Int) = dg (n % 10) := rfl
      have hl := dec_len (n / 10)
      have hl2 : (dec (n / 10)).length + 1 ≤ 140737488355328 := by omega
      simp only [r32_0, r32_1, r32_2, r32_3, F32, q32, go_sem, UInt8.reduceLT, UInt8.reduceLE, Int.reduceToNat, Int.reduceLE, Int.reduceLT, Int.reduceEq, Int.reduceNe, Int.reduceNeg, Int.reduceAdd, Int.reduceSub, Int.reduceMul, Nat.reducePow, Nat.reduceDiv, Nat.reduceMod, Nat.reduceAdd, Nat.reduceSub, Nat.reduceMul, Nat.reduceLT, Nat.reduceLeDiff, Nat.reduceEqDiff, Nat.reduceBEq, reduceCtorEq, reduceIte, h', i1, e0, e0', e00, e1, e2, hl2, S_32, dec_ge h]
set_option maxHeartbeats 4000000 in
theorem l25 (b : List UInt8) (k : Int) (t : List UInt8) (lo hi : Int) (nn : Int) : ∀ (m i v j : Nat), b.length - i = m → i ≤ b.length → b.length ≤ 1000000000000 → v < 10 ^ j → j + m ≤ 10 →
    run T (.loop r25_20) ⟨[(1, .byt b .no), (2, .ptr 102 0), (5, .int .i64 nn), (6, .int .i64 v), (7, .int .i64 i)], [(102, .rc [.int .i64 k, .str t, .int .i64 lo, .int .i64 hi])], []⟩ =
    if digs (b.drop i) then some (.x 1, ⟨[(1, .byt b .no), (2, .ptr 102 0), (5, .int .i64 nn), (6, .int .i64 (num v (b.drop i) : Nat))], [(102, .rc [.int .i64 k, .str t, .int .i64 lo, .int .i64 hi])], []⟩)
    else some (.r, ⟨[(4, .bool false)], [(102, .rc [.int .i64 k, .str t, .int .i64 lo, .int .i64 hi])], []⟩) := by
  intro m
  induction m with
  | zero =>
    intro i v j h0 h1 hb hv hj
    have hi : i = b.length := by omega
    subst hi
    have hn : num v (b.drop b.length) = v := by rw [List.drop_length]; rfl
    have hd : digs (b.drop b.length) = true := by rw [List.drop_length]; rfl
    rw [run_loop, hd, hn]
    simp only [r25_0, r25_1, r25_2, r25_3, r25_4, r25_5, r25_6, r25_7, r25_8, r25_9, r25_10, r25_11, r25_12, r25_13, r25_14, r25_15, r25_16, r25_17, r25_18, r25_19, r25_21, F25, q25_20, q25, go_sem, UInt8.reduceLT, UInt8.reduceLE, Int.reduceToNat, Int.reduceLE, Int.reduceLT, Int.reduceEq, Int.reduceNe, Int.reduceNeg, Int.reduceAdd, Int.reduceSub, Int.reduceMul, Nat.reducePow, Nat.reduceDiv, Nat.reduceMod, Nat.reduceAdd, Nat.reduceSub, Nat.reduceMul, Nat.reduceLT, Nat.reduceLeDiff, Nat.reduceEqDiff, Nat.reduceBEq, reduceCtorEq, reduceIte]
  | succ m ih =>
    intro i v j h0 h1 hb hv hj
    have hi : i < b.length := by omega
    have e1 := wsucc i (by omega)
    have hn : num v (b.drop i) = num (v * 10 + ((b.getD i 0).toNat - 48)) (b.drop (i + 1)) := by rw [drop_cons0 b i hi]; rfl
    have hd : digs (b.drop i) = (if b.getD i 0 < 48 then false else if 57 < b.getD i 0 then false else digs (b.drop (i + 1))) := by rw [drop_cons0 b i hi]; rfl
    rw [run_loop, hd, hn]
    by_cases h2 : b.getD i 0 < 48
    · simp only [r25_0, r25_1, r25_2, r25_3, r25_4, r25_5, r25_6, r25_7, r25_8, r25_9, r25_10, r25_11, r25_12, r25_13, r25_14, r25_15, r25_16, r25_17, r25_18, r25_19, r25_21, F25, q25_20, q25, go_sem, UInt8.reduceLT, UInt8.reduceLE, Int.reduceToNat, Int.reduceLE, Int.reduceLT, Int.reduceEq, Int.reduceNe, Int.reduceNeg, Int.reduceAdd, Int.reduceSub, Int.reduceMul, Nat.reducePow, Nat.reduceDiv, Nat.reduceMod, Nat.reduceAdd, Nat.reduceSub, Nat.reduceMul, Nat.reduceLT, Nat.reduceLeDiff, Nat.reduceEqDiff, Nat.reduceBEq, reduceCtorEq, reduceIte, hi, e1, h2]
    · by_cases h3 : 57 < b.getD i 0
      · simp only [r25_0, r25_1, r25_2, r25_3, r25_4, r25_5, r25_6, r25_7, r25_8, r25_9, r25_10, r25_11, r25_12, r25_13, r25_14, r25_15, r25_16, r25_17, r25_18, r25_19, r25_21, F25, q25_20, q25, go_sem, UInt8.reduceLT, UInt8.reduceLE, Int.reduceToNat, Int.reduceLE, Int.reduceLT, Int.reduceEq, Int.reduceNe, Int.reduceNeg, Int.reduceAdd, Int.reduceSub, Int.reduceMul, Nat.reducePow, Nat.reduceDiv, Nat.reduceMod, Nat.reduceAdd, Nat.reduceSub, Nat.reduceMul, Nat.reduceLT, Nat.reduceLeDiff, Nat.reduceEqDiff, Nat.reduceBEq, reduceCtorEq, reduceIte, hi, e1, h2, h3]
      · obtain ⟨q1, q2, q3⟩ := dig_sub _ h2 h3
        have hp : 10 ^ j ≤ 10 ^ 9 := Nat.pow_le_pow_right (by omega) (by omega)
        have hv9 : v < 1000000000 := by have : (10 : Nat) ^ 9 = 1000000000 := rfl; omega
        have hv' : v * 10 + ((b.getD i 0).toNat - 48) < 10 ^ (j + 1) := by rw [Nat.pow_succ]; omega
        have ih' := ih (i + 1) (v * 10 + ((b.getD i 0).toNat - 48)) (j + 1) (by omega) (by omega) hb hv' (by omega)
        have e2 : IntKind.i64.wrap (10 * (v : Int)) = ((10 * v : Nat) : Int) := by rw [w64 (by omega) (by omega)]; omega
        have e3 : IntKind.i64.wrap (((10 * v : Nat) : Int) + ((b.getD i 0 - 48).toNat : Nat)) = ((v * 10 + ((b.getD i 0).toNat - 48) : Nat) : Int) := by rw [q1, w64 (by omega) (by omega)]; omega
        generalize v * 10 + ((b.getD i 0).toNat - 48) = v' at *
        simp only [r25_0, r25_1, r25_2, r25_3, r25_4, r25_5, r25_6, r25_7, r25_8, r25_9, r25_10, r25_11, r25_12, r25_13, r25_14, r25_15, r25_16, r25_17, r25_18, r25_19, r25_21, F25, q25_20, q25, go_sem, UInt8.reduceLT, UInt8.reduceLE, Int.reduceToNat, Int.reduceLE, Int.reduceLT, Int.reduceEq, Int.reduceNe, Int.reduceNeg, Int.reduceAdd, Int.reduceSub, Int.reduceMul, Nat.reducePow, Nat.reduceDiv, Nat.reduceMod, Nat.reduceAdd, Nat.reduceSub, Nat.reduceMul, Nat.reduceLT, Nat.reduceLeDiff, Nat.reduceEqDiff, Nat.reduceBEq, reduceCtorEq, reduceIte, hi, e1, h2, h3, e2, e3, ih']
theorem alw_4 {k lo hi : Int} {t b : List UInt8} (hk : k = 4) (hc : chk k t lo hi = 0) : 0 ≤ lo := by
  subst hk
  unfold chk at hc
  by_cases h : prn t = true
  · rw [if_neg (by omega), if_neg (by omega), if_pos h, if_pos rfl] at hc
    by_cases h1 : lo < 0
    · rw [if_pos h1] at hc; cases hc
    · omega
  · rw [if_neg (by omega), if_neg (by omega), if_neg h] at hc; cases hc
set_option maxHeartbeats 16000000 in
theorem f25 (k : Int) (t : List UInt8) (lo hi : Int) (b : List UInt8) (ht : t.length ≤ 1000000000000) (hb : b.length ≤ 1000000000000) :
    call T 25 [.agg [.int .i64 k, .str t, .int .i64 lo, .int .i64 hi], .byt b .no] [] 0 = some ⟨.bool (alw k t lo hi b), [], []⟩ := by
  rw [call_code T_25]
  have h := f15 k t lo hi ht
  unfold alw
  by_cases c0 : chk k t lo hi = 0
  · by_cases c1 : k = 1
    · subst c1
      simp only [r25_0, r25_1, r25_2, r25_3, r25_4, r25_5, r25_6, r25_7, r25_8, r25_9, r25_10, r25_11, r25_12, r25_13, r25_14, r25_15, r25_16, r25_17, r25_18, r25_19, r25_21, F25, q25_20, q25, go_sem, UInt8.reduceLT, UInt8.reduceLE, Int.reduceToNat, Int.reduceLE, Int.reduceLT, Int.reduceEq, Int.reduceNe, Int.reduceNeg, Int.reduceAdd, Int.reduceSub, Int.reduceMul, Nat.reducePow, Nat.reduceDiv, Nat.reduceMod, Nat.reduceAdd, Nat.reduceSub, Nat.reduceMul, Nat.reduceLT, Nat.reduceLeDiff, Nat.reduceEqDiff, Nat.reduceBEq, reduceCtorEq, reduceIte, h, S_15, c0]
    by_cases c2 : k = 2
    · subst c2
      have g := f31 t b
      by_cases c3 : b = t
      · subst c3
        have g := f31 b b (by omega)
        simp only [r25_0, r25_1, r25_2, r25_3, r25_4, r25_5, r25_6, r25_7, r25_8, r25_9, r25_10, r25_11, r25_12, r25_13, r25_14, r25_15, r25_16, r25_17, r25_18, r25_19, r25_21, F25, q25_20, q25, go_sem, UInt8.reduceLT, UInt8.reduceLE, Int.reduceToNat, Int.reduceLE, Int.reduceLT, Int.reduceEq, Int.reduceNe, Int.reduceNeg, Int.reduceAdd, Int.reduceSub, Int.reduceMul, Nat.reducePow, Nat.reduceDiv, Nat.reduceMod, Nat.reduceAdd, Nat.reduceSub, Nat.reduceMul, Nat.reduceLT, Nat.reduceLeDiff, Nat.reduceEqDiff, Nat.reduceBEq, reduceCtorEq, reduceIte, h, S_15, c0, g, S_31]
      · have c3' : ¬ t = b := fun e => c3 e.symm
        have g := f31 t b (by omega)
        simp only [r25_0, r25_1, r25_2, r25_3, r25_4, r25_5, r25_6, r25_7, r25_8, r25_9, r25_10, r25_11, r25_12, r25_13, r25_14, r25_15, r25_16, r25_17, r25_18, r25_19, r25_21, F25, q25_20, q25, go_sem, UInt8.reduceLT, UInt8.reduceLE, Int.reduceToNat, Int.reduceLE, Int.reduceLT, Int.reduceEq, Int.reduceNe, Int.reduceNeg, Int.reduceAdd, Int.reduceSub, Int.reduceMul, Nat.reducePow, Nat.reduceDiv, Nat.reduceMod, Nat.reduceAdd, Nat.reduceSub, Nat.reduceMul, Nat.reduceLT, Nat.reduceLeDiff, Nat.reduceEqDiff, Nat.reduceBEq, reduceCtorEq, reduceIte, h, S_15, c0, g, S_31, c3, c3']
    by_cases c3 : k = 3
    · subst c3
      simp only [r25_0, r25_1, r25_2, r25_3, r25_4, r25_5, r25_6, r25_7, r25_8, r25_9, r25_10, r25_11, r25_12, r25_13, r25_14, r25_15, r25_16, r25_17, r25_18, r25_19, r25_21, F25, q25_20, q25, go_sem, UInt8.reduceLT, UInt8.reduceLE, Int.reduceToNat, Int.reduceLE, Int.reduceLT, Int.reduceEq, Int.reduceNe, Int.reduceNeg, Int.reduceAdd, Int.reduceSub, Int.reduceMul, Nat.reducePow, Nat.reduceDiv, Nat.reduceMod, Nat.reduceAdd, Nat.reduceSub, Nat.reduceMul, Nat.reduceLT, Nat.reduceLeDiff, Nat.reduceEqDiff, Nat.reduceBEq, reduceCtorEq, reduceIte, h, S_15, c0, f21 t b ht hb, S_21]
    have c4 : k = 4 := by
      unfold chk at c0
      by_cases q1 : k < 1
      · rw [if_pos q1] at c0; cases c0
      by_cases q2 : 4 < k
      · rw [if_neg q1, if_pos q2] at c0; cases c0
      omega
    have hlo := alw_4 (b := b) c4 c0
    subst c4
    have e1 : IntKind.i64.wrap ((t.length : Int) + 10) = ((t.length + 10 : Nat) : Int) := by rw [w64 (by omega) (by omega)]; omega
    have hneg : ¬ lo ≤ -1 := by omega
    by_cases d1 : b.length ≤ t.length
    · have hv : (t.length ≤ b.length ∧ b.take t.length = t) → numV (b.drop t.length) = -1 := by
        rintro ⟨q, _⟩
        rw [List.drop_eq_nil_of_le d1]; rfl
      by_cases q : t.length ≤ b.length ∧ b.take t.length = t
      · rw [if_pos q, hv q]
        simp only [r25_0, r25_1, r25_2, r25_3, r25_4, r25_5, r25_6, r25_7, r25_8, r25_9, r25_10, r25_11, r25_12, r25_13, r25_14, r25_15, r25_16, r25_17, r25_18, r25_19, r25_21, F25, q25_20, q25, go_sem, UInt8.reduceLT, UInt8.reduceLE, Int.reduceToNat, Int.reduceLE, Int.reduceLT, Int.reduceEq, Int.reduceNe, Int.reduceNeg, Int.reduceAdd, Int.reduceSub, Int.reduceMul, Nat.reducePow, Nat.reduceDiv, Nat.reduceMod, Nat.reduceAdd, Nat.reduceSub, Nat.reduceMul, Nat.reduceLT, Nat.reduceLeDiff, Nat.reduceEqDiff, Nat.reduceBEq, reduceCtorEq, reduceIte, h, S_15, c0, d1, hneg]
      · simp only [r25_0, r25_1, r25_2, r25_3, r25_4, r25_5, r25_6, r25_7, r25_8, r25_9, r25_10, r25_11, r25_12, r25_13, r25_14, r25_15, r25_16, r25_17, r25_18, r25_19, r25_21, F25, q25_20, q25, go_sem, UInt8.reduceLT, UInt8.reduceLE, Int.reduceToNat, Int.reduceLE, Int.reduceLT, Int.reduceEq, Int.reduceNe, Int.reduceNeg, Int.reduceAdd, Int.reduceSub, Int.reduceMul, Nat.reducePow, Nat.reduceDiv, Nat.reduceMod, Nat.reduceAdd, Nat.reduceSub, Nat.reduceMul, Nat.reduceLT, Nat.reduceLeDiff, Nat.reduceEqDiff, Nat.reduceBEq, reduceCtorEq, reduceIte, h, S_15, c0, d1, q]
    by_cases d2 : t.length + 10 < b.length
    · have hv : numV (b.drop t.length) = -1 := numV_long (by rw [List.length_drop]; omega)
      rw [hv]
      by_cases q : t.length ≤ b.length ∧ b.take t.length = t
      · simp only [r25_0, r25_1, r25_2, r25_3, r25_4, r25_5, r25_6, r25_7, r25_8, r25_9, r25_10, r25_11, r25_12, r25_13, r25_14, r25_15, r25_16, r25_17, r25_18, r25_19, r25_21, F25, q25_20, q25, go_sem, UInt8.reduceLT, UInt8.reduceLE, Int.reduceToNat, Int.reduceLE, Int.reduceLT, Int.reduceEq, Int.reduceNe, Int.reduceNeg, Int.reduceAdd, Int.reduceSub, Int.reduceMul, Nat.reducePow, Nat.reduceDiv, Nat.reduceMod, Nat.reduceAdd, Nat.reduceSub, Nat.reduceMul, Nat.reduceLT, Nat.reduceLeDiff, Nat.reduceEqDiff, Nat.reduceBEq, reduceCtorEq, reduceIte, h, S_15, c0, d1, d2, e1, hneg, q]
      · simp only [r25_0, r25_1, r25_2, r25_3, r25_4, r25_5, r25_6, r25_7, r25_8, r25_9, r25_10, r25_11, r25_12, r25_13, r25_14, r25_15, r25_16, r25_17, r25_18, r25_19, r25_21, F25, q25_20, q25, go_sem, UInt8.reduceLT, UInt8.reduceLE, Int.reduceToNat, Int.reduceLE, Int.reduceLT, Int.reduceEq, Int.reduceNe, Int.reduceNeg, Int.reduceAdd, Int.reduceSub, Int.reduceMul, Nat.reducePow, Nat.reduceDiv, Nat.reduceMod, Nat.reduceAdd, Nat.reduceSub, Nat.reduceMul, Nat.reduceLT, Nat.reduceLeDiff, Nat.reduceEqDiff, Nat.reduceBEq, reduceCtorEq, reduceIte, h, S_15, c0, d1, d2, e1, hneg, q]
    have d3 : t.length ≤ b.length := by omega
    have g := f31 t (b.take t.length) (by omega)
    by_cases q : b.take t.length = t
    · rw [q] at g
      have hl := l25 b 4 t lo hi t.length _ t.length 0 0 rfl d3 hb (by simp) (by omega)
      simp only [Int.natCast_zero] at hl
      have hne : b.drop t.length ≠ [] := by
        intro e
        have := congrArg List.length e
        rw [List.length_drop] at this
        simp at this
        omega
      have hl10 : (b.drop t.length).length ≤ 10 := by rw [List.length_drop]; omega
      cases hd : digs (b.drop t.length) with
      | false =>
        rw [numV_nd hd]
        rw [hd] at hl
        simp only [r25_0, r25_1, r25_2, r25_3, r25_4, r25_5, r25_6, r25_7, r25_8, r25_9, r25_10, r25_11, r25_12, r25_13, r25_14, r25_15, r25_16, r25_17, r25_18, r25_19, r25_21, F25, q25_20, q25, go_sem, UInt8.reduceLT, UInt8.reduceLE, Int.reduceToNat, Int.reduceLE, Int.reduceLT, Int.reduceEq, Int.reduceNe, Int.reduceNeg, Int.reduceAdd, Int.reduceSub, Int.reduceMul, Nat.reducePow, Nat.reduceDiv, Nat.reduceMod, Nat.reduceAdd, Nat.reduceSub, Nat.reduceMul, Nat.reduceLT, Nat.reduceLeDiff, Nat.reduceEqDiff, Nat.reduceBEq, reduceCtorEq, reduceIte, h, S_15, c0, d1, d2, d3, e1, hneg, q, g, S_31, hl]
      | true =>
        rw [numV_eq hne hl10 hd]
        rw [hd] at hl
        generalize hr : b.drop t.length = r at *
        have hnb : num 0 r ≤ 1000000000000 := by
          have key : ∀ (s : List UInt8) (a j : Nat), digs s = true → a < 10 ^ j → num a s < 10 ^ (j + s.length) := by
            intro s
            induction s with
            | nil => intro a j _ h; exact h
            | cons c s ih =>
              intro a j hd ha
              rw [digs_cons, Bool.and_eq_true, decide_eq_true_eq] at hd
              obtain ⟨_, _, q3⟩ := dig_sub c hd.1.1 hd.1.2
              have := ih (a * 10 + (c.toNat - 48)) (j + 1) hd.2 (by rw [Nat.pow_succ]; omega)
              rw [List.length_cons, show j + (s.length + 1) = j + 1 + s.length from by omega]
              exact this
          have h1 := key r 0 0 hd (by simp)
          have h2 : 10 ^ (0 + r.length) ≤ 10 ^ 10 := Nat.pow_le_pow_right (by omega) (by omega)
          have : (10 : Nat) ^ 10 = 10000000000 := rfl
          omega
        have g2 := f32 (num 0 r) hnb
        have g3 := f31 (dec (num 0 r)) r (by have := dec_lenk 12 (num 0 r) (by have : (10 : Nat) ^ 13 = 10000000000000 := rfl; omega); omega)
        generalize num 0 r = v at *
        by_cases q5 : dec v = r
        · rw [q5] at g2 g3
          by_cases q6 : lo ≤ (v : Int)
          · simp only [r25_0, r25_1, r25_2, r25_3, r25_4, r25_5, r25_6, r25_7, r25_8, r25_9, r25_10, r25_11, r25_12, r25_13, r25_14, r25_15, r25_16, r25_17, r25_18, r25_19, r25_21, F25, q25_20, q25, go_sem, UInt8.reduceLT, UInt8.reduceLE, Int.reduceToNat, Int.reduceLE, Int.reduceLT, Int.reduceEq, Int.reduceNe, Int.reduceNeg, Int.reduceAdd, Int.reduceSub, Int.reduceMul, Nat.reducePow, Nat.reduceDiv, Nat.reduceMod, Nat.reduceAdd, Nat.reduceSub, Nat.reduceMul, Nat.reduceLT, Nat.reduceLeDiff, Nat.reduceEqDiff, Nat.reduceBEq, reduceCtorEq, reduceIte, h, S_15, c0, d1, d2, d3, e1, q, g, S_31, hl, List.take_length, hr, g2, S_32, g3, q5, q6]
          · simp only [r25_0, r25_1, r25_2, r25_3, r25_4, r25_5, r25_6, r25_7, r25_8, r25_9, r25_10, r25_11, r25_12, r25_13, r25_14, r25_15, r25_16, r25_17, r25_18, r25_19, r25_21, F25, q25_20, q25, go_sem, UInt8.reduceLT, UInt8.reduceLE, Int.reduceToNat, Int.reduceLE, Int.reduceLT, Int.reduceEq, Int.reduceNe, Int.reduceNeg, Int.reduceAdd, Int.reduceSub, Int.reduceMul, Nat.reducePow, Nat.reduceDiv, Nat.reduceMod, Nat.reduceAdd, Nat.reduceSub, Nat.reduceMul, Nat.reduceLT, Nat.reduceLeDiff, Nat.reduceEqDiff, Nat.reduceBEq, reduceCtorEq, reduceIte, h, S_15, c0, d1, d2, d3, e1, q, g, S_31, hl, List.take_length, hr, g2, S_32, g3, q5, q6]
        · simp only [r25_0, r25_1, r25_2, r25_3, r25_4, r25_5, r25_6, r25_7, r25_8, r25_9, r25_10, r25_11, r25_12, r25_13, r25_14, r25_15, r25_16, r25_17, r25_18, r25_19, r25_21, F25, q25_20, q25, go_sem, UInt8.reduceLT, UInt8.reduceLE, Int.reduceToNat, Int.reduceLE, Int.reduceLT, Int.reduceEq, Int.reduceNe, Int.reduceNeg, Int.reduceAdd, Int.reduceSub, Int.reduceMul, Nat.reducePow, Nat.reduceDiv, Nat.reduceMod, Nat.reduceAdd, Nat.reduceSub, Nat.reduceMul, Nat.reduceLT, Nat.reduceLeDiff, Nat.reduceEqDiff, Nat.reduceBEq, reduceCtorEq, reduceIte, h, S_15, c0, d1, d2, d3, e1, hneg, q, g, S_31, hl, List.take_length, hr, g2, S_32, g3, q5]
    · have q' : ¬ t = b.take t.length := fun e => q e.symm
      simp only [r25_0, r25_1, r25_2, r25_3, r25_4, r25_5, r25_6, r25_7, r25_8, r25_9, r25_10, r25_11, r25_12, r25_13, r25_14, r25_15, r25_16, r25_17, r25_18, r25_19, r25_21, F25, q25_20, q25, go_sem, UInt8.reduceLT, UInt8.reduceLE, Int.reduceToNat, Int.reduceLE, Int.reduceLT, Int.reduceEq, Int.reduceNe, Int.reduceNeg, Int.reduceAdd, Int.reduceSub, Int.reduceMul, Nat.reducePow, Nat.reduceDiv, Nat.reduceMod, Nat.reduceAdd, Nat.reduceSub, Nat.reduceMul, Nat.reduceLT, Nat.reduceLeDiff, Nat.reduceEqDiff, Nat.reduceBEq, reduceCtorEq, reduceIte, h, S_15, c0, d1, d2, d3, e1, q, q', g, S_31]
  · simp only [r25_0, r25_1, r25_2, r25_3, r25_4, r25_5, r25_6, r25_7, r25_8, r25_9, r25_10, r25_11, r25_12, r25_13, r25_14, r25_15, r25_16, r25_17, r25_18, r25_19, r25_21, F25, q25_20, q25, go_sem, UInt8.reduceLT, UInt8.reduceLE, Int.reduceToNat, Int.reduceLE, Int.reduceLT, Int.reduceEq, Int.reduceNe, Int.reduceNeg, Int.reduceAdd, Int.reduceSub, Int.reduceMul, Nat.reducePow, Nat.reduceDiv, Nat.reduceMod, Nat.reduceAdd, Nat.reduceSub, Nat.reduceMul, Nat.reduceLT, Nat.reduceLeDiff, Nat.reduceEqDiff, Nat.reduceBEq, reduceCtorEq, reduceIte, h, S_15, c0]
set_option maxHeartbeats 8000000 in
theorem f8 (k : Int) (t : List UInt8) (lo hi : Int) (b C M : List UInt8) :
    call T 8 [.agg [.int .i64 k, .str t, .int .i64 lo, .int .i64 hi], .byt b .no, .byt C .no, .byt M .no] [] 0 = some ⟨.bool true, [], []⟩ := by
  rw [call_code T_8]
  have g1 := f11 t 60
  have g0 := f17 b 60
  have g2 := f12 C 10
  have g6 := f12 M 4
  obtain ⟨k', t', lo', hi', j, hc, ht', g3⟩ := f13 (C.take 10) 0 (by rw [List.length_take]; omega)
  have g7 := f23 (M.take 4) 0 (by rw [List.length_take]; omega)
  have hl := (lineT_ok _ (nextV_lt (M.take 4) 0 6 (by omega))).2
  have ht : (t.take 60).length ≤ 60 := by rw [List.length_take]; omega
  have hb : (b.take 60).length ≤ 60 := by rw [List.length_take]; omega
  generalize t.take 60 = u at *
  generalize b.take 60 = c at *
  generalize lineT (nextV (M.take 4) 0 6) = l at *
  have c60 : ((60 : Nat) : Int) = 60 := rfl
  have c10 : ((10 : Nat) : Int) = 10 := rfl
  rw [c60] at g0 g1
  rw [c10] at g2
  rw [cz4] at g6
  have a1 := f24 k u lo hi c (by omega) (by omega)
  have a2 := f25 k u lo hi c (by omega) (by omega)
  have b1 := f24 k' t' lo' hi' c (by omega) (by omega)
  have b2 := f25 k' t' lo' hi' c (by omega) (by omega)
  have d1 := f24 k' t' lo' hi' l (by omega) (by omega)
  have d2 := f25 k' t' lo' hi' l (by omega) (by omega)
  simp only [codesO, Int.natCast_zero] at g2 g3 g6 g7
  simp only [r8_0, r8_1, r8_2, r8_3, r8_4, r8_5, r8_6, r8_7, F8, q8, go_sem, UInt8.reduceLT, UInt8.reduceLE, Int.reduceToNat, Int.reduceLE, Int.reduceLT, Int.reduceEq, Int.reduceNe, Int.reduceNeg, Int.reduceAdd, Int.reduceSub, Int.reduceMul, Nat.reducePow, Nat.reduceDiv, Nat.reduceMod, Nat.reduceAdd, Nat.reduceSub, Nat.reduceMul, Nat.reduceLT, Nat.reduceLeDiff, Nat.reduceEqDiff, Nat.reduceBEq, reduceCtorEq, reduceIte, f10, S_10, g1, S_11, g0, S_17, g2, S_12, g3, S_13, g6, g7, S_23, a1, a2, b1, b2, d1, d2, S_24, S_25]
end Go.Proofs.YtmekdaifojaoiaaDoor
