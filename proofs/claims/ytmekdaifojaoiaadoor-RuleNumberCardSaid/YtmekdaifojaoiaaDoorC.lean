/-
  Glob: the walk.
-/
import Derived.Test.YtmekdaifojaoiaaDoorP
set_option maxRecDepth 100000
set_option linter.unusedSimpArgs false
set_option linter.unusedVariables false
namespace Go.Proofs.YtmekdaifojaoiaaDoor
open Go.Sy Go.Glob

theorem dropL_all : ∀ s : List UInt8, dropL 42 s = [] ↔ stars s = true
  | [] => by simp [dropL, stars]
  | x :: r => by
    have := dropL_all r
    by_cases h : x = 42
    · simp only [dropL, h, if_true, this, stars, List.all_cons, decide_true, Bool.true_and]
    · simp [dropL, h, stars]
theorem stars_rev (s : List UInt8) : stars s.reverse = stars s := by simp [stars]
theorem trim_all (s : List UInt8) : dropL 42 (dropR 42 s) = [] ↔ stars s = true := by
  rw [dropL_all]
  unfold dropR
  rw [stars_rev]
  constructor
  · intro h
    rw [← dropL_all] at h
    have e : ∀ t : List UInt8, dropL 42 t = t ∨ dropL 42 t = [] ∨ ∃ x r, dropL 42 t = x :: r ∧ x ≠ 42 := by
      intro t
      induction t with
      | nil => exact .inl rfl
      | cons x r ih =>
        by_cases hx : x = 42
        · simp only [dropL, hx, if_true]
          rcases ih with h | h | h
          · cases r with
            | nil => exact .inr (.inl h)
            | cons y r' =>
              rw [h]
              by_cases hy : y = 42
              · exfalso
                have l1 : ∀ t : List UInt8, (dropL 42 t).length ≤ t.length := by
                  intro t
                  induction t with
                  | nil => exact Nat.le_refl _
                  | cons z t iht => simp only [dropL]; split <;> simp only [List.length_cons] <;> omega
                rw [hy] at h
                simp only [dropL, if_true] at h
                have := l1 r'
                rw [h] at this
                simp at this
                omega
              · exact .inr (.inr ⟨y, r', rfl, hy⟩)
          · exact .inr (.inl h)
          · exact .inr (.inr h)
        · exact .inl (by simp [dropL, hx])
    rcases e s.reverse with h1 | h1 | ⟨x, r, h1, h2⟩
    · rw [h1, dropL_all, stars_rev] at h; exact h
    · rw [dropL_all, stars_rev] at h1; exact h1
    · rw [h1] at h; simp [dropL, h2] at h
  · intro h
    rw [← stars_rev, ← dropL_all] at h
    rw [h]; rfl

/-- What the search gives. -/
def Out (P : List UInt8) (B : Bool) (o : Option (Ex × CSt)) : Prop :=
  (∃ q, q ≤ P.length ∧ stars (P.drop q) = B ∧ o = some (.x 0, ⟨[(0, .str P), (5, .int .i64 (q : Nat))], [], []⟩)) ∨ (B = false ∧ o = some (.r, ⟨[(4, .bool false)], [], []⟩))

set_option maxHeartbeats 4000000 in
theorem l20 (P L : List UInt8) (hP : P.length ≤ 1000000000000) (hL : L.length ≤ 1000000000000) (B : Bool) (K r p l : Nat) (s : Int) (hs : s = (K : Int) - 1) (h : Inv P L K r p l B) :
    Out P B (run T (.loop r20_10) ⟨[(0, .str P), (1, .byt L .no), (5, .int .i64 p), (6, .int .i64 l), (7, .int .i64 s), (8, .int .i64 r)], [], []⟩) := by
  have a1 := h.kp
  have a2 := h.pP
  have a3 := h.rl
  have a4 := h.lL
  rw [run_loop]
  by_cases hl : l < L.length
  · have e2 : IntKind.i64.wrap ((p : Int) + 1) = ((p + 1 : Nat) : Int) := wsucc p (by omega)
    have e3 : IntKind.i64.wrap ((l : Int) + 1) = ((l + 1 : Nat) : Int) := wsucc l (by omega)
    have e4 : IntKind.i64.wrap ((r : Int) + 1) = ((r + 1 : Nat) : Int) := wsucc r (by omega)
    have e5 : IntKind.i64.wrap (s + 1) = (K : Int) := by rw [hs, w64 (by omega) (by omega)]; omega
    by_cases hp : p < P.length
    · by_cases hc : P.getD p 0 = 42
      · have ih := l20 P L hP hL B (p + 1) l (p + 1) l p (by omega) (h.star hp hl hc)
        simp only [r20_0, r20_1, r20_2, r20_3, r20_4, r20_5, r20_6, r20_7, r20_8, r20_9, r20_11, F20, q20_10, q20, go_sem, UInt8.reduceLT, UInt8.reduceLE, Int.reduceToNat, Int.reduceLE, Int.reduceLT, Int.reduceEq, Int.reduceNe, Int.reduceNeg, Int.reduceAdd, Int.reduceSub, Int.reduceMul, Nat.reducePow, Nat.reduceDiv, Nat.reduceMod, Nat.reduceAdd, Nat.reduceSub, Nat.reduceMul, Nat.reduceLT, Nat.reduceLeDiff, Nat.reduceEqDiff, Nat.reduceBEq, reduceCtorEq, reduceIte, hl, hp, hc, e2, e3, e4, e5]
        exact ih
      · by_cases hq : P.getD p 0 = 63
        · have ih := l20 P L hP hL B K r (p + 1) (l + 1) s hs (h.step hp hl hc (.inl hq))
          simp only [r20_0, r20_1, r20_2, r20_3, r20_4, r20_5, r20_6, r20_7, r20_8, r20_9, r20_11, F20, q20_10, q20, go_sem, UInt8.reduceLT, UInt8.reduceLE, Int.reduceToNat, Int.reduceLE, Int.reduceLT, Int.reduceEq, Int.reduceNe, Int.reduceNeg, Int.reduceAdd, Int.reduceSub, Int.reduceMul, Nat.reducePow, Nat.reduceDiv, Nat.reduceMod, Nat.reduceAdd, Nat.reduceSub, Nat.reduceMul, Nat.reduceLT, Nat.reduceLeDiff, Nat.reduceEqDiff, Nat.reduceBEq, reduceCtorEq, reduceIte, hl, hp, hc, hq, e2, e3, e4, e5]
          exact ih
        · by_cases hx : P.getD p 0 = L.getD l 0
          · have ih := l20 P L hP hL B K r (p + 1) (l + 1) s hs (h.step hp hl hc (.inr hx))
            have hc' : ¬ L.getD l 0 = 42 := hx ▸ hc
            have hq' : ¬ L.getD l 0 = 63 := hx ▸ hq
            simp only [r20_0, r20_1, r20_2, r20_3, r20_4, r20_5, r20_6, r20_7, r20_8, r20_9, r20_11, F20, q20_10, q20, go_sem, UInt8.reduceLT, UInt8.reduceLE, Int.reduceToNat, Int.reduceLE, Int.reduceLT, Int.reduceEq, Int.reduceNe, Int.reduceNeg, Int.reduceAdd, Int.reduceSub, Int.reduceMul, Nat.reducePow, Nat.reduceDiv, Nat.reduceMod, Nat.reduceAdd, Nat.reduceSub, Nat.reduceMul, Nat.reduceLT, Nat.reduceLeDiff, Nat.reduceEqDiff, Nat.reduceBEq, reduceCtorEq, reduceIte, hl, hp, hx, hc', hq', e2, e3, e4, e5]
            exact ih
          · by_cases hk : K = 0
            · have hs0 : ¬ 0 ≤ s := by omega
              simp only [r20_0, r20_1, r20_2, r20_3, r20_4, r20_5, r20_6, r20_7, r20_8, r20_9, r20_11, F20, q20_10, q20, go_sem, UInt8.reduceLT, UInt8.reduceLE, Int.reduceToNat, Int.reduceLE, Int.reduceLT, Int.reduceEq, Int.reduceNe, Int.reduceNeg, Int.reduceAdd, Int.reduceSub, Int.reduceMul, Nat.reducePow, Nat.reduceDiv, Nat.reduceMod, Nat.reduceAdd, Nat.reduceSub, Nat.reduceMul, Nat.reduceLT, Nat.reduceLeDiff, Nat.reduceEqDiff, Nat.reduceBEq, reduceCtorEq, reduceIte, hl, hp, hc, hq, hx, hs0, e2, e3, e4, e5]
              exact .inr ⟨h.fail hk hl (fun _ => ⟨hc, hq, hx⟩), rfl⟩
            · have hs0 : 0 ≤ s := by omega
              have ih := l20 P L hP hL B K (r + 1) K (r + 1) s hs (h.back (by omega) hl (fun _ => ⟨hc, hq, hx⟩))
              simp only [r20_0, r20_1, r20_2, r20_3, r20_4, r20_5, r20_6, r20_7, r20_8, r20_9, r20_11, F20, q20_10, q20, go_sem, UInt8.reduceLT, UInt8.reduceLE, Int.reduceToNat, Int.reduceLE, Int.reduceLT, Int.reduceEq, Int.reduceNe, Int.reduceNeg, Int.reduceAdd, Int.reduceSub, Int.reduceMul, Nat.reducePow, Nat.reduceDiv, Nat.reduceMod, Nat.reduceAdd, Nat.reduceSub, Nat.reduceMul, Nat.reduceLT, Nat.reduceLeDiff, Nat.reduceEqDiff, Nat.reduceBEq, reduceCtorEq, reduceIte, hl, hp, hc, hq, hx, hs0, e2, e3, e4, e5]
              exact ih
    · by_cases hk : K = 0
      · have hs0 : ¬ 0 ≤ s := by omega
        simp only [r20_0, r20_1, r20_2, r20_3, r20_4, r20_5, r20_6, r20_7, r20_8, r20_9, r20_11, F20, q20_10, q20, go_sem, UInt8.reduceLT, UInt8.reduceLE, Int.reduceToNat, Int.reduceLE, Int.reduceLT, Int.reduceEq, Int.reduceNe, Int.reduceNeg, Int.reduceAdd, Int.reduceSub, Int.reduceMul, Nat.reducePow, Nat.reduceDiv, Nat.reduceMod, Nat.reduceAdd, Nat.reduceSub, Nat.reduceMul, Nat.reduceLT, Nat.reduceLeDiff, Nat.reduceEqDiff, Nat.reduceBEq, reduceCtorEq, reduceIte, hl, hp, hs0, e2, e3, e4, e5]
        exact .inr ⟨h.fail hk hl (fun hp' => absurd hp' hp), rfl⟩
      · have hs0 : 0 ≤ s := by omega
        have ih := l20 P L hP hL B K (r + 1) K (r + 1) s hs (h.back (by omega) hl (fun hp' => absurd hp' hp))
        simp only [r20_0, r20_1, r20_2, r20_3, r20_4, r20_5, r20_6, r20_7, r20_8, r20_9, r20_11, F20, q20_10, q20, go_sem, UInt8.reduceLT, UInt8.reduceLE, Int.reduceToNat, Int.reduceLE, Int.reduceLT, Int.reduceEq, Int.reduceNe, Int.reduceNeg, Int.reduceAdd, Int.reduceSub, Int.reduceMul, Nat.reducePow, Nat.reduceDiv, Nat.reduceMod, Nat.reduceAdd, Nat.reduceSub, Nat.reduceMul, Nat.reduceLT, Nat.reduceLeDiff, Nat.reduceEqDiff, Nat.reduceBEq, reduceCtorEq, reduceIte, hl, hp, hs0, e2, e3, e4, e5]
        exact ih
  · simp only [r20_0, r20_1, r20_2, r20_3, r20_4, r20_5, r20_6, r20_7, r20_8, r20_9, r20_11, F20, q20_10, q20, go_sem, UInt8.reduceLT, UInt8.reduceLE, Int.reduceToNat, Int.reduceLE, Int.reduceLT, Int.reduceEq, Int.reduceNe, Int.reduceNeg, Int.reduceAdd, Int.reduceSub, Int.reduceMul, Nat.reducePow, Nat.reduceDiv, Nat.reduceMod, Nat.reduceAdd, Nat.reduceSub, Nat.reduceMul, Nat.reduceLT, Nat.reduceLeDiff, Nat.reduceEqDiff, Nat.reduceBEq, reduceCtorEq, reduceIte, hl]
    exact .inl ⟨p, a2, h.fin (by omega), rfl⟩
termination_by (P.length - K, L.length - r, L.length - l)
decreasing_by
  all_goals first
    | (apply Prod.Lex.left; omega)
    | (apply Prod.Lex.right; apply Prod.Lex.left; omega)
    | (apply Prod.Lex.right; apply Prod.Lex.right; omega)
end Go.Proofs.YtmekdaifojaoiaaDoor
