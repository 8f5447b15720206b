/-
  Patterns, continued: joined patterns, rows.
-/
import Derived.Test.YtmekdaifojaoiaaDoorP
set_option linter.unusedSimpArgs false
set_option linter.unusedVariables false
namespace Go.Glob

theorem gl_app : ∀ (p q l : List UInt8), gl (p ++ q) l = true ↔ ∃ k, k ≤ l.length ∧ gl p (l.take k) = true ∧ gl q (l.drop k) = true
  | [], q, l => by
    constructor
    · intro h; exact ⟨0, by omega, rfl, by simpa using h⟩
    · rintro ⟨k, hk, h1, h2⟩
      have : (l.take k) = [] := by simpa [gl_nil] using h1
      have h0 : k = 0 ∨ l = [] := by
        have := congrArg List.length this
        rw [List.length_take] at this
        rcases l with _ | ⟨x, l⟩
        · exact .inr rfl
        · left; simp at this; omega
      rcases h0 with rfl | rfl
      · simpa using h2
      · simpa using h2
  | c :: p, q, l => by
    by_cases hc : c = 42
    · subst hc
      rw [List.cons_append, gl_star, tl_iff]
      constructor
      · rintro ⟨j, hj, h⟩
        obtain ⟨k, hk, h1, h2⟩ := (gl_app p q _).1 h
        rw [List.length_drop] at hk
        refine ⟨j + k, by omega, ?_, by rw [List.drop_drop] at h2; exact h2⟩
        rw [gl_star, tl_iff]
        refine ⟨j, by rw [List.length_take]; omega, ?_⟩
        rw [List.drop_take]
        simpa using h1
      · rintro ⟨m, hm, h1, h2⟩
        rw [gl_star, tl_iff] at h1
        obtain ⟨j, hj, h1⟩ := h1
        rw [List.length_take] at hj
        refine ⟨j, by omega, (gl_app p q _).2 ⟨m - j, by rw [List.length_drop]; omega, by rw [List.drop_take] at h1; exact h1, ?_⟩⟩
        rw [List.drop_drop]
        rw [show j + (m - j) = m from by omega]
        exact h2
    · rcases l with _ | ⟨x, l⟩
      · rw [List.cons_append, gl_end _ _ hc]
        constructor
        · intro h; cases h
        · rintro ⟨k, hk, h1, h2⟩
          rw [List.take_nil, gl_end _ _ hc] at h1; cases h1
      · rw [List.cons_append, gl_cons _ _ _ _ hc, Bool.and_eq_true, gl_app p q l]
        constructor
        · rintro ⟨h0, k, hk, h1, h2⟩
          refine ⟨k + 1, by simpa using hk, ?_, by simpa using h2⟩
          rw [List.take_succ_cons, gl_cons _ _ _ _ hc, Bool.and_eq_true]
          exact ⟨h0, h1⟩
        · rintro ⟨k, hk, h1, h2⟩
          rcases k with _ | k
          · rw [List.take_zero, gl_end _ _ hc] at h1; cases h1
          · rw [List.take_succ_cons, gl_cons _ _ _ _ hc, Bool.and_eq_true] at h1
            exact ⟨h1.1, k, by simpa using hk, h1.2, by simpa using h2⟩

theorem gl_all (l : List UInt8) : gl [42] l = true := by
  rw [gl_star, tl_iff]
  exact ⟨l.length, Nat.le_refl _, by rw [List.drop_length]; rfl⟩
/-- One entry of the reference's rows. -/
def rw1 (P L : List UInt8) (k i : Nat) : Bool := gl (P.take k) (L.take i)
theorem take_succ_get (P : List UInt8) (k : Nat) (h : k < P.length) : P.take (k + 1) = P.take k ++ [P.getD k 0] := by
  rw [List.take_add_one, List.getElem?_eq_getElem h, List.getD_eq_getElem?_getD, List.getElem?_eq_getElem h]; rfl
theorem rw1_00 (P L : List UInt8) (i : Nat) (hi : i ≤ L.length) : rw1 P L 0 i = decide (i = 0) := by
  unfold rw1
  rw [List.take_zero, gl_nil]
  rcases i with _ | i
  · simp
  · rcases L with _ | ⟨x, L⟩
    · simp at hi
    · simp
theorem rw1_star (P L : List UInt8) (k i : Nat) (hk : k < P.length) (hi : i ≤ L.length) (hc : P.getD k 0 = 42) : rw1 P L (k + 1) i = (rw1 P L k i || (decide (0 < i) && rw1 P L (k + 1) (i - 1))) := by
  have key : ∀ i, i ≤ L.length → (rw1 P L (k + 1) i = true ↔ ∃ j, j ≤ i ∧ rw1 P L k j = true) := by
    intro i hi
    unfold rw1
    rw [take_succ_get P k hk, hc, gl_app]
    constructor
    · rintro ⟨j, hj, h1, _⟩
      rw [List.length_take] at hj
      rw [List.take_take] at h1
      exact ⟨min j i, by omega, h1⟩
    · rintro ⟨j, hj, h1⟩
      refine ⟨j, by rw [List.length_take]; omega, ?_, gl_all _⟩
      rw [List.take_take, Nat.min_eq_left hj]; exact h1
  rw [Bool.eq_iff_iff, key i hi, Bool.or_eq_true, Bool.and_eq_true, decide_eq_true_eq]
  constructor
  · rintro ⟨j, hj, h⟩
    by_cases hji : j = i
    · subst hji; exact .inl h
    · exact .inr ⟨by omega, (key (i - 1) (by omega)).2 ⟨j, by omega, h⟩⟩
  · rintro (h | ⟨h0, h⟩)
    · exact ⟨i, Nat.le_refl _, h⟩
    · obtain ⟨j, hj, h⟩ := (key (i - 1) (by omega)).1 h
      exact ⟨j, by omega, h⟩
theorem rw1_byte0 (P L : List UInt8) (k : Nat) (hk : k < P.length) (hc : P.getD k 0 ≠ 42) : rw1 P L (k + 1) 0 = false := by
  unfold rw1
  rw [take_succ_get P k hk, List.take_zero, ← Bool.not_eq_true, gl_app]
  rintro ⟨j, hj, _, h2⟩
  rw [List.drop_nil, gl_end _ _ hc] at h2
  cases h2
theorem rw1_byte (P L : List UInt8) (k i : Nat) (hk : k < P.length) (hi : i < L.length) (hc : P.getD k 0 ≠ 42) : rw1 P L (k + 1) (i + 1) = (rw1 P L k i && (decide (P.getD k 0 = 63) || decide (P.getD k 0 = L.getD i 0))) := by
  unfold rw1
  rw [take_succ_get P k hk, Bool.eq_iff_iff, gl_app]
  have hl : (L.take (i + 1)).length = i + 1 := by rw [List.length_take]; omega
  have h1 : ∀ m : List UInt8, gl [P.getD k 0] m = true ↔ ∃ x, m = [x] ∧ (decide (P.getD k 0 = 63) || decide (P.getD k 0 = x)) = true := by
    intro m
    rcases m with _ | ⟨x, m⟩
    · rw [gl_end _ _ hc]; simp
    · rw [gl_cons _ _ _ _ hc, gl_nil, Bool.and_eq_true]
      rcases m with _ | ⟨y, m⟩
      · simp
      · simp
  have hd : (L.take (i + 1)).drop i = [L.getD i 0] := by
    rw [take_succ_get L i hi, List.drop_append_of_le_length (by rw [List.length_take]; omega), List.drop_eq_nil_of_le (by rw [List.length_take]; omega)]; rfl
  rw [Bool.and_eq_true]
  constructor
  · rintro ⟨j, hj, h2, h3⟩
    obtain ⟨x, hx, h4⟩ := (h1 _).1 h3
    have e := congrArg List.length hx
    rw [List.length_drop, hl, List.length_singleton] at e
    have hji : j = i := by omega
    subst hji
    rw [hd] at hx
    simp only [List.cons.injEq, and_true] at hx
    rw [List.take_take, Nat.min_eq_left (by omega)] at h2
    rw [hx]; exact ⟨h2, h4⟩
  · rintro ⟨h2, h3⟩
    refine ⟨i, by omega, ?_, ?_⟩
    · rw [List.take_take, Nat.min_eq_left (by omega)]; exact h2
    · rw [hd, h1]; exact ⟨_, rfl, h3⟩
theorem rw1_end (P L : List UInt8) : rw1 P L P.length L.length = gl P L := by unfold rw1; rw [List.take_length, List.take_length]

/-! ## Joined and wider patterns -/
theorem gl_join {p q l m : List UInt8} (h1 : gl p l = true) (h2 : gl q m = true) : gl (p ++ q) (l ++ m) = true :=
  (gl_app _ _ _).2 ⟨l.length, by simp, by simpa using h1, by simpa using h2⟩
theorem gl_two (q l : List UInt8) : gl (42 :: 42 :: q) l = gl (42 :: q) l := by
  rw [Bool.eq_iff_iff, gl_star, tl_iff]
  constructor
  · rintro ⟨k, hk, h⟩
    rw [gl_star, tl_iff] at h ⊢
    obtain ⟨j, hj, h⟩ := h
    rw [List.length_drop] at hj
    rw [List.drop_drop] at h
    exact ⟨k + j, by omega, h⟩
  · intro h
    exact ⟨0, by omega, by rw [List.drop_zero]; exact h⟩
theorem gl_app_congr {q q' : List UInt8} (h : ∀ l, gl q l = gl q' l) (p l : List UInt8) : gl (p ++ q) l = gl (p ++ q') l := by
  rw [Bool.eq_iff_iff, gl_app, gl_app]
  simp only [h]
theorem gl_app_mono {q q' : List UInt8} (h : ∀ l, gl q l = true → gl q' l = true) (p l : List UInt8) (hg : gl (p ++ q) l = true) : gl (p ++ q') l = true := by
  rw [gl_app] at hg ⊢
  obtain ⟨k, hk, h1, h2⟩ := hg
  exact ⟨k, hk, h1, h _ h2⟩
theorem gl_ins (q l : List UInt8) (h : gl q l = true) : gl (42 :: q) l = true := by
  rw [gl_star, tl_iff]
  exact ⟨0, by omega, by rw [List.drop_zero]; exact h⟩
theorem gl_rep_star (c : UInt8) (q l : List UInt8) (h : gl (c :: q) l = true) : gl (42 :: q) l = true := by
  by_cases hc : c = 42
  · subst hc; exact h
  · rcases l with _ | ⟨x, l⟩
    · rw [gl_end _ _ hc] at h; cases h
    · rw [gl_cons _ _ _ _ hc, Bool.and_eq_true] at h
      rw [gl_star, tl_iff]
      exact ⟨1, by simp, h.2⟩
theorem gl_rep_any (c : UInt8) (q l : List UInt8) (hc : c ≠ 42) (h : gl (c :: q) l = true) : gl (63 :: q) l = true := by
  rcases l with _ | ⟨x, l⟩
  · rw [gl_end _ _ hc] at h; cases h
  · rw [gl_cons _ _ _ _ hc, Bool.and_eq_true] at h
    rw [gl_cons _ _ _ _ (by decide), h.2]; rfl
theorem gl_plain : ∀ (p l : List UInt8), (p.all fun c => decide (c ≠ 42) && decide (c ≠ 63)) = true → gl p l = decide (p = l)
  | [], l, _ => by rcases l with _ | ⟨x, l⟩ <;> rfl
  | c :: p, l, h => by
    rw [List.all_cons, Bool.and_eq_true, Bool.and_eq_true, decide_eq_true_eq, decide_eq_true_eq] at h
    rcases l with _ | ⟨x, l⟩
    · rw [gl_end _ _ h.1.1]; rfl
    · rw [gl_cons _ _ _ _ h.1.1, gl_plain p l h.2, decide_eq_false h.1.2, Bool.false_or]
      simp only [List.cons.injEq, Bool.decide_and]
end Go.Glob
