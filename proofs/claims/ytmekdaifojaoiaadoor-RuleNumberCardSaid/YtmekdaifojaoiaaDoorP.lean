/-
  What a pattern matches: plain lists.
-/
import Derived.Test.YtmekdaifojaoiaaDoorB
set_option maxRecDepth 100000
set_option linter.unusedSimpArgs false
set_option linter.unusedVariables false
namespace Go.Glob

/-- f of the list or of some rest of it. -/
def tl (f : List UInt8 → Bool) : List UInt8 → Bool
  | [] => f []
  | x :: r => f (x :: r) || tl f r
/-- The pattern matches the line. -/
def gl : List UInt8 → List UInt8 → Bool
  | [], l => l.isEmpty
  | c :: p, l => if c = 42 then tl (gl p) l else match l with
    | [] => false
    | x :: r => (decide (c = 63) || decide (c = x)) && gl p r

theorem tl_iff (f : List UInt8 → Bool) : ∀ l : List UInt8, tl f l = true ↔ ∃ k, k ≤ l.length ∧ f (l.drop k) = true
  | [] => by
    simp only [tl, List.length_nil, List.drop_nil]
    exact ⟨fun h => ⟨0, Nat.le_refl _, h⟩, fun ⟨_, _, h⟩ => h⟩
  | x :: r => by
    simp only [tl, Bool.or_eq_true, tl_iff f r]
    constructor
    · rintro (h | ⟨k, hk, h⟩)
      · exact ⟨0, Nat.zero_le _, h⟩
      · exact ⟨k + 1, by simpa using hk, h⟩
    · rintro ⟨k, hk, h⟩
      cases k with
      | zero => exact .inl h
      | succ k => exact .inr ⟨k, by simpa using hk, h⟩
theorem gl_star (p l : List UInt8) : gl (42 :: p) l = tl (gl p) l := by simp [gl]
theorem gl_nil (l : List UInt8) : gl [] l = l.isEmpty := rfl
theorem gl_end (c : UInt8) (p : List UInt8) (h : c ≠ 42) : gl (c :: p) [] = false := by simp [gl, h]
theorem gl_cons (c : UInt8) (p : List UInt8) (x : UInt8) (l : List UInt8) (h : c ≠ 42) : gl (c :: p) (x :: l) = ((decide (c = 63) || decide (c = x)) && gl p l) := by simp [gl, h]
/-- Nothing but stars. -/
def stars (p : List UInt8) : Bool := p.all fun c => decide (c = 42)
theorem gl_stars : ∀ p : List UInt8, gl p [] = stars p
  | [] => rfl
  | c :: p => by
    by_cases h : c = 42
    · subst h
      rw [gl_star, tl, gl_stars p]; simp [stars]
    · rw [gl_end _ _ h]; simp [stars, h]
/-- A piece without stars at the head matches its own length of the line. -/
def free (s : List UInt8) : Bool := s.all fun c => decide (c ≠ 42)
def fits : List UInt8 → List UInt8 → Bool
  | [], _ => true
  | _ :: _, [] => false
  | c :: s, x :: m => (decide (c = 63) || decide (c = x)) && fits s m
theorem gl_seg : ∀ (s q m : List UInt8), free s = true → gl (s ++ q) m = (fits s m && gl q (m.drop s.length))
  | [], q, m, _ => by simp [fits]
  | c :: s, q, [], h => by
    simp only [free, List.all_cons, Bool.and_eq_true, decide_eq_true_eq] at h
    simp [fits, gl, h.1]
  | c :: s, q, x :: m, h => by
    simp only [free, List.all_cons, Bool.and_eq_true, decide_eq_true_eq] at h
    rw [List.cons_append, gl_cons _ _ _ _ h.1, gl_seg s q m (by simpa [free] using h.2)]
    simp [fits, Bool.and_assoc]
theorem fits_len : ∀ {s m : List UInt8}, fits s m = true → s.length ≤ m.length
  | [], _, _ => Nat.zero_le _
  | _ :: _, [], h => by cases h
  | c :: s, x :: m, h => by
    simp only [fits, Bool.and_eq_true] at h
    have := fits_len h.2
    simp; omega
/-- Behind a star: all later tries of an earlier star are among those of this one. -/
theorem tl_mono {f : List UInt8 → Bool} {m : List UInt8} {i j : Nat} (h : i ≤ j) (ht : tl f (m.drop j) = true) : tl f (m.drop i) = true := by
  rw [tl_iff] at ht ⊢
  obtain ⟨k, hk, h1⟩ := ht
  rw [List.length_drop] at hk
  rw [List.drop_drop] at h1
  by_cases hj : j ≤ m.length
  · refine ⟨j - i + k, by rw [List.length_drop]; omega, ?_⟩
    rw [List.drop_drop, show i + (j - i + k) = j + k by omega]; exact h1
  · refine ⟨m.length - i, by rw [List.length_drop]; omega, ?_⟩
    rw [List.drop_drop]
    rw [List.drop_eq_nil_of_le (by omega)] at h1 ⊢
    exact h1

/-! ## The search that remembers one star -/
/-- Where the search stands: behind the star before K (none: 0), which has taken the line up to r; at p of the pattern and l of the line. -/
structure Inv (P L : List UInt8) (K r p l : Nat) (B : Bool) : Prop where
  kp : K ≤ p
  pP : p ≤ P.length
  rl : r ≤ l
  lL : l ≤ L.length
  b0 : K = 0 → B = gl (P.drop p) (L.drop l)
  b1 : 0 < K → B = (gl (P.drop p) (L.drop l) || tl (gl (P.drop K)) (L.drop (r + 1)))
  pl : 0 < K → p - K = l - r
  fr : 0 < K → free ((P.drop K).take (p - K)) = true

theorem dropc (l : List UInt8) (i : Nat) (h : i < l.length) : l.drop i = l.getD i 0 :: l.drop (i + 1) := by
  rw [List.drop_eq_getElem_cons h, List.getD_eq_getElem?_getD, List.getElem?_eq_getElem h]; rfl
variable {P L : List UInt8} {K r p l : Nat} {B : Bool}
theorem Inv.split (h : Inv P L K r p l B) : P.drop K = (P.drop K).take (p - K) ++ P.drop p := by
  have := List.take_append_drop (p - K) (P.drop K)
  rw [List.drop_drop, show K + (p - K) = p by have := h.kp; omega] at this
  exact this.symm
theorem Inv.seglen (h : Inv P L K r p l B) : ((P.drop K).take (p - K)).length = p - K := by
  have := h.pP
  rw [List.length_take, List.length_drop]; omega
theorem Inv.seg (h : Inv P L K r p l B) (hk : 0 < K) (m : List UInt8) : gl (P.drop K) m = (fits ((P.drop K).take (p - K)) m && gl (P.drop p) (m.drop (p - K))) := by
  have := gl_seg _ (P.drop p) m (h.fr hk)
  rw [← h.split, h.seglen] at this
  exact this
/-- Whatever an earlier star could still take is taken behind l. -/
theorem Inv.later (h : Inv P L K r p l B) (hk : 0 < K) (ht : tl (gl (P.drop K)) (L.drop (r + 1)) = true) : (l = L.length ∧ r = L.length ∧ gl (P.drop p) [] = true) ∨ ∃ j, l < j ∧ j ≤ L.length ∧ gl (P.drop p) (L.drop j) = true := by
  have h1 := h.rl
  have h2 := h.lL
  have h3 := h.pl hk
  have h4 := h.kp
  obtain ⟨k, hk1, hk2⟩ := (tl_iff _ _).1 ht
  rw [h.seg hk, Bool.and_eq_true] at hk2
  have h5 := fits_len hk2.1
  rw [h.seglen] at h5
  have h6 := hk2.2
  rw [List.drop_drop, List.drop_drop] at h6
  rw [List.drop_drop, List.length_drop] at h5
  rw [List.length_drop] at hk1
  by_cases hr : r = L.length
  · refine .inl ⟨by omega, hr, ?_⟩
    have e0 : L.drop (r + 1 + (k + (p - K))) = [] := List.drop_eq_nil_of_le (by omega)
    rwa [e0] at h6
  · exact .inr ⟨r + 1 + (k + (p - K)), by omega, by omega, h6⟩
theorem Inv.star (h : Inv P L K r p l B) (hp : p < P.length) (hl : l < L.length) (hc : P.getD p 0 = 42) : Inv P L (p + 1) l (p + 1) l B := by
  have e : gl (P.drop p) (L.drop l) = (gl (P.drop (p + 1)) (L.drop l) || tl (gl (P.drop (p + 1))) (L.drop (l + 1))) := by
    rw [dropc P p hp, hc, gl_star, dropc L l hl]; rfl
  refine ⟨Nat.le_refl _, hp, Nat.le_refl _, h.lL, fun h0 => by omega, fun _ => ?_, fun _ => by omega, fun _ => by rw [Nat.sub_self]; rfl⟩
  rw [← e]
  by_cases hk : K = 0
  · exact h.b0 hk
  · rw [h.b1 (by omega)]
    cases hg : gl (P.drop p) (L.drop l) with
    | true => rfl
    | false =>
      rw [Bool.false_or]
      cases ht : tl (gl (P.drop K)) (L.drop (r + 1)) with
      | false => rfl
      | true =>
        exfalso
        rcases h.later (by omega) ht with ⟨h1, _⟩ | ⟨j, h1, h2, h3⟩
        · omega
        · rw [dropc P p hp, hc, gl_star] at h3 hg
          rw [tl_mono (Nat.le_of_lt h1) h3] at hg
          cases hg
theorem Inv.step (h : Inv P L K r p l B) (hp : p < P.length) (hl : l < L.length) (hc : P.getD p 0 ≠ 42) (hm : P.getD p 0 = 63 ∨ P.getD p 0 = L.getD l 0) : Inv P L K r (p + 1) (l + 1) B := by
  have h1 := h.kp
  have h2 := h.rl
  have e : gl (P.drop p) (L.drop l) = gl (P.drop (p + 1)) (L.drop (l + 1)) := by
    rw [dropc P p hp, dropc L l hl, gl_cons _ _ _ _ hc]
    have : (decide (P.getD p 0 = 63) || decide (P.getD p 0 = L.getD l 0)) = true := by simpa using hm
    rw [this, Bool.true_and]
  refine ⟨by omega, hp, by omega, hl, fun h0 => by rw [← e]; exact h.b0 h0, fun h0 => by rw [← e]; exact h.b1 h0, fun h0 => by have := h.pl h0; omega, fun h0 => ?_⟩
  have e2 : (P.drop K).take (p + 1 - K) = (P.drop K).take (p - K) ++ [P.getD p 0] := by
    rw [show p + 1 - K = (p - K) + 1 by omega, List.take_add_one]
    congr 1
    rw [List.getElem?_drop, show K + (p - K) = p by omega, List.getElem?_eq_getElem hp, List.getD_eq_getElem?_getD, List.getElem?_eq_getElem hp]; rfl
  rw [e2]
  have := h.fr h0
  unfold free at this ⊢
  rw [List.all_append, this]
  simpa using hc
theorem Inv.miss (h : Inv P L K r p l B) (hl : l < L.length) (hm : p < P.length → P.getD p 0 ≠ 42 ∧ P.getD p 0 ≠ 63 ∧ P.getD p 0 ≠ L.getD l 0) : gl (P.drop p) (L.drop l) = false := by
  by_cases hp : p < P.length
  · obtain ⟨h1, h2, h3⟩ := hm hp
    rw [dropc P p hp, dropc L l hl, gl_cons _ _ _ _ h1]
    simp only [h2, h3, decide_false, Bool.or_false, Bool.false_and]
  · rw [List.drop_eq_nil_of_le (by omega), dropc L l hl]; rfl
theorem Inv.back (h : Inv P L K r p l B) (hk : 0 < K) (hl : l < L.length) (hm : p < P.length → P.getD p 0 ≠ 42 ∧ P.getD p 0 ≠ 63 ∧ P.getD p 0 ≠ L.getD l 0) : Inv P L K (r + 1) K (r + 1) B := by
  have h1 := h.rl
  have h2 := h.kp
  have h3 := h.pP
  refine ⟨Nat.le_refl _, by omega, Nat.le_refl _, by omega, fun h0 => by omega, fun _ => ?_, fun _ => by omega, fun _ => by rw [Nat.sub_self]; rfl⟩
  rw [h.b1 hk, h.miss hl hm, Bool.false_or]
  by_cases hr : r + 1 < L.length
  · rw [dropc L (r + 1) hr]; rfl
  · have e1 : L.drop (r + 1) = [] := List.drop_eq_nil_of_le (by omega)
    have e2 : L.drop (r + 1 + 1) = [] := List.drop_eq_nil_of_le (by omega)
    rw [e1, e2]; simp only [tl, Bool.or_self]
theorem Inv.fail (h : Inv P L K r p l B) (hk : K = 0) (hl : l < L.length) (hm : p < P.length → P.getD p 0 ≠ 42 ∧ P.getD p 0 ≠ 63 ∧ P.getD p 0 ≠ L.getD l 0) : B = false := by
  rw [h.b0 hk, h.miss hl hm]
theorem Inv.fin (h : Inv P L K r p l B) (hl : l = L.length) : stars (P.drop p) = B := by
  have e : gl (P.drop p) (L.drop l) = stars (P.drop p) := by rw [hl, List.drop_length, gl_stars]
  by_cases hk : K = 0
  · rw [h.b0 hk, e]
  · rw [h.b1 (by omega), e]
    cases ht : tl (gl (P.drop K)) (L.drop (r + 1)) with
    | false => rw [Bool.or_false]
    | true =>
      rcases h.later (by omega) ht with ⟨_, _, h3⟩ | ⟨j, h1, h2, _⟩
      · rw [gl_stars] at h3; rw [h3]; rfl
      · omega
theorem Inv.init (P L : List UInt8) : Inv P L 0 0 0 0 (gl P L) :=
  ⟨Nat.le_refl _, Nat.zero_le _, Nat.le_refl _, Nat.zero_le _, fun _ => rfl, fun h => by omega, fun h => by omega, fun h => by omega⟩
end Go.Glob
