/-
  The plain law: what the program and the reference compute is one.
-/
import Derived.Test.YtghggnfomlibjaaF
set_option maxRecDepth 100000
set_option linter.unusedSimpArgs false
set_option linter.unusedVariables false
namespace Go.Proofs.Ytghggnfomlibjaa
open Go.Sy

theorem split1 {α : Type} (f : α → Int) (m : Int) : ∀ l : List α, Sorted (l.map f) → ∃ A B, l = A ++ B ∧ A.length = lb (l.map f) m ∧ (∀ a ∈ A, f a < m) ∧ (∀ b ∈ B, m ≤ f b)
  | [], _ => ⟨[], [], rfl, rfl, by simp, by simp⟩
  | x :: r, h => by
    simp only [List.map_cons, Sorted, List.pairwise_cons] at h
    by_cases hx : f x < m
    · obtain ⟨A, B, h1, h2, h3, h4⟩ := split1 f m r h.2
      refine ⟨x :: A, B, by rw [h1]; rfl, ?_, ?_, h4⟩
      · simp only [List.length_cons, h2, List.map_cons, lb, List.takeWhile_cons, decide_eq_true hx, if_true]
      · intro a ha
        rcases List.mem_cons.1 ha with rfl | ha
        · exact hx
        · exact h3 a ha
    · refine ⟨[], x :: r, rfl, ?_, by simp, ?_⟩
      · simp [lb, List.takeWhile_cons, hx]
      · intro b hb
        rcases List.mem_cons.1 hb with rfl | hb
        · omega
        · have := h.1 (f b) (List.mem_map_of_mem hb)
          omega
theorem split2 {α : Type} [Inhabited α] (f : α → Int) (m : Int) (l : List α) (h : Sorted (l.map f)) : ∃ A B, A.length = lb (l.map f) m ∧ (∀ a ∈ A, f a < m) ∧ (∀ b ∈ B, m < f b) ∧
    ((has (l.map f) m = true ∧ ∃ y, f y = m ∧ l = A ++ y :: B) ∨ (has (l.map f) m = false ∧ l = A ++ B)) := by
  obtain ⟨A, B, h1, h2, h3, h4⟩ := split1 f m l h
  cases B with
  | nil =>
    refine ⟨A, [], h2, h3, by simp, .inr ⟨?_, h1⟩⟩
    unfold has
    rw [← h2, decide_eq_false_iff_not]
    intro hh
    rw [h1] at hh
    simp at hh
  | cons y B =>
    have hy := h4 y (by simp)
    have hs : Sorted ((y :: B).map f) := by
      have : (A ++ y :: B).map f = A.map f ++ (y :: B).map f := List.map_append
      rw [h1, this] at h
      exact (List.pairwise_append.1 h).2.1
    simp only [List.map_cons, Sorted, List.pairwise_cons] at hs
    have hg : (l.map f).getD (lb (l.map f) m) 0 = f y := by
      rw [← h2, h1]; simp
    have hlt : lb (l.map f) m < (l.map f).length := by rw [← h2, h1]; simp
    by_cases he : f y = m
    · refine ⟨A, B, h2, h3, ?_, .inl ⟨?_, y, he, h1⟩⟩
      · intro b hb
        have := hs.1 (f b) (List.mem_map_of_mem hb)
        omega
      · unfold has
        rw [decide_eq_true_eq]
        exact ⟨hlt, by rw [hg, he]⟩
    · refine ⟨A, y :: B, h2, h3, ?_, .inr ⟨?_, h1⟩⟩
      · intro b hb
        rcases List.mem_cons.1 hb with rfl | hb
        · omega
        · have := hs.1 (f b) (List.mem_map_of_mem hb)
          omega
      · unfold has
        rw [decide_eq_false_iff_not]
        intro hh
        rw [hg] at hh
        exact he hh.2
/-- What the place of m says about the list. -/
structure At {α : Type} (f : α → Int) (m : Int) (l A B : List α) : Prop where
  len : A.length = lb (l.map f) m
  lo : ∀ a ∈ A, f a < m
  hi : ∀ b ∈ B, m < f b
theorem At.filter {α : Type} {f : α → Int} {m : Int} {l A B : List α} (h : At f m l A B) : (A ++ B).filter (fun x => decide (f x ≠ m)) = A ++ B := by
  rw [List.filter_eq_self]
  intro a ha
  rw [decide_eq_true_eq]
  rcases List.mem_append.1 ha with h1 | h1
  · have := h.lo a h1; omega
  · have := h.hi a h1; omega
theorem At.filter' {α : Type} {f : α → Int} {m : Int} {l A B : List α} {y : α} (h : At f m l A B) (hy : f y = m) : (A ++ y :: B).filter (fun x => decide (f x ≠ m)) = A ++ B := by
  have := h.filter
  rw [List.filter_append] at this ⊢
  rw [List.filter_cons, if_neg (by simp [hy])]
  exact this
theorem place {α : Type} [Inhabited α] (f : α → Int) (m : Int) (l : List α) (h : Sorted (l.map f)) : ∃ A B, At f m l A B ∧ l.filter (fun x => decide (f x ≠ m)) = A ++ B ∧ l.take (lb (l.map f) m) = A ∧
    ((has (l.map f) m = true ∧ (l.map f).contains m = true ∧ ∃ y, f y = m ∧ l = A ++ y :: B) ∨ (has (l.map f) m = false ∧ (l.map f).contains m = false ∧ l = A ++ B)) := by
  obtain ⟨A, B, h1, h2, h3, h4⟩ := split2 f m l h
  have hA : At f m l A B := ⟨h1, h2, h3⟩
  refine ⟨A, B, hA, ?_, ?_, ?_⟩
  · rcases h4 with ⟨_, y, hy, rfl⟩ | ⟨_, rfl⟩
    · exact hA.filter' hy
    · exact hA.filter
  · rw [← h1]
    rcases h4 with ⟨_, y, hy, rfl⟩ | ⟨_, rfl⟩ <;> simp
  · rcases h4 with ⟨h5, y, hy, he⟩ | ⟨h5, he⟩
    · refine .inl ⟨h5, ?_, y, hy, he⟩
      rw [List.contains_iff_mem, he, ← hy]; simp
    · refine .inr ⟨h5, ?_, he⟩
      rw [Bool.eq_false_iff, Ne, List.contains_iff_mem, he]
      intro hm
      obtain ⟨a, ha, ham⟩ := List.mem_map.1 hm
      rcases List.mem_append.1 ha with h | h
      · have := h2 a h; omega
      · have := h3 a h; omega
theorem has_contains (ms : List Int) (m : Int) (h : Sorted ms) : has ms m = ms.contains m := by
  obtain ⟨A, B, _, _, _, h1⟩ := place (id : Int → Int) m ms (by rw [List.map_id]; exact h)
  rw [List.map_id] at h1
  rcases h1 with ⟨h1, h2, _⟩ | ⟨h1, h2, _⟩ <;> rw [h1, h2]

structure WF (l : Ls) : Prop where
  s1 : Sorted (l.ls.map Lease.m)
  s2 : Sorted (l.hs.map Hold.m)
  r1 : ∀ x ∈ l.ls, 1 ≤ x.m ∧ x.m ≤ 4
  r2 : ∀ x ∈ l.hs, 1 ≤ x.m ∧ x.m ≤ 4
  g : ∀ x ∈ l.ls, okG x.g
theorem sorted_len {α : Type} (f : α → Int) (b : Int) : ∀ (l : List α) (a : Int), Sorted (l.map f) → (∀ x ∈ l, a ≤ f x ∧ f x ≤ b) → a ≤ b + 1 → (l.length : Int) ≤ b + 1 - a
  | [], a, _, _, h => by simp; omega
  | x :: r, a, h, h1, h2 => by
    simp only [List.map_cons, Sorted, List.pairwise_cons] at h
    have hx := h1 x (by simp)
    have := sorted_len f b r (f x + 1) h.2 (fun y hy => by
      have h3 := h.1 (f y) (List.mem_map_of_mem hy)
      have h4 := h1 y (List.mem_cons_of_mem _ hy)
      omega) (by omega)
    simp only [List.length_cons]; omega
theorem WF.len {l : Ls} (h : WF l) : l.ls.length ≤ 4 := by
  have := sorted_len Lease.m 4 l.ls 1 h.s1 h.r1 (by omega)
  omega
theorem WF.len2 {l : Ls} (h : WF l) : l.hs.length ≤ 4 := by
  have := sorted_len Hold.m 4 l.hs 1 h.s2 h.r2 (by omega)
  omega
theorem WF.ok {l : Ls} (h : WF l) : okL l.ls := ⟨by have := h.len; omega, h.g⟩
theorem WF.nil : WF ⟨[], []⟩ := ⟨List.Pairwise.nil, List.Pairwise.nil, by simp, by simp, by simp⟩
end Go.Proofs.Ytghggnfomlibjaa
