/-
  The plain law: grants, holds, releases and sweeps of the program and of the reference are one, and keep the lists well formed.
-/
import Derived.Test.YtghggnfomlibjaaP
set_option maxRecDepth 100000
set_option linter.unusedSimpArgs false
set_option linter.unusedVariables false
namespace Go.Proofs.Ytghggnfomlibjaa
open Go.Sy

def putL {α : Type} (f : α → Int) (l : List α) (x : α) : List α := if has (l.map f) (f x) = true then l.set (lb (l.map f) (f x)) x else l.take (lb (l.map f) (f x)) ++ [x] ++ l.drop (lb (l.map f) (f x))
def grantP (l : Ls) (m now : Int) (g : List (List UInt8)) : Ls × Int :=
  if ¬ (1 ≤ m ∧ m ≤ 4) then (⟨[], []⟩, 49) else if now < 0 ∨ 1099511627776 < now then (⟨[], []⟩, 1) else if has (l.hs.map Hold.m) m = true then (⟨[], []⟩, 48)
  else (⟨putL Lease.m l.ls ⟨m, now + 64, g⟩, l.hs⟩, 0)
def dropM (l : List Lease) (m : Int) : List Lease := if has (l.map Lease.m) m = true then l.take (lb (l.map Lease.m) m) ++ l.drop (lb (l.map Lease.m) m + 1) else l
def holdP (l : Ls) (m r s : Int) : Ls :=
  if has (l.hs.map Hold.m) m = true then l else if ¬ (1 ≤ m ∧ m ≤ 4) then l else ⟨dropM l.ls m, l.hs.take (lb (l.hs.map Hold.m) m) ++ [⟨m, r, s⟩] ++ l.hs.drop (lb (l.hs.map Hold.m) m)⟩

theorem sorted_mid {α : Type} {f : α → Int} {m : Int} {l A B : List α} (h : At f m l A B) (hf : l.filter (fun x => decide (f x ≠ m)) = A ++ B) (hs : Sorted (l.map f)) {x : α} (hx : f x = m) : Sorted ((A ++ x :: B).map f) := by
  have h1 : Sorted ((A ++ B).map f) := by
    rw [← hf]
    exact List.Pairwise.sublist (List.filter_sublist.map f) hs
  rw [Sorted, List.map_append, List.pairwise_append] at h1 ⊢
  obtain ⟨h2, h3, h4⟩ := h1
  refine ⟨h2, ?_, ?_⟩
  · rw [List.map_cons, List.pairwise_cons]
    refine ⟨fun b hb => ?_, h3⟩
    obtain ⟨y, hy, rfl⟩ := List.mem_map.1 hb
    have := h.hi y hy; omega
  · intro a ha b hb
    obtain ⟨z, hz, rfl⟩ := List.mem_map.1 ha
    have hz' := h.lo z hz
    obtain ⟨y, hy, rfl⟩ := List.mem_map.1 hb
    rcases List.mem_cons.1 hy with rfl | hy
    · omega
    · have := h.hi y hy; omega
theorem putL_at {α : Type} [Inhabited α] {f : α → Int} {l A B : List α} {x : α} (h : At f (f x) l A B) (ht : l.take (lb (l.map f) (f x)) = A)
    (hc : (has (l.map f) (f x) = true ∧ (l.map f).contains (f x) = true ∧ ∃ y, f y = f x ∧ l = A ++ y :: B) ∨ (has (l.map f) (f x) = false ∧ (l.map f).contains (f x) = false ∧ l = A ++ B)) : putL f l x = A ++ x :: B := by
  unfold putL
  rcases hc with ⟨h1, _, y, hy, h2⟩ | ⟨h1, _, h2⟩
  · rw [if_pos h1, ← h.len, h2, List.set_append]
    simp
  · rw [if_neg (by rw [h1]; simp), ht, ← h.len]
    have : l.drop A.length = B := by rw [h2]; simp
    rw [this]; simp
theorem find_mid {α : Type} {p : α → Bool} {A B : List α} {y : α} (h : p y = false) : (A ++ y :: B).find? p = (A ++ B).find? p := by
  simp [List.find?_append, List.find?_cons, h]
theorem canon1 (a : Int) : ∀ L : List Lease, Sorted (L.map Lease.m) → (∀ x ∈ L, a ≤ x.m) → ∃ R, L = (findL L a).toList ++ R ∧ Sorted (R.map Lease.m) ∧ (∀ x ∈ R, a + 1 ≤ x.m) ∧ (∀ j, a < j → findL L j = findL R j) ∧ ∀ x ∈ R, x ∈ L
  | [], _, _ => ⟨[], rfl, List.Pairwise.nil, by simp, fun _ _ => rfl, by simp⟩
  | x :: r, h, h1 => by
    simp only [List.map_cons, Sorted, List.pairwise_cons] at h
    have hx := h1 x (by simp)
    by_cases he : x.m = a
    · refine ⟨r, ?_, h.2, ?_, ?_, fun y hy => List.mem_cons_of_mem _ hy⟩
      · simp [findL, List.find?_cons, he]
      · intro y hy
        have := h.1 _ (List.mem_map_of_mem hy); omega
      · intro j hj
        have : ¬ x.m = j := by omega
        simp [findL, List.find?_cons, this]
    · refine ⟨x :: r, ?_, ?_, ?_, fun _ _ => rfl, fun y hy => hy⟩
      · have : findL (x :: r) a = none := by
          unfold findL
          rw [List.find?_eq_none]
          intro y hy
          rcases List.mem_cons.1 hy with rfl | hy
          · simpa using he
          · have := h.1 _ (List.mem_map_of_mem hy)
            simp; omega
        rw [this]; rfl
      · simp only [List.map_cons, Sorted, List.pairwise_cons]; exact h
      · intro y hy
        rcases List.mem_cons.1 hy with rfl | hy
        · omega
        · have := h.1 _ (List.mem_map_of_mem hy); omega
theorem canon (L : List Lease) (h : Sorted (L.map Lease.m)) (h1 : ∀ x ∈ L, 1 ≤ x.m ∧ x.m ≤ 4) : (findL L 1).toList ++ (findL L 2).toList ++ (findL L 3).toList ++ (findL L 4).toList = L := by
  obtain ⟨K1, a1, a2, a3, a4, a5⟩ := canon1 1 L h (fun x hx => (h1 x hx).1)
  obtain ⟨K2, b1, b2, b3, b4, b5⟩ := canon1 2 K1 a2 a3
  obtain ⟨K3, c1, c2, c3, c4, c5⟩ := canon1 3 K2 b2 b3
  obtain ⟨K4, d1, d2, d3, d4, d5⟩ := canon1 4 K3 c2 c3
  have hR : K4 = [] := by
    cases K4 with
    | nil => rfl
    | cons x r =>
      have hx := d3 x (by simp)
      have := (h1 x (a5 x (b5 x (c5 x (d5 x (by simp)))))).2
      omega
  rw [a4 2 (by omega), a4 3 (by omega), a4 4 (by omega), b4 3 (by omega), b4 4 (by omega), c4 4 (by omega)]
  rw [hR, List.append_nil] at d1
  rw [List.append_assoc, List.append_assoc, ← d1, ← c1, ← b1, ← a1]

theorem item_at {l A B : List Lease} {x : Lease} (h : At Lease.m x.m l A B) 
    (hc : (∃ y : Lease, y.m = x.m ∧ l = A ++ y :: B) ∨ l = A ++ B) (j : Int) : itemG l x j = (findL (A ++ x :: B) j).toList := by
  unfold itemG
  by_cases hj : j = x.m
  · rw [if_pos hj]
    have h1 : A.find? (fun y => decide (y.m = j)) = none := by
      rw [List.find?_eq_none]
      intro y hy
      have := h.lo y hy
      simp; omega
    have h2 : decide (x.m = j) = true := by simp [hj]
    simp only [findL, List.find?_append, h1, List.find?_cons, h2, Option.none_or, Option.toList_some]
  · rw [if_neg hj]
    have h2 : decide (x.m = j) = false := by simp; omega
    unfold findL
    rw [find_mid (p := fun y : Lease => decide (y.m = j)) h2]
    rcases hc with ⟨y, hy, rfl⟩ | rfl
    · have h3 : decide (y.m = j) = false := by simp; omega
      rw [find_mid (p := fun y : Lease => decide (y.m = j)) h3]
    · rfl

theorem grant_eq (l : Ls) (hl : WF l) (m now : Int) (g : List (List UInt8)) : grantP l m now g = grantR l m now g := by
  unfold grantP grantR
  by_cases c1 : 1 ≤ m ∧ m ≤ 4
  · have n1 : ¬ (m < 1 ∨ 4 < m) := by omega
    rw [if_neg (fun h => h c1), if_neg n1]
    by_cases c2 : now < 0 ∨ 1099511627776 < now
    · rw [if_pos c2, if_pos c2]
    · rw [if_neg c2, if_neg c2, has_contains _ _ hl.s2]
      by_cases c3 : (l.hs.map Hold.m).contains m = true
      · rw [if_pos c3, if_pos c3]
      · rw [if_neg c3, if_neg c3]
        obtain ⟨A, B, h1, h2, h3, h4⟩ := place Lease.m m l.ls hl.s1
        have h5 := sorted_mid h1 h2 hl.s1 (x := ⟨m, now + 64, g⟩) rfl
        have h6 : ∀ x ∈ A ++ (⟨m, now + 64, g⟩ : Lease) :: B, 1 ≤ x.m ∧ x.m ≤ 4 := by
          intro x hx
          rcases List.mem_append.1 hx with h | h
          · have : x ∈ l.ls.filter fun x => decide (x.m ≠ m) := by rw [h2]; exact List.mem_append_left _ h
            exact hl.r1 x ((List.mem_filter.1 this).1)
          · rcases List.mem_cons.1 h with rfl | h
            · exact c1
            · have : x ∈ l.ls.filter fun x => decide (x.m ≠ m) := by rw [h2]; exact List.mem_append_right _ h
              exact hl.r1 x ((List.mem_filter.1 this).1)
        have h7 := putL_at (x := (⟨m, now + 64, g⟩ : Lease)) h1 h3 h4
        have h8 : (∃ y : Lease, y.m = m ∧ l.ls = A ++ y :: B) ∨ l.ls = A ++ B := by
          rcases h4 with ⟨_, _, h⟩ | ⟨_, _, h⟩
          · exact .inl h
          · exact .inr h
        have hi := item_at (x := (⟨m, now + 64, g⟩ : Lease)) h1 h8
        rw [h7, hi, hi, hi, hi, canon _ h5 h6]
  · have n1 : m < 1 ∨ 4 < m := by omega
    rw [if_pos c1, if_pos n1]
theorem grant_wf (l : Ls) (hl : WF l) (m now : Int) (g : List (List UInt8)) (hg : okG g) (h0 : (grantR l m now g).2 = 0) : WF (grantR l m now g).1 := by
  rw [← grant_eq l hl] at h0 ⊢
  unfold grantP at h0 ⊢
  by_cases c1 : 1 ≤ m ∧ m ≤ 4
  · rw [if_neg (fun h => h c1)] at h0 ⊢
    by_cases c2 : now < 0 ∨ 1099511627776 < now
    · rw [if_pos c2] at h0; cases h0
    · rw [if_neg c2] at h0 ⊢
      by_cases c3 : has (l.hs.map Hold.m) m = true
      · rw [if_pos c3] at h0; cases h0
      · rw [if_neg c3]
        obtain ⟨A, B, h1, h2, h3, h4⟩ := place Lease.m m l.ls hl.s1
        have h5 := sorted_mid h1 h2 hl.s1 (x := ⟨m, now + 64, g⟩) rfl
        have h7 := putL_at (x := (⟨m, now + 64, g⟩ : Lease)) h1 h3 h4
        have h6 : ∀ x ∈ A ++ (⟨m, now + 64, g⟩ : Lease) :: B, x ∈ l.ls ∨ x = ⟨m, now + 64, g⟩ := by
          intro x hx
          rcases List.mem_append.1 hx with h | h
          · have : x ∈ l.ls.filter fun x => decide (x.m ≠ m) := by rw [h2]; exact List.mem_append_left _ h
            exact .inl ((List.mem_filter.1 this).1)
          · rcases List.mem_cons.1 h with rfl | h
            · exact .inr rfl
            · have : x ∈ l.ls.filter fun x => decide (x.m ≠ m) := by rw [h2]; exact List.mem_append_right _ h
              exact .inl ((List.mem_filter.1 this).1)
        refine ⟨?_, hl.s2, ?_, hl.r2, ?_⟩
        · show Sorted ((putL Lease.m l.ls _).map Lease.m); rw [h7]; exact h5
        · show ∀ x ∈ putL Lease.m l.ls _, _
          rw [h7]
          intro x hx
          rcases h6 x hx with h | rfl
          · exact hl.r1 x h
          · exact c1
        · show ∀ x ∈ putL Lease.m l.ls _, _
          rw [h7]
          intro x hx
          rcases h6 x hx with h | rfl
          · exact hl.g x h
          · exact hg
  · rw [if_pos c1] at h0; cases h0
theorem drop_eq (l : List Lease) (h : Sorted (l.map Lease.m)) (m : Int) : dropM l m = l.filter fun x => decide (x.m ≠ m) := by
  obtain ⟨A, B, h1, h2, h3, h4⟩ := place Lease.m m l h
  unfold dropM
  rcases h4 with ⟨h5, _, y, hy, h6⟩ | ⟨h5, _, h6⟩
  · rw [if_pos h5, h3, h2, ← h1.len]
    have : l.drop (A.length + 1) = B := by rw [h6]; simp
    rw [this]
  · rw [if_neg (by rw [h5]; simp), h2, h6]
theorem hold_eq (l : Ls) (hl : WF l) (m r s : Int) : holdP l m r s = holdR l m r s := by
  unfold holdP holdR
  rw [has_contains _ _ hl.s2, drop_eq _ hl.s1]
  by_cases c3 : (l.hs.map Hold.m).contains m = true
  · rw [if_pos c3, if_pos (.inr (.inr c3))]
  · by_cases c1 : 1 ≤ m ∧ m ≤ 4
    · rw [if_neg c3, if_neg (fun h => h c1), if_neg (by rintro (h | h | h); omega; omega; exact c3 h)]
      simp
    · rw [if_neg c3, if_pos c1, if_pos (by omega)]
theorem hold_wf (l : Ls) (hl : WF l) (m r s : Int) : WF (holdR l m r s) := by
  unfold holdR
  split
  · exact hl
  · rename_i h
    have c1 : 1 ≤ m ∧ m ≤ 4 := by omega
    obtain ⟨A, B, h1, h2, h3, h4⟩ := place Hold.m m l.hs hl.s2
    have c3 : ¬ (l.hs.map Hold.m).contains m = true := fun hh => h (.inr (.inr hh))
    have h5 := sorted_mid h1 h2 hl.s2 (x := ⟨m, r, s⟩) rfl
    have h6 : l.hs = A ++ B := by
      rcases h4 with ⟨_, h, _⟩ | ⟨_, _, h⟩
      · exact absurd h c3
      · exact h
    have h7 : l.hs.drop (lb (l.hs.map Hold.m) m) = B := by rw [← h1.len, h6]; simp
    refine ⟨List.Pairwise.sublist (List.filter_sublist.map _) hl.s1, ?_, fun x hx => hl.r1 x ((List.mem_filter.1 hx).1), ?_, fun x hx => hl.g x ((List.mem_filter.1 hx).1)⟩
    · show Sorted ((l.hs.take (lb (l.hs.map Hold.m) m) ++ _ :: l.hs.drop (lb (l.hs.map Hold.m) m)).map Hold.m)
      rw [h3, h7]; exact h5
    · show ∀ x ∈ l.hs.take (lb (l.hs.map Hold.m) m) ++ (⟨m, r, s⟩ : Hold) :: l.hs.drop (lb (l.hs.map Hold.m) m), _
      intro x hx
      rcases List.mem_append.1 hx with h | h
      · exact hl.r2 x (List.mem_of_mem_take h)
      · rcases List.mem_cons.1 h with rfl | h
        · exact c1
        · exact hl.r2 x (List.mem_of_mem_drop h)
theorem rel_eq (l : Ls) (hl : WF l) (m : Int) : relP l m = relR l m := by
  unfold relP relR
  rw [has_contains _ _ hl.s2]
  by_cases c1 : 1 ≤ m ∧ m ≤ 4
  · have n1 : ¬ (m < 1 ∨ 4 < m) := by omega
    rw [if_neg (fun h => h c1), if_neg n1]
    by_cases c3 : (l.hs.map Hold.m).contains m = false
    · rw [if_pos c3, if_pos c3]
    · rw [if_neg c3, if_neg c3]
      obtain ⟨A, B, h1, h2, h3, h4⟩ := place Hold.m m l.hs hl.s2
      rcases h4 with ⟨h5, _, y, hy, h6⟩ | ⟨_, h, _⟩
      · rw [h2, h3, ← h1.len]
        have : l.hs.drop (A.length + 1) = B := by rw [h6]; simp
        rw [this]
      · exact absurd h c3
  · have n1 : m < 1 ∨ 4 < m := by omega
    rw [if_pos c1, if_pos n1]
theorem rel_wf (l : Ls) (hl : WF l) (m : Int) (h0 : (relR l m).2 = 0) : WF (relR l m).1 := by
  unfold relR at h0 ⊢
  split
  · rename_i h; rw [if_pos h] at h0; cases h0
  · rename_i h; rw [if_neg h] at h0
    split
    · rename_i h1; rw [if_pos h1] at h0; cases h0
    · exact ⟨hl.s1, List.Pairwise.sublist (List.filter_sublist.map _) hl.s2, hl.r1, fun x hx => hl.r2 x ((List.mem_filter.1 hx).1), hl.g⟩
theorem filter_wf (l : Ls) (hl : WF l) (p : Lease → Bool) : WF ⟨l.ls.filter p, l.hs⟩ :=
  ⟨List.Pairwise.sublist (List.filter_sublist.map _) hl.s1, hl.s2, fun x hx => hl.r1 x ((List.mem_filter.1 hx).1), hl.r2, fun x hx => hl.g x ((List.mem_filter.1 hx).1)⟩
theorem keep_eq (now : Int) (fs : List (List UInt8)) (x : Lease) : keepP now fs x = keepR now fs x := by
  unfold keepP keepR subsetB
  congr 1
  rw [List.not_any_eq_all_not]
  congr 1
  funext y
  simp only [Bool.not_not]
  congr 1
  funext z
  exact decide_eq_decide.2 ⟨Eq.symm, Eq.symm⟩
theorem adm_eq (l : List Lease) (h : Sorted (l.map Lease.m)) (m now : Int) : admP l m now = admR l m now := by
  obtain ⟨A, B, h1, h2, h3, h4⟩ := place Lease.m m l h
  unfold admP admR
  have hA : A.find? (fun x => decide (x.m = m)) = none := by
    rw [List.find?_eq_none]
    intro y hy
    have := h1.lo y hy
    simp; omega
  rcases h4 with ⟨h5, _, y, hy, h6⟩ | ⟨h5, _, h6⟩
  · have hf : findL l m = some y := by
      unfold findL
      rw [h6, List.find?_append, hA, List.find?_cons, decide_eq_true hy]; rfl
    have hg : l.getD (lb (l.map Lease.m) m) default = y := by rw [← h1.len, h6]; simp
    rw [h5, hf, hg]; rfl
  · have hB : B.find? (fun x => decide (x.m = m)) = none := by
      rw [List.find?_eq_none]
      intro y hy
      have := h1.hi y hy
      simp; omega
    have hf : findL l m = none := by
      unfold findL
      rw [h6, List.find?_append, hA, hB]; rfl
    rw [h5, hf]; rfl
end Go.Proofs.Ytghggnfomlibjaa
