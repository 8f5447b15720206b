/-
  Grant and Hold, as entries of the machine's table.
-/
import Derived.Test.YtghggnfomlibjaaVG
import Derived.Test.YtghggnfomlibjaaEd
set_option maxRecDepth 100000
set_option linter.unusedSimpArgs false
namespace Go.Proofs.Ytghggnfomlibjaa.Vc
open Go.Sy

theorem specT_fn {P : Program} {g : Nat} {al : List SV} {r : SV} (h : Sy.Fn P g al r) (ht : r.toks = []) : SpecT P g al [] 0 (· = ⟨r, [], []⟩) := by
  refine ⟨h.1, fun C x w vs hw hG hm hl _ hH hv => ?_⟩
  refine (h.2 C x w vs hw hG (fun b hb => ?_) (by simp) hH hv).mono ?_
  · rcases hm b hb with h | h | ⟨t, h1, h2, _⟩
    · exact .inl h
    · exact .inr h
    · omega
  · rintro en w' ⟨v, x', r', os', rfl, ⟨rfl, rfl⟩, hr, hH', hg⟩
    exact ⟨v, x', _, rfl, rfl, hr, by rw [ht] at hH'; exact hH', by simp, hg⟩

theorem row_inj {a b : Row} (h : a.sv = b.sv) : a = b := by
  obtain ⟨m, u, v, hu, hv⟩ := a
  obtain ⟨m', u', v', hu', hv'⟩ := b
  simp only [Row.sv, List.cons.injEq, SV.int.injEq, true_and, and_true] at h
  obtain ⟨rfl, rfl, rfl⟩ := h
  rfl
theorem rows_inj : ∀ {a b : List Row}, a.map Row.sv = b.map Row.sv → a = b
  | [], [], _ => rfl
  | [], _ :: _, h => by cases h
  | _ :: _, [], h => by cases h
  | a :: r, b :: q, h => by
    simp only [List.map_cons, List.cons.injEq] at h
    rw [row_inj h.1, rows_inj h.2]

structure In13 where
  ls : List Row
  hs : List Row
  m : Int
  now : Int
  gs : List (List SV)
def In13.as (x : In13) : List SV := [lsSV x.ls x.hs, .int .i64 x.m, .int .i64 x.now, .lst 1 x.gs .no]
def In13.ok (x : In13) : Prop := Sorted x.ls ∧ Sorted x.hs ∧ x.ls.length ≤ 1000000 ∧ x.hs.length ≤ 1000000
theorem In13.inj {x y : In13} (h : x.as = y.as) : x = y := by
  obtain ⟨a, b, c, d, e⟩ := x
  obtain ⟨a', b', c', d', e'⟩ := y
  simp only [In13.as, lsSV, rowsSV, List.cons.injEq, SV.agg.injEq, SV.lst.injEq, SV.int.injEq, true_and, and_true] at h
  obtain ⟨⟨h1, h2⟩, rfl, rfl, rfl⟩ := h
  rw [rows_inj h1, rows_inj h2]
open Classical in
noncomputable def p13 (al : List SV) (os : List SObj) (k : Nat) : Option CRes :=
  if h : ∃ x : In13, x.ok ∧ x.as = al ∧ os = [] ∧ k = 0 then some ⟨grantI h.choose.ls h.choose.hs h.choose.m h.choose.now h.choose.gs, [], []⟩ else none
theorem grantI_toks (ls hs : List Row) (m now : Int) (gs : List (List SV)) : (grantI ls hs m now gs).toks = [] := by
  unfold grantI
  repeat' split
  all_goals rfl
theorem p13_ok : ∀ al os k q, p13 al os k = some q → SpecT Try.prog 13 al os k (· = q) := by
  intro al os k q h
  unfold p13 at h
  split at h
  · rename_i hx
    obtain ⟨⟨a, b, c, d⟩, e1, e2, e3⟩ := hx.choose_spec
    have hh := specT_fn (spec13 _ _ a b c d hx.choose.m hx.choose.now hx.choose.gs) (grantI_toks _ _ _ _ _)
    have e4 : [lsSV hx.choose.ls hx.choose.hs, .int .i64 hx.choose.m, .int .i64 hx.choose.now, .lst 1 hx.choose.gs .no] = al := e1
    rw [e4] at hh
    rw [e2, e3, ← Option.some.inj h]
    exact hh
  · cases h
theorem p13_eq (ls hs : List Row) (h1 : Sorted ls) (h2 : Sorted hs) (l1 : ls.length ≤ 1000000) (l2 : hs.length ≤ 1000000) (m now : Int) (gs : List (List SV)) :
    p13 [lsSV ls hs, .int .i64 m, .int .i64 now, .lst 1 gs .no] [] 0 = some ⟨grantI ls hs m now gs, [], []⟩ := by
  have hx : ∃ x : In13, x.ok ∧ x.as = [lsSV ls hs, .int .i64 m, .int .i64 now, .lst 1 gs .no] ∧ ([] : List SObj) = [] ∧ 0 = 0 := ⟨⟨ls, hs, m, now, gs⟩, ⟨h1, h2, l1, l2⟩, rfl, rfl, rfl⟩
  unfold p13
  rw [dif_pos hx]
  have : hx.choose = ⟨ls, hs, m, now, gs⟩ := In13.inj hx.choose_spec.2.1
  rw [this]

structure In18 where
  ls : List Row
  hs : List Row
  m : Int
  r : Int
  s : Int
def In18.as (x : In18) : List SV := [lsSV x.ls x.hs, .int .i64 x.m, .int .i64 x.r, .int .i64 x.s]
def In18.ok (x : In18) : Prop := Sorted x.ls ∧ Sorted x.hs ∧ x.ls.length ≤ 1000000 ∧ x.hs.length ≤ 1000000
theorem In18.inj {x y : In18} (h : x.as = y.as) : x = y := by
  obtain ⟨a, b, c, d, e⟩ := x
  obtain ⟨a', b', c', d', e'⟩ := y
  simp only [In18.as, lsSV, rowsSV, List.cons.injEq, SV.agg.injEq, SV.lst.injEq, SV.int.injEq, true_and, and_true] at h
  obtain ⟨⟨h1, h2⟩, rfl, rfl, rfl⟩ := h
  rw [rows_inj h1, rows_inj h2]
open Classical in
noncomputable def p18 (al : List SV) (os : List SObj) (k : Nat) : Option CRes :=
  if h : ∃ x : In18, x.ok ∧ x.as = al ∧ os = [] ∧ k = 0 then some ⟨holdI h.choose.ls h.choose.hs h.choose.m h.choose.r h.choose.s, [], []⟩ else none
theorem holdI_toks (ls hs : List Row) (m r s : Int) : (holdI ls hs m r s).toks = [] := by
  unfold holdI
  repeat' split
  all_goals rfl
theorem p18_ok : ∀ al os k q, p18 al os k = some q → SpecT Try.prog 18 al os k (· = q) := by
  intro al os k q h
  unfold p18 at h
  split at h
  · rename_i hx
    obtain ⟨⟨a, b, c, d⟩, e1, e2, e3⟩ := hx.choose_spec
    have hh := specT_fn (spec18 _ _ a b c d hx.choose.m hx.choose.r hx.choose.s) (holdI_toks _ _ _ _ _)
    have e4 : [lsSV hx.choose.ls hx.choose.hs, .int .i64 hx.choose.m, .int .i64 hx.choose.r, .int .i64 hx.choose.s] = al := e1
    rw [e4] at hh
    rw [e2, e3, ← Option.some.inj h]
    exact hh
  · cases h
theorem p18_eq (ls hs : List Row) (h1 : Sorted ls) (h2 : Sorted hs) (l1 : ls.length ≤ 1000000) (l2 : hs.length ≤ 1000000) (m r s : Int) :
    p18 [lsSV ls hs, .int .i64 m, .int .i64 r, .int .i64 s] [] 0 = some ⟨holdI ls hs m r s, [], []⟩ := by
  have hx : ∃ x : In18, x.ok ∧ x.as = [lsSV ls hs, .int .i64 m, .int .i64 r, .int .i64 s] ∧ ([] : List SObj) = [] ∧ 0 = 0 := ⟨⟨ls, hs, m, r, s⟩, ⟨h1, h2, l1, l2⟩, rfl, rfl, rfl⟩
  unfold p18
  rw [dif_pos hx]
  have : hx.choose = ⟨ls, hs, m, r, s⟩ := In18.inj hx.choose_spec.2.1
  rw [this]
end Go.Proofs.Ytghggnfomlibjaa.Vc
