/- An engine that steps through Go code with symbolic values: sound by proof. No condition. -/
import Derived.Test.YtghggnfomlibjaaEc
import Derived.Below
import Derived.Carry
import Derived.ChangeSlices
import Derived.JoinedCond
import Derived.OpenShut
import Derived.RowKit3
import Derived.SliceStrings
set_option linter.unusedVariables false
set_option linter.unusedSimpArgs false
set_option linter.unnecessarySimpa false
set_option linter.unusedSimpArgs false
set_option linter.unnecessarySimpa false
namespace Go.Sy
variable {P : Program} {C : Ctx} {x : Sit} {a : Act} {w : World} {N : Nat} {c c' : CSt} {s : St} {T : Table}
def Ex.out : Ex → Exit
  | .n => .normal
  | .x id => .exit id
  | .r => .ret
def EQ (C : Ctx) (N : Nat) (e : Ex) (c' : CSt) : Exit → Act → World → Prop := fun e' a w => e' = e.out ∧ M C N c' a w
def RunOK (P : Program) (T : Table) (n : Nat) : Prop :=
  (∀ (r : RC) (c : CSt) (e : Ex) (c' : CSt), runN T n r c = some (e, c') → ∀ (code : Code) (C : Ctx) (N : Nat) (a : Act) (w : World), resCode P code = some r.er → r.ok N = true → M C N c a w → code.wp P (EQ C N e c') a w) ∧
  (∀ (b : RC) (c : CSt) (e : Ex) (c' : CSt), runN T n (.loop b) c = some (e, c') → ∀ (code : Code) (C : Ctx) (N : Nat) (a : Act) (w : World), resCode P code = some b.er → b.ok N = true → M C N c a w → Code.rounds P code (EQ C N e c') n a w)
theorem er_loop {code : Code} {b : SCode} (h : resCode P code = some (.loop b)) : ∃ b', code = .loop b' ∧ resCode P b' = some b := by
  cases code with
  | loop b' => simp only [resCode] at h; obtain ⟨sb, hb, he⟩ := Option.map_eq_some_iff.1 h; cases he; exact ⟨b', rfl, hb⟩
  | region id ops draw =>
    simp only [resCode] at h
    split at h <;> try (cases h; done)
    split at h
    · rw [Option.ite_none_right_eq_some] at h; cases h.2
    · cases h
  | seq y z => simp only [resCode] at h; split at h <;> cases h
  | cond c y z => simp only [resCode] at h; split at h <;> cases h
  | block id b => simp only [resCode] at h; obtain ⟨_, _, h⟩ := Option.map_eq_some_iff.1 h; cases h
  | _ => simp [resCode] at h
theorem er_block {code : Code} {id : Nat} {b : SCode} (h : resCode P code = some (.block id b)) : ∃ b', code = .block id b' ∧ resCode P b' = some b := by
  cases code with
  | block id b' => simp only [resCode] at h; obtain ⟨sb, hb, he⟩ := Option.map_eq_some_iff.1 h; cases he; exact ⟨b', rfl, hb⟩
  | region id ops draw =>
    simp only [resCode] at h
    split at h <;> try (cases h; done)
    split at h
    · rw [Option.ite_none_right_eq_some] at h; cases h.2
    · cases h
  | seq y z => simp only [resCode] at h; split at h <;> cases h
  | cond c y z => simp only [resCode] at h; split at h <;> cases h
  | loop b => simp only [resCode] at h; obtain ⟨_, _, h⟩ := Option.map_eq_some_iff.1 h; cases h
  | _ => simp [resCode] at h
theorem er_seq {code : Code} {y z : SCode} (h : resCode P code = some (.seq y z)) : ∃ y' z', code = .seq y' z' ∧ resCode P y' = some y ∧ resCode P z' = some z := by
  cases code with
  | seq y' z' =>
    simp only [resCode] at h
    split at h <;> try (cases h; done)
    rename_i sy sz hy hz
    cases h
    exact ⟨y', z', rfl, hy, hz⟩
  | region id ops draw =>
    simp only [resCode] at h
    split at h <;> try (cases h; done)
    split at h
    · rw [Option.ite_none_right_eq_some] at h; cases h.2
    · cases h
  | cond c y z => simp only [resCode] at h; split at h <;> cases h
  | block id b => simp only [resCode] at h; obtain ⟨_, _, h⟩ := Option.map_eq_some_iff.1 h; cases h
  | loop b => simp only [resCode] at h; obtain ⟨_, _, h⟩ := Option.map_eq_some_iff.1 h; cases h
  | _ => simp [resCode] at h
theorem er_cond {code : Code} {k : Arg} {y z : SCode} (h : resCode P code = some (.cond k y z)) : ∃ k' y' z', code = .cond k' y' z' ∧ resArg P 0 k' = some k ∧ resCode P y' = some y ∧ resCode P z' = some z := by
  cases code with
  | cond k' y' z' =>
    simp only [resCode] at h
    split at h <;> try (cases h; done)
    rename_i sc sy sz hcc hy hz
    cases h
    exact ⟨k', y', z', rfl, hcc, hy, hz⟩
  | region id ops draw =>
    simp only [resCode] at h
    split at h <;> try (cases h; done)
    split at h
    · rw [Option.ite_none_right_eq_some] at h; cases h.2
    · cases h
  | seq y z => simp only [resCode] at h; split at h <;> cases h
  | block id b => simp only [resCode] at h; obtain ⟨_, _, h⟩ := Option.map_eq_some_iff.1 h; cases h
  | loop b => simp only [resCode] at h; obtain ⟨_, _, h⟩ := Option.map_eq_some_iff.1 h; cases h
  | _ => simp [resCode] at h
theorem er_ops {code : Code} {l : List SI} (h : resCode P code = some (.ops l)) : ∃ id ops, code = .region id ops false ∧ mapO (resSI P ops) ops.toList = some l := by
  cases code with
  | region id ops draw =>
    simp only [resCode] at h
    split at h <;> try (cases h; done)
    rename_i l' hl
    cases draw with
    | false =>
      simp only [Bool.false_eq_true, if_false, Option.some.injEq, SCode.ops.injEq] at h
      subst h; exact ⟨id, ops, rfl, hl⟩
    | true =>
      simp only [if_true] at h
      rw [Option.ite_none_right_eq_some] at h; cases h.2
  | seq y z => simp only [resCode] at h; split at h <;> cases h
  | cond c y z => simp only [resCode] at h; split at h <;> cases h
  | block id b => simp only [resCode] at h; obtain ⟨_, _, h⟩ := Option.map_eq_some_iff.1 h; cases h
  | loop b => simp only [resCode] at h; obtain ⟨_, _, h⟩ := Option.map_eq_some_iff.1 h; cases h
  | _ => simp [resCode] at h
theorem er_drw {code : Code} {b ds : List Nat} {l : List SI} (h : resCode P code = some (.drw b ds l)) : ∃ id ops, code = .region id ops true ∧ mapO (resSI P ops) ops.toList = some l ∧ drawn ops l = true ∧ P.follows .mixedOrders = true ∧ b = (Region.before ops).toList ∧ ds = dsOf l := by
  cases code with
  | region id ops draw =>
    simp only [resCode] at h
    split at h <;> try (cases h; done)
    rename_i l' hl
    cases draw with
    | false => simp only [Bool.false_eq_true, if_false, Option.some.injEq, reduceCtorEq] at h
    | true =>
      simp only [if_true] at h
      rw [Option.ite_none_right_eq_some] at h
      obtain ⟨hc, h⟩ := h
      simp only [Option.some.injEq, SCode.drw.injEq] at h
      obtain ⟨rfl, rfl, rfl⟩ := h
      rw [Bool.and_eq_true] at hc
      exact ⟨id, ops, rfl, hl, hc.1, hc.2, rfl, rfl⟩
  | seq y z => simp only [resCode] at h; split at h <;> cases h
  | cond c y z => simp only [resCode] at h; split at h <;> cases h
  | block id b => simp only [resCode] at h; obtain ⟨_, _, h⟩ := Option.map_eq_some_iff.1 h; cases h
  | loop b => simp only [resCode] at h; obtain ⟨_, _, h⟩ := Option.map_eq_some_iff.1 h; cases h
  | _ => simp [resCode] at h
theorem er_skip {code : Code} (h : resCode P code = some .skip) : code = .skip := by
  cases code with
  | skip => rfl
  | region id ops draw =>
    simp only [resCode] at h
    split at h <;> try (cases h; done)
    split at h
    · rw [Option.ite_none_right_eq_some] at h; cases h.2
    · cases h
  | seq y z => simp only [resCode] at h; split at h <;> cases h
  | cond c y z => simp only [resCode] at h; split at h <;> cases h
  | block id b => simp only [resCode] at h; obtain ⟨_, _, h⟩ := Option.map_eq_some_iff.1 h; cases h
  | loop b => simp only [resCode] at h; obtain ⟨_, _, h⟩ := Option.map_eq_some_iff.1 h; cases h
  | _ => simp [resCode] at h
theorem er_ret {code : Code} (h : resCode P code = some .ret) : code = .ret := by
  cases code with
  | ret => rfl
  | region id ops draw =>
    simp only [resCode] at h
    split at h <;> try (cases h; done)
    split at h
    · rw [Option.ite_none_right_eq_some] at h; cases h.2
    · cases h
  | seq y z => simp only [resCode] at h; split at h <;> cases h
  | cond c y z => simp only [resCode] at h; split at h <;> cases h
  | block id b => simp only [resCode] at h; obtain ⟨_, _, h⟩ := Option.map_eq_some_iff.1 h; cases h
  | loop b => simp only [resCode] at h; obtain ⟨_, _, h⟩ := Option.map_eq_some_iff.1 h; cases h
  | _ => simp [resCode] at h
theorem er_exit {code : Code} {id : Nat} (h : resCode P code = some (.exit id)) : code = .exit id := by
  cases code with
  | exit id' => simp only [resCode, Option.some.injEq, SCode.exit.injEq] at h; rw [h]
  | region id ops draw =>
    simp only [resCode] at h
    split at h <;> try (cases h; done)
    split at h
    · rw [Option.ite_none_right_eq_some] at h; cases h.2
    · cases h
  | seq y z => simp only [resCode] at h; split at h <;> cases h
  | cond c y z => simp only [resCode] at h; split at h <;> cases h
  | block id b => simp only [resCode] at h; obtain ⟨_, _, h⟩ := Option.map_eq_some_iff.1 h; cases h
  | loop b => simp only [resCode] at h; obtain ⟨_, _, h⟩ := Option.map_eq_some_iff.1 h; cases h
  | _ => simp [resCode] at h
theorem stepR_sound {n : Nat} (hR : RunOK P T n) (hcal : CallOK P (callN T n)) {r : RC} {c : CSt} {e : Ex} {c' : CSt} (h : stepR (runN T n) (callN T n) T.sg r c = some (e, c')) (hl : ∀ b, r ≠ .loop b) {code : Code} {C : Ctx} {N : Nat} {a : Act} {w : World}
    (hr : resCode P code = some r.er) (hok : r.ok N = true) (hM : M C N c a w) : code.wp P (EQ C N e c') a w := by
  cases r with
  | skip =>
    cases h
    have := er_skip (by simpa [RC.er] using hr)
    subst this
    exact wp_skip ⟨rfl, hM⟩
  | ret =>
    cases h
    have := er_ret (by simpa [RC.er] using hr)
    subst this
    exact wp_ret ⟨rfl, hM⟩
  | exit id =>
    cases h
    have := er_exit (by simpa [RC.er] using hr)
    subst this
    exact wp_exit ⟨rfl, hM⟩
  | ops l =>
    obtain ⟨id, ops, rfl, hl'⟩ := er_ops (by simpa [RC.er] using hr)
    simp only [stepR] at h
    cases hs : opsC (callN T n) T.sg l c with
    | none => rw [hs] at h; cases h
    | some c1 =>
      rw [hs] at h
      simp only [nrm, kill_nil, Option.some.injEq, Prod.mk.injEq] at h
      obtain ⟨rfl, rfl⟩ := h
      refine wp_region ?_
      rw [List.range_eq_range']
      exact opsC_sound hcal hl' l ops.size 0 (by omega) (by simp) hok hM hs fun a w h => ⟨rfl, h⟩
  | drw b ds l dead =>
    obtain ⟨id, ops, rfl, hl', hdr, hmo, rfl, rfl⟩ := er_drw (by simpa [RC.er] using hr)
    simp only [stepR] at h
    cases hs : runD (callN T n) T.sg (Region.before ops).toList l [] (gcC c (dsOf l)) with
    | none => rw [hs] at h; cases h
    | some c1 =>
      rw [hs] at h
      simp only [nrm, Option.some.injEq, Prod.mk.injEq] at h
      obtain ⟨rfl, rfl⟩ := h
      obtain ⟨x, s, hMo, hS⟩ := hM
      exact draw_sound hl' hdr hmo (k := Sim N c1) (fun a w h => ⟨rfl, M.kill h dead⟩) hMo (runD_sound hcal hok (gc_sim hS) hs)
  | flt b ds l dead =>
    obtain ⟨id, ops, rfl, hl', hdr, hmo, rfl, rfl⟩ := er_drw (by simpa [RC.er] using hr)
    simp only [RC.ok, Bool.and_eq_true] at hok
    simp only [stepR] at h
    cases hs : fltC (callN T n) T.sg (Region.before ops).toList l [] c with
    | none => rw [hs] at h; cases h
    | some c1 =>
      rw [hs] at h
      simp only [nrm, Option.some.injEq, Prod.mk.injEq] at h
      obtain ⟨rfl, rfl⟩ := h
      exact flt_sound hcal hl' hdr hmo hok.1 hok.2 (fun a w h => ⟨rfl, M.kill h dead⟩) hM hs
  | seq y z =>
    obtain ⟨y', z', rfl, hy, hz⟩ := er_seq (by simpa [RC.er] using hr)
    simp only [RC.ok, Bool.and_eq_true] at hok
    simp only [stepR] at h
    cases hs : runN T n y c with
    | none => rw [hs] at h; cases h
    | some p =>
      obtain ⟨e1, c1⟩ := p
      rw [hs] at h
      refine wp_seq (wp_mono (hR.1 _ _ _ _ hs y' C N a w hy hok.1 hM) ?_)
      rintro e' a' w' ⟨rfl, hM'⟩
      cases e1 with
      | n => exact hR.1 _ _ _ _ h z' C N a' w' hz hok.2 hM'
      | x id => cases h; exact ⟨rfl, hM'⟩
      | r => cases h; exact ⟨rfl, hM'⟩
  | cond k y z =>
    obtain ⟨k', y', z', rfl, hk, hy, hz⟩ := er_cond (by simpa [RC.er] using hr)
    simp only [RC.ok, Bool.and_eq_true] at hok
    simp only [stepR] at h
    unfold cnd at h
    split at h <;> try (cases h; done)
    rename_i t ht
    have hv : a.eval k' = .bool t := by
      obtain ⟨x, s, hMo, hS⟩ := hM
      have hrep := resArg_rep hMo hk
      rw [hS.ev, ht] at hrep
      exact hrep.bool_inv
    refine wp_cond_split hv (fun e => ?_) (fun e => ?_)
    · subst e
      rw [if_pos rfl] at h
      exact hR.1 _ _ _ _ h y' C N a w hy hok.1 hM
    · subst e
      rw [if_neg (by simp)] at h
      exact hR.1 _ _ _ _ h z' C N a w hz hok.2 hM
  | block id b =>
    obtain ⟨b', rfl, hb⟩ := er_block (by simpa [RC.er] using hr)
    simp only [stepR] at h
    cases hs : runN T n b c with
    | none => rw [hs] at h; cases h
    | some p =>
      obtain ⟨e1, c1⟩ := p
      rw [hs] at h
      refine wp_block (wp_mono (hR.1 _ _ _ _ hs b' C N a w hb hok hM) ?_)
      rintro e' a' w' ⟨rfl, hM'⟩
      cases e1 with
      | n => cases h; exact ⟨rfl, hM'⟩
      | r => cases h; exact ⟨rfl, hM'⟩
      | x id' =>
        simp only [blk] at h
        simp only [Ex.out, Exit.inBlock]
        split at h <;> rename_i hid
        · cases h; rw [if_pos hid]; exact ⟨rfl, hM'⟩
        · cases h; rw [if_neg hid]; exact ⟨rfl, hM'⟩
  | loop b => exact absurd rfl (hl b)
  | pre ds y =>
    simp only [stepR] at h
    cases hs : dirsC c ds with
    | none => rw [hs] at h; cases h
    | some c1 =>
      rw [hs] at h
      exact hR.1 _ _ _ _ h code C N a w (by simpa [RC.er] using hr) hok (dirsC_sound hM hs)
  | post y ds =>
    simp only [stepR] at h
    cases hs : runN T n y c with
    | none => rw [hs] at h; cases h
    | some p =>
      obtain ⟨e1, c1⟩ := p
      rw [hs] at h
      refine wp_mono (hR.1 _ _ _ _ hs code C N a w (by simpa [RC.er] using hr) hok hM) ?_
      rintro e' a' w' ⟨rfl, hM'⟩
      cases e1 with
      | n =>
        simp only [psD] at h
        split at h
        · rename_i c2 h2; cases h; exact ⟨rfl, dirsC_sound hM' h2⟩
        · cases h
      | x id => cases h; exact ⟨rfl, hM'⟩
      | r => cases h; exact ⟨rfl, hM'⟩
theorem runOK_zero : RunOK P T 0 := ⟨fun r c e c' h => by simp [runN] at h, fun b c e c' h => by simp [runN] at h⟩
theorem runOK_succ {n : Nat} (hR : RunOK P T n) (hcal : CallOK P (callN T n)) : RunOK P T (n + 1) := by
  have h2 : ∀ (b : RC) (c : CSt) (e : Ex) (c' : CSt), runN T (n + 1) (.loop b) c = some (e, c') → ∀ (code : Code) (C : Ctx) (N : Nat) (a : Act) (w : World), resCode P code = some b.er → b.ok N = true → M C N c a w → Code.rounds P code (EQ C N e c') (n + 1) a w := by
    intro b c e c' h code C N a w hr hok hM
    rw [runN] at h
    simp only [stepR] at h
    rw [rounds_succ]
    cases hs : runN T n b c with
    | none => rw [hs] at h; cases h
    | some p =>
      obtain ⟨e1, c1⟩ := p
      rw [hs] at h
      refine wp_mono (hR.1 _ _ _ _ hs code C N a w hr hok hM) ?_
      rintro e' a' w' ⟨rfl, hM'⟩
      cases e1 with
      | n => exact hR.2 _ _ _ _ h code C N a' w' hr hok hM'
      | x id => cases h; exact ⟨rfl, hM'⟩
      | r => cases h; exact ⟨rfl, hM'⟩
  refine ⟨fun r c e c' h code C N a w hr hok hM => ?_, h2⟩
  by_cases hl : ∃ b, r = .loop b
  · obtain ⟨b, rfl⟩ := hl
    obtain ⟨b', rfl, hb⟩ := er_loop (by simpa [RC.er] using hr)
    exact wp_loop_rounds (n + 1) (h2 b c e c' h b' C N a w hb hok hM)
  · rw [runN] at h
    exact stepR_sound hR hcal h (fun b e => hl ⟨b, e⟩) hr hok hM
def rvOK (P : Program) : ResultVar → RV → Prop
  | .tmp t, .tmp t' => t = t'
  | .cell t ty, .cell t' n ag => t = t' ∧ szOf P ty = some n ∧ isAg P ty = some ag
  | _, _ => False
def rvsOK (P : Program) : List ResultVar → List RV → Prop
  | [], [] => True
  | a :: r, b :: s => rvOK P a b ∧ rvsOK P r s
  | _, _ => False
theorem resC_of (hS : Sim N c s) : ∀ {rs : List ResultVar} {rv : List RV} {vs : List SV}, rvsOK P rs rv → resC c rv = some vs → ∃ p, resV P s rs = some (p, vs) ∧ p
  | [], [], vs, _, h => by cases h; exact ⟨True, rfl, trivial⟩
  | [], _ :: _, _, h, _ => h.elim
  | _ :: _, [], _, h, _ => h.elim
  | .tmp t :: r, .tmp t' :: q, vs, h, hv => by
    obtain ⟨h1, h2⟩ := h
    have h1 : t = t' := h1
    subst h1
    simp only [resC] at hv
    split at hv <;> cases hv
    rename_i vs' hv'
    obtain ⟨p, h3, h4⟩ := resC_of hS h2 hv'
    exact ⟨p, by simp only [resV, h3, hS.get], h4⟩
  | .cell t ty :: r, .cell t' n ag :: q, vs, h, hv => by
    obtain ⟨⟨rfl, g1, g2⟩, h2⟩ := h
    simp only [resC] at hv
    split at hv <;> cases hv
    rename_i v vs' hl hv'
    obtain ⟨p, h3, h4⟩ := resC_of hS h2 hv'
    have hl' : (if (ag || n == 1) = true then loadC c n ag (c.get t) else none) = some v := by
      rw [← hl]
      congr 1
      simp
    split at hl'
    · rename_i hc
      obtain ⟨p', h5, h6⟩ := loadC_of hS hl'
      refine ⟨p' ∧ p, ?_, h6, h4⟩
      simp only [resV, g1, g2, h3, hS.get]
      rw [if_pos hc, h5]
    · cases hl'
  | .tmp _ :: _, .cell _ _ _ :: _, _, h, _ => h.1.elim
  | .cell _ _ :: _, .tmp _ :: _, _, h, _ => h.1.elim
def oneV (us : List Value) : Value := if h : us.toArray.size = 1 then us.toArray[0] else .tuple us.toArray
theorem oneRep {vs : List SV} {us : List Value} (h : RepL x vs us) : Rep x (oneSV vs) (oneV us) := by
  have hlen := h.1
  unfold oneV
  match vs, us, hlen with
  | [v], [u], _ => simpa [oneSV] using h.2 0 (by simp)
  | [], [], _ => simp only [oneSV]; exact .tup _ _ h.1 h.2
  | v1 :: v2 :: vs, u1 :: u2 :: us, _ => simp only [oneSV]; rw [dif_neg (by simp)]; exact .tup _ _ h.1 h.2
theorem Heap.sel {ob ob2 : List (Nat × SObj)} {tk tk2 : List Nat} (hH : Heap C x ob tk w) {x2 : Sit} (hG : x2.G = x.G) (hob : ∀ p ∈ ob2, ObjRep x2 w p.1 p.2 ∧ ∃ q ∈ ob, x2.β p.1 = x.β q.1) (hnd : (ob2.map Prod.fst).Nodup)
    (hinj : ∀ p ∈ ob2, ∀ q ∈ ob2, x2.β p.1 = x2.β q.1 → p.1 = q.1) (htk : ∀ t ∈ tk2, (x2.τ t).2.1 = (x2.τ t).2.2 ∨ ∃ u ∈ tk, x2.τ t = x.τ u)
    (htd : ∀ t ∈ tk2, ∀ u ∈ tk2, t ≠ u → (x2.τ t).2.1 = (x2.τ t).2.2 ∨ (x2.τ u).2.1 = (x2.τ u).2.2 ∨ ∃ t' ∈ tk, ∃ u' ∈ tk, t' ≠ u' ∧ x2.τ t = x.τ t' ∧ x2.τ u = x.τ u') (hpin : ∀ i, i < 100 → x2.β i = x.β i) : Heap C x2 ob2 tk2 w := by
  refine ⟨fun b o v hv => hH.per b o v (by rw [← hG]; exact hv), fun b o v hv => by rw [hG]; exact hH.g0 b o v hv, fun b o v hv => hH.gm b o v (by rw [← hG]; exact hv), hH.new, ?_, hnd, hinj, ?_, ?_, ?_, hH.os, hH.tape, hH.output, hH.size, hH.ext,
    fun i hi => (hpin i hi).trans (hH.pin i hi)⟩
  · intro p hp
    obtain ⟨h1, q, hq, h2⟩ := hob p hp
    obtain ⟨_, h3, h4⟩ := hH.obs q hq
    exact ⟨h1, by rw [h2]; exact h3, fun off => by rw [hG, h2]; exact h4 off⟩
  · intro t ht
    rcases htk t ht with h | ⟨u, hu, h⟩
    · exact .inl h
    · have := hH.tks u hu
      unfold TokRep at this ⊢
      rw [h, hG]; exact this
  · intro t ht p hp
    obtain ⟨_, q, hq, h2⟩ := hob p hp
    rcases htk t ht with h | ⟨u, hu, h⟩
    · exact .inr h
    · rw [h, h2]; exact hH.tko u hu q hq
  · intro t ht u hu htu
    rcases htd t ht u hu htu with h | h | ⟨t', ht', u', hu', hne, h1, h2⟩
    · exact .inr (.inl h)
    · exact .inr (.inr h)
    · rw [h1, h2]; exact hH.tkd t' ht' u' hu' hne
theorem mem_zipIx {p : Nat × SObj} : ∀ {l : List SObj} {k : Nat}, p ∈ zipIx k l ↔ ∃ i, i < l.length ∧ p.1 = k + i ∧ p.2 = l.getD i (.rc [])
  | [], k => by simp [zipIx]
  | o :: r, k => by
    simp only [zipIx, List.mem_cons, mem_zipIx]
    constructor
    · rintro (rfl | ⟨i, h1, h2, h3⟩)
      · exact ⟨0, by simp, rfl, rfl⟩
      · exact ⟨i + 1, by simpa using h1, by omega, by simpa using h3⟩
    · rintro ⟨i, h1, h2, h3⟩
      cases i with
      | zero => left; exact Prod.ext (by simpa using h2) (by simpa using h3)
      | succ i => exact .inr ⟨i, by simpa using h1, by omega, by simpa using h3⟩
theorem nodup_zipIx : ∀ (l : List SObj) (k : Nat), ((zipIx k l).map Prod.fst).Nodup
  | [], _ => by simp [zipIx]
  | o :: r, k => by
    simp only [zipIx, List.map_cons, List.nodup_cons]
    refine ⟨fun h => ?_, nodup_zipIx r (k + 1)⟩
    obtain ⟨p, hp, e⟩ := List.mem_map.1 h
    obtain ⟨i, _, h2, _⟩ := mem_zipIx.1 hp
    omega
theorem upto_getD (n i : Nat) (h : i < n) : (upto n).getD i 0 = i := by
  have hl : ∀ n, (upto n).length = n := by
    intro n
    induction n with
    | zero => rfl
    | succ n ih => simp [upto, ih]
  induction n with
  | zero => omega
  | succ n ih =>
    simp only [upto, List.getD_eq_getElem?_getD, List.getElem?_append, hl]
    by_cases hi : i < n
    · rw [if_pos hi, ← List.getD_eq_getElem?_getD, ih hi]
    · rw [if_neg hi]; have : i - n = 0 := by omega
      rw [this]; simp; omega
theorem fin_sound {keep raw : List Nat} {k : Nat} {vs : List SV} {us : List Value} {q : CRes} (hM : Models C x s a w) (hS : Sim N c s) (hk : k ≤ 40) (hv : RepL x vs us) (h : finP keep k (pubAll c vs (slIds raw 0 vs)) = some q) :
    ∃ x', Rep x' q.r (oneV us) ∧ Heap C x' q.os q.tk w ∧ (∀ p ∈ q.os, p.2.wf = true) ∧ ∀ i, i < 100 → x'.β i = C.β0 i := by
  obtain ⟨x1, s1, hM1, hS1, hv1⟩ := pubAll_sound (l := slIds raw 0 vs) hM hS hv
  generalize pubAll c vs (slIds raw 0 vs) = z at h hS1 hv1
  obtain ⟨c1, vs1⟩ := z
  simp only at hS1 hv1
  simp only [finP] at h
  have hE := hS1.exact hM1
  cases hb : (decide (k = 0) && (SV.idsL vs1).isEmpty && keep.isEmpty) with
  | true =>
    rw [hb] at h
    simp only [fin1, Option.some.injEq] at h
    subst h
    refine ⟨x1, ?_, hE.heap.only (by simp) (by simp) (by simp), by simp, fun i hi => hE.heap.pin i hi⟩
    refine oneRep ?_
    rw [bareL_eq]
    refine ⟨by simpa using hv1.1, fun i hi => ?_⟩
    rw [getD_map_undef _ (by rfl)]
    exact (hv1.2 i (by simpa using hi)).bare rfl rfl
  | false =>
    rw [hb] at h
    simp only [fin1] at h
    generalize hz : tokL c1.tk keep 60 0 vs1 = z at h
    obtain ⟨vs2, mt1⟩ := z
    simp only [fin2] at h
    generalize reach c1 60 [] (upto k ++ SV.idsL vs2) = m at h
    cases ho : looks c1 m with
    | none => rw [ho] at h; cases h
    | some os0 =>
      rw [ho] at h
      simp only [fin3] at h
      generalize hz2 : tokObs c1.tk (60 + mt1.length) os0 = z2 at h
      obtain ⟨os, mt2⟩ := z2
      simp only [fin4] at h
      cases hb2 : (subB (SV.idsL vs2 ++ obsIds os) m && nodupB m && nodupB (somes (mt1 ++ mt2)) && decide (m.take k = upto k) && (m.drop k).all fun o => decide (k ≤ o)) with
      | false => rw [hb2] at h; cases h
      | true =>
        rw [hb2] at h
        simp only [fin5, Option.some.injEq] at h
        subst h
        simp only [Bool.and_eq_true, decide_eq_true_eq, List.all_eq_true] at hb2
        obtain ⟨⟨⟨⟨hsub, hmn⟩, htn⟩, htake⟩, hdrop⟩ := hb2
        obtain ⟨hol, hog⟩ := looks_of ho
        have hsubm := subB_iff hsub
        have hmnd := nodupB_iff hmn
        have htnd := nodupB_iff htn
        have hul : ∀ n, (upto n).length = n := by
          intro n
          induction n with
          | zero => rfl
          | succ n ih => simp [upto, ih]
        have hkm : k ≤ m.length := by
          have := congrArg List.length htake
          rw [List.length_take, hul] at this; omega
        have hfirst : ∀ i, i < k → m.getD i 0 = i := by
          intro i hi
          have h1 : (m.take k).getD i 0 = m.getD i 0 := by simp only [List.getD_eq_getElem?_getD, List.getElem?_take, if_pos hi]
          rw [← h1, htake, upto_getD k i hi]
        have hrest : ∀ i, k ≤ i → i < m.length → k ≤ m.getD i 0 := by
          intro i h1 h2
          refine hdrop _ ?_
          have : m.getD i 0 = (m.drop k).getD (i - k) 0 := by
            simp only [List.getD_eq_getElem?_getD, List.getElem?_drop]; congr 2; omega
          rw [this]
          exact getD_mem (by rw [List.length_drop]; omega)
        let τ2 : Nat → Nat × Nat × Nat := fun t => if 60 ≤ t ∧ t < 60 + (mt1 ++ mt2).length then tokAt x1 ((mt1 ++ mt2).getD (t - 60) none) else (0, 0, 0)
        let x2 : Sit := ⟨x1.G, x1.β, τ2⟩
        let x3 : Sit := ⟨x1.G, fun i => if i < 100 then x1.β i else x1.β (m.getD (i - 100) 0), τ2⟩
        have hτ : ∀ y : Sit, y.τ = τ2 → Toks x1 y 60 (mt1 ++ mt2) := by
          intro y hy j hj
          rw [hy]
          show (if _ then _ else _) = _
          rw [if_pos ⟨by omega, by omega⟩]
          congr 2; omega
        have hmem : ∀ i, i < m.length → (m.getD i 0, os0.getD i (.rc [])) ∈ c1.ob := fun i hi => getO_mem (hog i hi)
        have hβ : ∀ o ∈ m, x3.β (newIx k m o) = x1.β o := by
          intro o ho
          unfold newIx
          split
          · rename_i hlt
            show (if _ then _ else _) = _
            rw [if_pos (by omega)]
          · show (if _ then _ else _) = _
            rw [if_neg (by omega)]
            have e : 100 + ixOf m o - 100 = ixOf m o := by omega
            rw [e, (ixOf_lt ho).2]
        have hT2 := hτ x2 rfl
        have ha2 : RepL x2 vs2 us := by
          have := tokL_rep (x := x1) (x1 := x2) rfl rfl (tk := c1.tk) (own := keep) (j := 60) (i := 0) hv1 (by rw [hz]; exact hT2.left)
          rwa [hz] at this
        have hrr : Rep x3 ((oneSV vs2).ren (newIx k m) id) (oneV us) := by
          refine Rep.renF (x := x2) (x2 := x3) (fun _ _ _ h => h) (oneRep ha2) (fun j hj => hβ j (hsubm j (List.mem_append.2 (.inl ?_)))) (fun t _ => rfl)
          have key : ∀ l : List SV, ∀ j ∈ (oneSV l).ids, j ∈ SV.idsL l := by
            intro l j hj
            match l with
            | [] => exact hj
            | [v] => simpa [oneSV, SV.idsL] using hj
            | v :: u :: r => exact hj
          exact key vs2 j hj
        obtain ⟨hosl, hosr⟩ := tokObs_rep (x := x1) (x1 := x2) (w := w) rfl rfl (tk := c1.tk) (obs := os0) (j := 60 + mt1.length) (f := fun i => m.getD i 0)
          (fun i hi => (hE.heap.obs _ (hmem i (by omega))).1) (by rw [hz2]; exact hT2.right)
        rw [hz2] at hosl hosr
        simp only at hosl hosr
        have hwf : ∀ o ∈ os, o.wf = true := by
          intro o ho'
          have := tokObs_wf (tk := c1.tk) (obs := os0) (j := 60 + mt1.length) (fun o h' => by
            obtain ⟨i, hi, rfl⟩ := List.getElem_of_mem h'
            have := hS1.inv.wf _ (hmem i (by omega))
            simpa [List.getD_eq_getElem?_getD, List.getElem?_eq_getElem hi] using this) o (by rw [hz2]; exact ho')
          exact this
        have hall : ∀ p ∈ zipIx 0 (renObL (newIx k m) id (os.take k)) ++ zipIx (100 + k) (renObL (newIx k m) id (os.drop k)), ∃ i, i < m.length ∧ p.1 = newIx k m (m.getD i 0) ∧ p.2 = (os.getD i (.rc [])).ren (newIx k m) id ∧ os.getD i (.rc []) ∈ os := by
          intro p hp
          have gd : ∀ {l : List SObj} {i : Nat}, i < l.length → (renObL (newIx k m) id l).getD i (.rc []) = (l.getD i (.rc [])).ren (newIx k m) id := by
            intro l i hi
            rw [renObL_eq, List.getD_eq_getElem?_getD, List.getD_eq_getElem?_getD, List.getElem?_map, List.getElem?_eq_getElem hi]; rfl
          have gm : ∀ {i : Nat}, i < os.length → os.getD i (.rc []) ∈ os := fun {i} hi => by rw [List.getD_eq_getElem?_getD, List.getElem?_eq_getElem hi]; exact List.getElem_mem _
          rcases List.mem_append.1 hp with hp | hp
          · obtain ⟨i, h1, h2, h3⟩ := mem_zipIx.1 hp
            rw [renObL_eq, List.length_map, List.length_take] at h1
            have e : (os.take k).getD i (.rc []) = os.getD i (.rc []) := by simp only [List.getD_eq_getElem?_getD, List.getElem?_take, if_pos (show i < k by omega)]
            refine ⟨i, by omega, ?_, ?_, gm (by omega)⟩
            · rw [h2, hfirst i (by omega)]; unfold newIx; rw [if_pos (by omega)]; omega
            · rw [h3, gd (by rw [List.length_take]; omega), e]
          · obtain ⟨i, h1, h2, h3⟩ := mem_zipIx.1 hp
            rw [renObL_eq, List.length_map, List.length_drop] at h1
            have hi : k + i < m.length := by omega
            have e : (os.drop k).getD i (.rc []) = os.getD (k + i) (.rc []) := by simp only [List.getD_eq_getElem?_getD, List.getElem?_drop]
            refine ⟨k + i, hi, ?_, ?_, gm (by omega)⟩
            · have h5 := hrest (k + i) (by omega) hi
              have h6 := ixOf_lt (getD_mem hi)
              have h7 : ixOf m (m.getD (k + i) 0) = k + i := nodup_getD hmnd h6.1 hi h6.2
              unfold newIx
              rw [if_neg (by omega), h7, h2]; omega
            · rw [h3, gd (by rw [List.length_drop]; omega), e]
        have hmt : ∀ t ∈ somes (mt1 ++ mt2), t ∈ c1.tk := by
          intro t ht
          rw [somes_append, List.mem_append] at ht
          rcases ht with ht | ht
          · exact tokL_in (tk := c1.tk) (own := keep) (cs := vs1) (j := 60) (i := 0) t (by rw [hz]; exact ht)
          · exact tokObs_in (tk := c1.tk) (obs := os0) (j := 60 + mt1.length) t (by rw [hz2]; exact ht)
        have htok : ∀ t ∈ tks 60 (mt1.length + mt2.length), (x3.τ t).2.1 = (x3.τ t).2.2 ∨ ∃ u, (mt1 ++ mt2).getD (t - 60) none = some u ∧ u ∈ c1.tk ∧ x3.τ t = x1.τ u := by
          intro t ht
          obtain ⟨h1, h2⟩ := mem_tks.1 ht
          have e := hτ x3 rfl (t - 60) (by rw [List.length_append]; omega)
          rw [show 60 + (t - 60) = t by omega] at e
          cases hu : (mt1 ++ mt2).getD (t - 60) none with
          | none => rw [hu] at e; rw [e]; exact .inl rfl
          | some u => rw [hu] at e; exact .inr ⟨u, rfl, hmt u (getD_some_mem hu), e⟩
        refine ⟨x3, hrr, hE.heap.sel (x2 := x3) rfl ?_ ?_ ?_ ?_ ?_ ?_, ?_, ?_⟩
        · intro p hp
          obtain ⟨i, h1, h2, h3, h4⟩ := hall p hp
          have hm' := getD_mem h1
          refine ⟨?_, _, hmem i h1, by rw [h2]; exact hβ _ hm'⟩
          rw [h2, h3]
          exact (hosr i (by omega)).renF (x2 := x3) (fun _ _ _ h => h) (hβ _ hm') (fun j hj => hβ j (hsubm j (List.mem_append.2 (.inr (obsIds_mem h4 j hj))))) (fun t _ => rfl)
        · rw [List.map_append, List.nodup_append]
          refine ⟨nodup_zipIx _ _, nodup_zipIx _ _, fun u hu v hv e => ?_⟩
          obtain ⟨p, hp, rfl⟩ := List.mem_map.1 hu
          obtain ⟨r, hr, rfl⟩ := List.mem_map.1 hv
          obtain ⟨i, h1, h2, _⟩ := mem_zipIx.1 hp
          obtain ⟨j, h3, h4, _⟩ := mem_zipIx.1 hr
          rw [renObL_eq, List.length_map, List.length_take] at h1
          omega
        · intro p hp r hr hpr
          obtain ⟨i, h1, h2, _⟩ := hall p hp
          obtain ⟨j, h3, h4, _⟩ := hall r hr
          rw [h2, h4, hβ _ (getD_mem h1), hβ _ (getD_mem h3)] at hpr
          have := hE.heap.inj _ (hmem i h1) _ (hmem j h3) hpr
          simp only at this
          rw [h2, h4, this]
        · intro t ht
          rcases htok t ht with g | ⟨u, _, g1, g2⟩
          · exact .inl g
          · exact .inr ⟨u, g1, g2⟩
        · intro t ht u hu htu
          rcases htok t ht with g | ⟨t', g0, g1, g2⟩
          · exact .inl g
          · rcases htok u hu with g | ⟨u', k0, k1, k2⟩
            · exact .inr (.inl g)
            · refine .inr (.inr ⟨t', g1, u', k1, nodup_somes htnd ?_ g0 k0, g2, k2⟩)
              have := mem_tks.1 ht; have := mem_tks.1 hu; omega
        · intro i hi
          show (if _ then _ else _) = _
          rw [if_pos hi]
        · intro p hp
          obtain ⟨i, h1, h2, h3, h4⟩ := hall p hp
          rw [h3]; exact ren_wf (hwf _ h4)
        · intro i hi
          show (if _ then _ else _) = _
          rw [if_pos hi]; exact hE.heap.pin i hi
structure FnOK (P : Program) (g : Nat) (F : FnC) : Prop where
  fn : ∃ fn, P.funcs[g]? = some fn ∧ fn.body.bind (resCode P) = some F.code.er ∧ fn.ntmps = F.n ∧ rvsOK P fn.results.toList F.rs
  cb : callableB P g = true
  ok : F.code.ok F.n = true
def TabOK (P : Program) (T : Table) : Prop := ∀ g b, T.fn g = some b → match b with
  | .code F => FnOK P g F
  | .prim f => ∀ as os k q, f as os k = some q → SpecT P g as os k (· = q)
theorem zipIx_idx (os : List SObj) : ∀ o, (idx os).lookup o = getO (zipIx 0 os) o := by
  intro o
  have h1 : ((idx os).map Prod.fst).Nodup := nodup_idx os
  have h2 := nodup_zipIx os 0
  have hm : ∀ p, p ∈ idx os ↔ p ∈ zipIx 0 os := by
    intro p
    rw [mem_idx, mem_zipIx]
    constructor
    · rintro ⟨g1, g2⟩; exact ⟨p.1, g1, by omega, g2⟩
    · rintro ⟨i, g1, g2, g3⟩
      have e : p.1 = i := by omega
      rw [e]; exact ⟨g1, g3⟩
  rw [lookup_getO]
  refine opt_ext (fun v hv => ?_) (fun v hv => ?_)
  · exact mem_getO (p := (o, v)) h2 ((hm _).1 (getO_mem hv))
  · exact mem_getO (p := (o, v)) h1 ((hm _).2 (getO_mem hv))
theorem initT_get (n : Nat) : ∀ (l : List SV) (i : Nat), getT (initT i l) n = if i ≤ n then l.getD (n - i) .undef else .undef
  | [], i => by simp [initT, getT]
  | v :: r, i => by
    simp only [initT, getT, initT_get n r (i + 1)]
    by_cases h : i = n
    · subst h; simp
    · rw [if_neg h]
      by_cases h2 : i ≤ n
      · rw [if_pos h2, if_pos (by omega)]
        obtain ⟨k, hk⟩ : ∃ k, n - i = k + 1 := ⟨n - i - 1, by omega⟩
        rw [hk, List.getD_cons_succ]; congr 1; omega
      · rw [if_neg h2, if_neg (by omega)]
theorem mem_initT {p : Nat × SV} : ∀ {l : List SV} {i : Nat}, p ∈ initT i l → p.1 < i + l.length
  | v :: r, i, h => by
    simp only [initT] at h
    rcases List.mem_cons.1 h with e | e
    · rw [e]; simp
    · have := mem_initT e; simp only [List.length_cons]; omega
theorem so_zipIx : ∀ (l : List SObj) (k : Nat), ((zipIx k l).map Prod.fst).Pairwise (· < ·)
  | [], _ => by simp [zipIx]
  | o :: r, k => by
    simp only [zipIx, List.map_cons, List.pairwise_cons]
    refine ⟨fun n hn => ?_, so_zipIx r (k + 1)⟩
    obtain ⟨p, hp, rfl⟩ := List.mem_map.1 hn
    obtain ⟨i, _, h2, _⟩ := mem_zipIx.1 hp
    omega
theorem callB_sound {n : Nat} (hR : RunOK P T n) (hT : TabOK P T) : CallOK P (callN T n) := by
  intro g as os k q hq
  unfold callN at hq
  cases hg : T.fn g with
  | none => rw [hg] at hq; cases hq
  | some b =>
    have hb := hT g b hg
    cases b with
    | prim f => rw [hg] at hq; exact hb as os k q hq
    | code F =>
      rw [hg] at hq
      simp only [callB, iniC] at hq
      obtain ⟨⟨fn, hfn, hbody, hnt, hrv⟩, hcb, hok⟩ := hb
      refine ⟨hcb, ?_⟩
      split at hq
      case isFalse => cases hq
      rename_i hle
      intro C x w vs hw0 hG0 hmine hlen hwf hH hargs
      cases hbd : fn.body with
      | none => simp [hbd] at hbody
      | some code =>
        simp only [hbd, Option.bind_some] at hbody
        refine calls_of_wp hfn hbd ?_
        have hl := hargs.1
        let s0 : St := ⟨as ++ List.replicate (F.n - as.length) .undef, idx os, tks 50 k⟩
        have hM0 : Models C x s0 { tmps := (⟨vs⟩ : Array Value) ++ Array.replicate (fn.ntmps - (⟨vs⟩ : Array Value).size) Go.undef, defers := [] } w := by
          refine ⟨?_, rfl, hH⟩
          have e1 : ((⟨vs⟩ : Array Value) ++ Array.replicate (fn.ntmps - (⟨vs⟩ : Array Value).size) Go.undef).toList = vs ++ List.replicate (F.n - as.length) Go.undef := by
            simp [hnt, hl]
          rw [e1]
          refine hargs.append ⟨by simp, fun i hi => ?_⟩
          rw [getD_replicate _ _ _ _ (by simpa using hi)]; exact .undef _
        have hS0 : Sim F.n (initC as os k) s0 := by
          refine ⟨⟨fun p hp => ?_, so_zipIx os 0, fun p hp => ?_⟩, ?_, fun o => zipIx_idx os o, fun t => Iff.rfl⟩
          · have := mem_initT hp; omega
          · obtain ⟨i, h1, _, h3⟩ := mem_zipIx.1 hp
            rw [h3, List.getD_eq_getElem?_getD, List.getElem?_eq_getElem h1]
            exact hwf _ (List.getElem_mem _)
          · apply List.ext_getElem?
            intro i
            show (as ++ List.replicate (F.n - as.length) SV.undef)[i]? = _
            rw [List.getElem?_map]
            rcases Nat.lt_or_ge i F.n with hi | hi
            · rw [List.getElem?_range hi]
              have e : (initC as os k).get i = as.getD i .undef := by
                show getT (initT 0 as) i = _
                rw [initT_get]; simp
              simp only [Option.map_some, e, List.getElem?_append, List.getElem?_replicate]
              by_cases h : i < as.length
              · rw [if_pos h, List.getD_eq_getElem?_getD, List.getElem?_eq_getElem h]; rfl
              · rw [if_neg h, if_pos (by omega), List.getD_eq_getElem?_getD, List.getElem?_eq_none (by omega)]; rfl
            · rw [List.getElem?_eq_none (by simp; omega), List.getElem?_eq_none (by simpa using hi)]; rfl
        cases hs : runN T n F.code (initC as os k) with
        | none => rw [hs] at hq; cases hq
        | some p =>
          obtain ⟨e, c1⟩ := p
          rw [hs] at hq
          refine wp_mono (hR.1 _ _ _ _ hs code C F.n _ w hbody hok ⟨x, s0, hM0, hS0⟩) ?_
          rintro e' a' w' ⟨rfl, x1, s1, hM1, hS1⟩
          have main : fin0 F.keep F.raw os.length c1 (resC c1 F.rs) = some q → a'.defers = [] ∧ ∃ v, (results fn a'.tmps).run P w' = .ok v w' ∧ ∃ v', ∃ x' : Sit, ∃ q', Ending.returned v = .returned v' ∧ q' = q ∧ Rep x' q'.r v' ∧ Heap C x' q'.os q'.tk w' ∧ (∀ p ∈ q'.os, p.2.wf = true) ∧ ∀ i, i < os.length → x'.β i = x.β i := by
            intro hf
            cases hrc : resC c1 F.rs with
            | none => rw [hrc] at hf; cases hf
            | some rv =>
              rw [hrc] at hf
              obtain ⟨p, h1, h2⟩ := resC_of (P := P) hS1 hrv hrc
              obtain ⟨us, hrun, hl⟩ := results_sound hM1 h1 h2
              obtain ⟨x', g1, g2, g3, g4⟩ := fin_sound hM1 hS1 hlen hl hf
              refine ⟨hM1.defers, oneV us, ?_, oneV us, x', q, rfl, rfl, g1, g2, g3, fun i hi => ?_⟩
              · rw [results_eq, Array.mapM_eq_mapM_toList]
                simp only [Sem.run_bind, Sem.run_map, hrun, Result.andThen_ok, Sem.run_pure]
                rfl
              · rw [g4 i (by omega)]; exact (hH.pin i (by omega)).symm
          cases e with
          | n => exact main hq
          | r => exact main hq
          | x id => cases hq
theorem runOK (hT : TabOK P T) : ∀ n, RunOK P T n
  | 0 => runOK_zero
  | n + 1 => runOK_succ (runOK hT n) (callB_sound (runOK hT n) hT)
theorem call_sound (hT : TabOK P T) : CallOK P (call T) := by
  intro g as os k q hq
  obtain ⟨n, hn⟩ := of_call hq
  exact callB_sound (runOK hT n) hT g as os k q hn
theorem fn_call (hT : TabOK P T) {g : Nat} {as : List SV} {r : SV} (h : call T g as [] 0 = some ⟨r, [], []⟩) (ht : r.toks = []) : Fn P g as r := by
  obtain ⟨h1, h2⟩ := call_sound hT _ _ _ _ _ h
  refine ⟨h1, fun C x w vs hw hG hm hl hH hv => ?_⟩
  refine (h2 C x w vs hw hG (fun b hb => (hm b hb).imp id (fun ⟨i, hi, _⟩ => by simp at hi)) (by simp) (by simp) hH hv).mono ?_
  rintro en w' ⟨v, x', q, rfl, rfl, hr, hH', _, hg⟩
  exact ⟨v, x', r, [], rfl, ⟨rfl, rfl⟩, hr, by rw [ht]; exact hH', hg⟩
def rvOKb (P : Program) : ResultVar → RV → Bool
  | .tmp t, .tmp t' => decide (t = t')
  | .cell t ty, .cell t' n ag => decide (t = t') && decide (szOf P ty = some n) && decide (isAg P ty = some ag)
  | _, _ => false
def rvsOKb (P : Program) : List ResultVar → List RV → Bool
  | [], [] => true
  | a :: r, b :: s => rvOKb P a b && rvsOKb P r s
  | _, _ => false
theorem rvsOK_of : ∀ {rs : List ResultVar} {rv : List RV}, rvsOKb P rs rv = true → rvsOK P rs rv
  | [], [], _ => trivial
  | [], _ :: _, h => by cases h
  | _ :: _, [], h => by cases h
  | a :: r, b :: s, h => by
    simp only [rvsOKb, Bool.and_eq_true] at h
    refine ⟨?_, rvsOK_of h.2⟩
    have h1 := h.1
    cases a <;> cases b <;> simp only [rvOKb, Bool.and_eq_true, decide_eq_true_eq] at h1 <;> first | (cases h1; done) | skip
    · exact h1
    · exact ⟨h1.1.1, h1.1.2, h1.2⟩
theorem fnOK_of {g : Nat} {F : FnC} {fn : Func} (h1 : P.funcs[g]? = some fn) (h2 : fn.body.bind (resCode P) = some F.code.er) (h3 : fn.ntmps = F.n) (h4 : rvsOKb P fn.results.toList F.rs = true) (h5 : callableB P g = true) (h6 : F.code.ok F.n = true) : FnOK P g F :=
  ⟨⟨fn, h1, h2, h3, rvsOK_of h4⟩, h5, h6⟩
end Go.Sy
set_option linter.unusedSimpArgs false
set_option linter.unusedVariables false
namespace Go.Sy
open Go.RowKit Go.ChangeShapes Go.WideShapes
def GW (w : World) : GM := fun b o => w.cell? ⟨b, o, none⟩
def sitW (w : World) : Sit := ⟨GW w, fun _ => 0, fun _ => (0, 0, 0)⟩
theorem heapW (w : World) : Heap ⟨w, GW w, fun b => w.heap.size ≤ b, fun _ => 0⟩ (sitW w) [] [] w where
  per := fun _ _ _ h => h
  g0 := fun _ _ _ h => h
  gm := fun _ _ _ h => .inl h
  new := fun _ h => h
  obs := by simp
  nd := List.nodup_nil
  inj := by simp
  tks := by simp
  tko := by simp
  tkd := by simp
  os := rfl
  tape := rfl
  output := rfl
  size := Nat.le_refl _
  ext := fun _ _ => rfl
  pin := fun _ _ => rfl
theorem rep_bool_inv {x : Sit} {b : Bool} {v : Value} (h : Rep x (.bool b) v) : v = .bool b := by
  cases h with
  | dat _ _ h _ => cases h; rfl
theorem law_calls {P : Program} {f : Nat} {as : List SV} (h : Fn P f as (.bool true)) {W : World} {vs : List Value} (hv : RepL (sitW W) as vs) :
    Calls P f ⟨vs⟩ W fun e W' => e = .returned (.bool true) ∧ Below W.heap.size W W' := by
  refine (h.2 ⟨W, GW W, fun b => W.heap.size ≤ b, fun _ => 0⟩ (sitW W) W vs rfl rfl (fun b hb => .inl hb) (by simp) (heapW W) hv).mono ?_
  rintro e W' ⟨v, x', r, os', rfl, ⟨rfl, rfl⟩, hr, hH, _⟩
  obtain rfl := rep_bool_inv hr
  exact ⟨rfl, hH.os, hH.tape, hH.output, hH.size, fun k hk => hH.ext k (by simp; omega)⟩
section
variable {H : Type} {enc : TypeId × Value → H} {P : Program} {w : World} {base : Nat} {sp : Nat → Bool} {hd : Bool} {r : Reach} {b0 : Nat} {t e : TypeId} {v : Value} {d : DataW H} {ps : List MemPlace}
theorem arg_int {k : IntKind} (ht : P.underlying t = some (.int k)) (hval : Value.okWide P w r b0 t v) (h : DataW.Trod enc P w base sp hd t v d ps) : ∃ n, k.has n ∧ Rep (sitW w) (.int k n) v := by
  obtain ⟨n, rfl, _, _, hw⟩ := open_int ht hval h
  simp only [Lit.wf, Bool.and_eq_true, decide_eq_true_eq] at hw
  exact ⟨n, hw, .dat _ _ (.int k n) trivial⟩
theorem arg_bool (ht : P.underlying t = some .bool) (hval : Value.okWide P w r b0 t v) (h : DataW.Trod enc P w base sp hd t v d ps) : ∃ b, Rep (sitW w) (.bool b) v := by
  obtain ⟨b, rfl, _, _⟩ := open_bool ht hval h
  exact ⟨b, .dat _ _ (.bool b) trivial⟩
theorem arg_u8 (ht : P.underlying t = some (.int .u8)) (hval : Value.okWide P w r b0 t v) (h : DataW.Trod enc P w base sp hd t v d ps) : ∃ b, Rep (sitW w) (.u8 b) v := by
  obtain ⟨n, hw, hr⟩ := arg_int ht hval h
  obtain ⟨n, rfl, _, _, hw⟩ := open_int ht hval h
  simp only [Lit.wf, IntKind.min, IntKind.max, IntKind.signed, IntKind.bits, Bool.and_eq_true, decide_eq_true_eq] at hw
  refine ⟨UInt8.ofNat n.toNat, ?_⟩
  have e : ((UInt8.ofNat n.toNat).toNat : Int) = n := by
    rw [UInt8.toNat_ofNat']
    have : n.toNat < 256 := by simp at hw; omega
    rw [Nat.mod_eq_of_lt this]
    simp at hw; omega
  have h1 := RepD.u8 (G := (sitW w).G) (UInt8.ofNat n.toNat)
  rw [e] at h1
  exact .dat _ _ h1 trivial
theorem arg_str (ht : P.underlying t = some .string) (hval : Value.okWide P w r b0 t v) (h : DataW.Trod enc P w base sp hd t v d ps) : ∃ l : List UInt8, l.length ≤ maxLen ∧ Rep (sitW w) (.str l) v := by
  obtain ⟨s, rfl⟩ := okWide_string ht hval
  obtain ⟨fuel, hf⟩ := h
  obtain ⟨s', h1, _, h2⟩ := DataW.trod_string ht hf
  simp [Value.cells] at h1
  subst h1
  obtain ⟨⟨l⟩⟩ := s
  exact ⟨l, h2, .dat _ _ (.str l) trivial⟩
theorem spot_slice {a : Addr} {len cap : Nat} (ht : P.underlying t = some (.slice e)) (hval : Value.okWide P w r b0 t (.slice (some a) len cap)) : a.spot = none := by
  simp only [Value.okWide, ht, Cell.okWide, Cell.ok] at hval
  exact hval.2.2.2.1
theorem u8_int {n : Int} (h : (Lit.int .u8 n).wf = true) : ((UInt8.ofNat n.toNat).toNat : Int) = n := by
  simp only [Lit.wf, IntKind.min, IntKind.max, IntKind.signed, IntKind.bits, Bool.and_eq_true, decide_eq_true_eq] at h
  rw [UInt8.toNat_ofNat']
  have : n.toNat < 256 := by simp at h; omega
  rw [Nat.mod_eq_of_lt this]
  simp at h; omega
theorem arg_bytes (ht : P.underlying t = some (.slice e)) (he : P.underlying e = some (.int .u8)) (hc : P.cellsOf e = 1) (hval : Value.okWide P w r b0 t v) (h : DataW.Trod enc P w base sp hd t v d ps) :
    ∃ l : List UInt8, l.length ≤ maxLen ∧ Rep (sitW w) (.byt l .no) v := by
  obtain ⟨a0, len, cap, rfl⟩ := okWide_slice ht hval
  obtain ⟨fuel, hf⟩ := h
  rcases open_ints ht he hc hf with ⟨hcs, _⟩ | ⟨a, len', cap', zs, hcs, _, hl, hm, hz, _, hcell, hwf⟩
  · simp [Value.cells] at hcs
    obtain ⟨rfl, rfl, rfl⟩ := hcs
    exact ⟨[], by simp, .dat _ _ (.bytN .no) trivial⟩
  · simp [Value.cells] at hcs
    obtain ⟨rfl, rfl, rfl⟩ := hcs
    have hs := spot_slice ht hval
    obtain ⟨b, off, spot⟩ := a
    simp only at hs
    subst hs
    have hzl : len ≤ zs.length := by rw [hz]; split <;> omega
    refine ⟨(zs.take len).map fun n => UInt8.ofNat n.toNat, by simp; omega, .dat _ _ (.byt _ .no b off cap len (by simp; omega) hl (fun i hi => ?_)) trivial⟩
    have h1 := hcell i (by omega)
    have hi' : i < zs.length := by omega
    rw [add_plain] at h1
    have e1 : ((zs.take len).map fun n => UInt8.ofNat n.toNat).getD i 0 = UInt8.ofNat (zs.getD i 0).toNat := by
      simp [List.getD_eq_getElem?_getD, hi', hi]
    show w.cell? _ = _
    rw [h1, e1]
    congr 2
    refine (u8_int (hwf _ ?_)).symm
    rw [List.getD_eq_getElem?_getD, List.getElem?_eq_getElem hi']
    exact List.getElem_mem hi'
end
theorem repL_nil {x : Sit} : RepL x [] [] := ⟨rfl, by simp⟩
section
variable {H : Type} {enc : TypeId × Value → H} {P : Program}
theorem post_law {f : Func} {s : ChangeSpec} {apart fresh handsOn again : Bool} {W W' : World} {args : Array Value} {v : Value} {ds gs : List (DataW H)} {before pa pv : List MemPlace}
    (hW : DataW.Whole enc P f.params.toList s.vars apart W args.toList ds gs before)
    (hres : ∀ (b : Nat) (sp : Nat → Bool) (hd : Bool), DataW.TrodAll enc P W' b sp hd f.resultTypes.toList (v.resultList f.resultTypes.size) (s.fn H (ds ++ gs)).results [])
    (hargs : ∀ sp : Nat → Bool, (∀ p ∈ before, sp p.block = true) → DataW.TrodAll enc P W' 0 sp true f.params.toList args.toList (s.fn H (ds ++ gs)).args pa)
    (hvars : ∀ sp : Nat → Bool, (∀ p ∈ before, sp p.block = true) → DataW.TrodVars enc P W' sp s.vars (s.fn H (ds ++ gs)).vars pv)
    (hps : before = pa ++ pv) (hb : Below W.heap.size W W')
    (hok : ∀ (j : Nat) (t : TypeId) (r : Value), f.resultTypes[j]? = some t → (v.resultList f.resultTypes.size)[j]? = some r → Value.okWide P W' .any 0 t r) :
    s.post enc P f apart fresh handsOn again W args v W' := by
  have hlt := hW.lt
  have hold : ∀ p ∈ before, (fun b => decide (b < W.heap.size)) p.block = true := fun p hp => by simpa using hlt p hp
  refine ⟨ds, gs, before, [], pa, pv, hW, hres _ _ _, hargs _ hold, hvars _ hold, World.keptBut_mono (fun p hp => ⟨hp, ?_⟩) (hb.frame (· ∈ before)), fun _ => ?_⟩
  · rw [hps, List.mem_append] at hp
    exact Or.inr hp
  · obtain ⟨_, _, _, _, _, hz, hn⟩ := hW
    refine ⟨hok, _, _, ([] ++ pa) ++ pv, ⟨[] ++ pa, pv, trodAll_append (hargs _ (fun _ _ => rfl)) (hres _ _ _), hvars _ (fun _ _ => rfl), rfl, ?_, ?_⟩, ?_⟩
    · intro b off hp
      have hp' : MemPlace.cell b off ∈ before := by rw [hps]; simpa using hp
      rw [hb.frozen (p := ⟨b, off, none⟩) (hlt _ hp')]
      exact hz b off hp'
    · intro ha
      have := hn ha
      rw [hps] at this
      simpa using this
    · intro p hp _
      rw [hps]
      simpa using hp
theorem trodAll_stays (hl : laidOutB P = true) {W W' : World} (hb : Below W.heap.size W W') : ∀ {ts : List TypeId} {vs : List Value} {ds : List (DataW H)} {p : List MemPlace}, (ts.all fun t => P.readableRec t && decide (t < P.types.size)) = true →
    DataW.TrodAll enc P W 0 (fun _ => true) true ts vs ds p → (∀ x ∈ p, x.block < W.heap.size) → ∀ sp : Nat → Bool, (∀ x ∈ p, sp x.block = true) → DataW.TrodAll enc P W' 0 sp true ts vs ds p
  | [], _, _, _, _, h, _, _, _ => by
    obtain ⟨rfl, rfl, rfl⟩ := trodAll_nil h
    exact trodAll_mk0
  | t :: ts, _, _, _, hr, h, hlt, sp, hsp => by
    obtain ⟨v, vs1, d, ds1, a, b, rfl, rfl, rfl, h1, h2⟩ := trodAll_cons h
    simp only [List.all_cons, Bool.and_eq_true, decide_eq_true_eq] at hr
    refine trodAll_cons_mk ?_ (trodAll_stays hl hb (by simpa using hr.2) h2 (fun x hx => hlt x (List.mem_append_right _ hx)) sp (fun x hx => hsp x (List.mem_append_right _ hx)))
    exact WideElems.Trod_stays hl hr.1.1 hr.1.2 h1 (fun x hx => hb.same (hlt x (List.mem_append_left _ hx))) (fun x hx => hsp x (List.mem_append_left _ hx))
theorem law_post {f : Func} {s : ChangeSpec} {W W' : World} {args : Array Value} {ds gs : List (DataW H)} {before : List MemPlace} {tb : TypeId} (hl : laidOutB P = true)
    (hr : (f.params.toList.all fun t => P.readableRec t && decide (t < P.types.size)) = true) (hrt : f.resultTypes = #[tb]) (htb : P.underlying tb = some .bool) (hvars : s.vars = [])
    (hfn : (s.fn H (ds ++ gs)).results = [.lit (.bool true)]) (hfa : (s.fn H (ds ++ gs)).args = ds) (hfv : (s.fn H (ds ++ gs)).vars = [])
    (hW : DataW.Whole enc P f.params.toList s.vars false W args.toList ds gs before) (hb : Below W.heap.size W W') :
    s.post enc P f false true false false W args (.bool true) W' := by
  have hlt := hW.lt
  have hW' := hW
  obtain ⟨p, q, hA, hV, rfl, hfz, hnd⟩ := hW
  rw [hvars] at hV
  obtain ⟨rfl, rfl⟩ := trodVars_none hV
  simp only [List.append_nil] at hlt hW' hfz
  refine post_law (pa := p) (pv := []) (before := p) (gs := []) hW' (fun b sp hd => ?_) (fun sp hsp => ?_) (fun sp hsp => ?_) (by simp) hb (ok_one hrt rfl (okWide_bool_mk htb _))
  · rw [hfn, hrt]
    exact trodAll_cons_mk (shut_bool htb _) trodAll_mk0
  · rw [hfa]
    exact trodAll_stays hl hb hr hA hlt sp hsp
  · rw [hvars, hfv]
    rfl
end
end Go.Sy
