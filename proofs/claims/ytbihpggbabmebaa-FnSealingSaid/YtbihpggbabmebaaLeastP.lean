/-
  The least number of roles, in plain words. No condition beyond those written in each theorem.
-/
import Derived.Test.YtbihpggbabmebaaSeenP
namespace Go.Proofs.Ytbihpggbabmebaa
open Go.RowKit
set_option linter.unusedVariables false
set_option linter.unusedSimpArgs false
set_option linter.unusedSectionVars false
set_option maxRecDepth 4000

/-- strictly increasing, from 'from' on, below N -/
def Asc (lo N : Nat) (l : List Nat) : Prop := l.Pairwise (· < ·) ∧ ∀ x ∈ l, lo ≤ x ∧ x < N
def lexlt : List Nat → List Nat → Bool
  | [], [] => false
  | [], _ :: _ => true
  | _ :: _, [] => false
  | a :: r, b :: s => decide (a < b) || (decide (a = b) && lexlt r s)
def firstI {α : Type} (g : Nat → Option α) : Nat → Nat → Option α
  | 0, _ => none
  | k + 1, i => match g i with
    | some x => some x
    | none => firstI g k (i + 1)
/-- the first lists, in the order of their indices -/
def fewL (sat : List Nat → Bool) (N : Nat) : Nat → Nat → List Nat → Option (List Nat)
  | 0, _, ch => if sat ch = true then some ch else none
  | m + 1, lo, ch => firstI (fun i => fewL sat N m (i + 1) (ch ++ [i])) (N - lo) lo
theorem Asc.cons {lo N i : Nat} {l : List Nat} (h1 : lo ≤ i) (h2 : i < N) (h : Asc (i + 1) N l) : Asc lo N (i :: l) := by
  refine ⟨List.Pairwise.cons (fun x m => by have := h.2 x m; omega) h.1, fun x m => ?_⟩
  rcases List.mem_cons.1 m with m | m
  · omega
  · have := h.2 x m; omega
theorem Asc.uncons {lo N i : Nat} {l : List Nat} (h : Asc lo N (i :: l)) : lo ≤ i ∧ i < N ∧ Asc (i + 1) N l := by
  have h1 := h.2 i List.mem_cons_self
  have h2 := List.pairwise_cons.1 h.1
  exact ⟨h1.1, h1.2, h2.2, fun x m => ⟨h2.1 x m, (h.2 x (List.mem_cons_of_mem _ m)).2⟩⟩
theorem lexlt_irrefl : ∀ l : List Nat, lexlt l l = false
  | [] => rfl
  | a :: r => by simp [lexlt, lexlt_irrefl r]
theorem lexlt_asymm : ∀ {a b : List Nat}, lexlt a b = true → lexlt b a = false
  | [], [], h => by cases h
  | [], _ :: _, _ => rfl
  | _ :: _, [], h => by cases h
  | a :: r, b :: s, h => by
    simp only [lexlt, Bool.or_eq_true, Bool.and_eq_true, decide_eq_true_eq] at h
    simp only [lexlt, Bool.or_eq_false_iff, Bool.and_eq_false_iff, decide_eq_false_iff_not]
    rcases h with h | ⟨rfl, h⟩
    · exact ⟨by omega, .inl (by omega)⟩
    · exact ⟨by omega, .inr (lexlt_asymm h)⟩
theorem lexlt_total : ∀ {a b : List Nat}, a.length = b.length → lexlt a b = false → lexlt b a = false → a = b
  | [], [], _, _, _ => rfl
  | [], _ :: _, h, _, _ => by simp at h
  | _ :: _, [], h, _, _ => by simp at h
  | a :: r, b :: s, hl, h1, h2 => by
    simp only [lexlt, Bool.or_eq_false_iff, Bool.and_eq_false_iff, decide_eq_false_iff_not] at h1 h2
    have e : a = b := by omega
    subst e
    have h3 : lexlt r s = false := h1.2.resolve_left fun h => h rfl
    have h4 : lexlt s r = false := h2.2.resolve_left fun h => h rfl
    have h5 : r = s := lexlt_total (by simpa using hl) h3 h4
    rw [h5]
theorem firstI_none {α : Type} {g : Nat → Option α} : ∀ {k i : Nat}, firstI g k i = none → ∀ j, i ≤ j → j < i + k → g j = none
  | 0, i, _, j, h1, h2 => by omega
  | k + 1, i, h, j, h1, h2 => by
    unfold firstI at h
    cases hg : g i with
    | some x => rw [hg] at h; cases h
    | none =>
      rw [hg] at h
      by_cases e : j = i
      · subst e; exact hg
      · exact firstI_none h j (by omega) (by omega)
theorem firstI_some {α : Type} {g : Nat → Option α} {x : α} : ∀ {k i : Nat}, firstI g k i = some x → ∃ j, i ≤ j ∧ j < i + k ∧ g j = some x ∧ ∀ j', i ≤ j' → j' < j → g j' = none
  | 0, i, h => by cases h
  | k + 1, i, h => by
    unfold firstI at h
    cases hg : g i with
    | some y =>
      rw [hg] at h
      exact ⟨i, Nat.le_refl _, by omega, by rw [hg]; exact h, fun j' h1 h2 => by omega⟩
    | none =>
      rw [hg] at h
      obtain ⟨j, h1, h2, h3, h4⟩ := firstI_some h
      exact ⟨j, by omega, by omega, h3, fun j' h5 h6 => by
        by_cases e : j' = i
        · subst e; exact hg
        · exact h4 j' (by omega) h6⟩
theorem few_none {sat : List Nat → Bool} {N : Nat} : ∀ {m lo : Nat} {ch : List Nat}, fewL sat N m lo ch = none → ∀ l, Asc lo N l → l.length = m → sat (ch ++ l) = false
  | 0, lo, ch, h, l, _, hl => by
    have : l = [] := List.length_eq_zero_iff.1 hl
    subst this
    unfold fewL at h
    by_cases hs : sat ch = true
    · rw [if_pos hs] at h; cases h
    · simpa using hs
  | m + 1, lo, ch, h, l, ha, hl => by
    cases l with
    | nil => simp at hl
    | cons i r =>
      obtain ⟨h1, h2, h3⟩ := ha.uncons
      have h4 := firstI_none h i h1 (by omega)
      have := few_none h4 r h3 (by simpa using hl)
      simpa using this
theorem few_some {sat : List Nat → Bool} {N : Nat} {t : List Nat} : ∀ {m lo : Nat} {ch : List Nat}, fewL sat N m lo ch = some t →
    ∃ l, t = ch ++ l ∧ Asc lo N l ∧ l.length = m ∧ sat t = true ∧ ∀ l', Asc lo N l' → l'.length = m → sat (ch ++ l') = true → l' = l ∨ lexlt l l' = true
  | 0, lo, ch, h => by
    unfold fewL at h
    by_cases hs : sat ch = true
    · rw [if_pos hs] at h
      have : ch = t := by simpa using h
      subst this
      refine ⟨[], by simp, ⟨List.Pairwise.nil, fun x m => by cases m⟩, rfl, hs, fun l' _ hl _ => .inl (List.length_eq_zero_iff.1 hl)⟩
    · rw [if_neg hs] at h; cases h
  | m + 1, lo, ch, h => by
    obtain ⟨i, h1, h2, h3, h4⟩ := firstI_some h
    obtain ⟨l, e, ha, hl, hs, hmin⟩ := few_some h3
    refine ⟨i :: l, by rw [e]; simp, Asc.cons h1 (by omega) ha, by simp [hl], hs, fun l' ha' hl' hs' => ?_⟩
    cases l' with
    | nil => simp at hl'
    | cons j r =>
      obtain ⟨g1, g2, g3⟩ := ha'.uncons
      simp only [lexlt, Bool.or_eq_true, Bool.and_eq_true, decide_eq_true_eq]
      by_cases hji : j < i
      · have h5 := h4 j g1 hji
        have h6 := few_none h5 r g3 (by simpa using hl')
        simp only [List.append_assoc, List.singleton_append] at h6
        rw [hs'] at h6; cases h6
      · by_cases he : j = i
        · subst he
          rcases hmin r g3 (by simpa using hl') (by simpa using hs') with h7 | h7
          · exact .inl (by rw [h7])
          · exact .inr (.inr ⟨rfl, h7⟩)
        · exact .inr (.inl (by omega))
/-- shorter, or as long and earlier -/
def bt (a b : List Nat) : Bool := decide (a.length < b.length) || (decide (a.length = b.length) && lexlt a b)
/-- the indices of a set -/
def subL (N s : Nat) : List Nat := (List.range N).filter fun i => s.testBit i
theorem subL_asc (N s : Nat) : Asc 0 N (subL N s) := by
  refine ⟨List.Pairwise.filter _ List.pairwise_lt_range, fun x m => ?_⟩
  have := List.mem_range.1 (List.mem_filter.1 m).1
  omega
theorem subL_all : ∀ (N : Nat) (l : List Nat), Asc 0 N l → ∃ s, s < 2 ^ N ∧ subL N s = l
  | 0, l, h => by
    refine ⟨0, by simp, ?_⟩
    cases l with
    | nil => rfl
    | cons x r => have := h.2 x List.mem_cons_self; omega
  | N + 1, l, h => by
    have hstep : ∀ s, s < 2 ^ N → subL (N + 1) s = subL N s := fun s hs => by
      rw [subL, List.range_succ, List.filter_append, subL]
      simp [Nat.testBit_lt_two_pow hs]
    by_cases hN : N ∈ l
    · obtain ⟨a, b, e⟩ := List.append_of_mem hN
      subst e
      have hp := List.pairwise_append.1 h.1
      have hb : b = [] := by
        cases b with
        | nil => rfl
        | cons x r =>
          have h1 := (List.pairwise_cons.1 hp.2.1).1 x List.mem_cons_self
          have h2 := h.2 x (by simp)
          omega
      subst hb
      obtain ⟨s, hs, e⟩ := subL_all N a ⟨hp.1, fun x m => by
        have h1 := hp.2.2 x m N (by simp)
        omega⟩
      refine ⟨2 ^ N + s, by rw [Nat.pow_succ]; omega, ?_⟩
      rw [subL, List.range_succ, List.filter_append]
      have h1 : (List.range N).filter (fun i => (2 ^ N + s).testBit i) = (List.range N).filter (fun i => s.testBit i) := by
        apply List.filter_congr
        intro i hi
        rw [Nat.testBit_two_pow_add_gt (List.mem_range.1 hi)]
      rw [h1, ← e, subL]
      simp [Nat.testBit_two_pow_add_eq, Nat.testBit_lt_two_pow hs]
    · obtain ⟨s, hs, e⟩ := subL_all N l ⟨h.1, fun x m => by
        have h1 := h.2 x m
        have : x ≠ N := fun e => hN (e ▸ m)
        omega⟩
      exact ⟨s, by rw [Nat.pow_succ]; omega, by rw [hstep s hs]; exact e⟩
/-- one step of the search through all sets -/
def stepM (sat : List Nat → Bool) (st : Option (List Nat)) (l : List Nat) : Option (List Nat) := match st with
  | none => if sat l = true then some l else none
  | some f => if bt l f = true ∧ sat l = true then some l else some f
def searchM (sat : List Nat → Bool) (N : Nat) (k : Nat) : Option (List Nat) := (List.range k).foldl (fun st s => stepM sat st (subL N s)) none
theorem searchM_succ (sat : List Nat → Bool) (N k : Nat) : searchM sat N (k + 1) = stepM sat (searchM sat N k) (subL N k) := by
  rw [searchM, List.range_succ, List.foldl_append]; rfl
theorem lexlt_trans : ∀ {a b c : List Nat}, lexlt a b = true → lexlt b c = true → lexlt a c = true
  | [], [], _, h, _ => by cases h
  | [], _ :: _, [], _, h => by cases h
  | [], _ :: _, _ :: _, _, _ => rfl
  | _ :: _, [], _, h, _ => by cases h
  | _ :: _, _ :: _, [], _, h => by cases h
  | a :: r, b :: s, c :: t, h1, h2 => by
    simp only [lexlt, Bool.or_eq_true, Bool.and_eq_true, decide_eq_true_eq] at h1 h2 ⊢
    rcases h1 with h1 | ⟨e1, h1⟩
    · rcases h2 with h2 | ⟨e2, h2⟩
      · exact .inl (by omega)
      · exact .inl (by omega)
    · rcases h2 with h2 | ⟨e2, h2⟩
      · exact .inl (by omega)
      · exact .inr ⟨by omega, lexlt_trans h1 h2⟩
theorem searchM_spec (sat : List Nat → Bool) (N : Nat) : ∀ k, (searchM sat N k = none ∧ ∀ s, s < k → sat (subL N s) = false) ∨
    (∃ f, searchM sat N k = some f ∧ sat f = true ∧ Asc 0 N f ∧ ∀ s, s < k → sat (subL N s) = true → bt (subL N s) f = false)
  | 0 => .inl ⟨rfl, fun s h => by omega⟩
  | k + 1 => by
    rw [searchM_succ]
    rcases searchM_spec sat N k with ⟨e, h⟩ | ⟨f, e, hf, ha, hm⟩
    · rw [e]
      by_cases hs : sat (subL N k) = true
      · right
        refine ⟨subL N k, by simp [stepM, hs], hs, subL_asc N k, fun s h1 h2 => ?_⟩
        by_cases e1 : s = k
        · subst e1; simp [bt, lexlt_irrefl]
        · rw [h s (by omega)] at h2; cases h2
      · left
        refine ⟨by simp [stepM, hs], fun s h1 => ?_⟩
        by_cases e1 : s = k
        · subst e1; simpa using hs
        · exact h s (by omega)
    · rw [e]
      right
      by_cases hs : bt (subL N k) f = true ∧ sat (subL N k) = true
      · refine ⟨subL N k, by simp [stepM, hs], hs.2, subL_asc N k, fun s h1 h2 => ?_⟩
        by_cases e1 : s = k
        · subst e1; simp [bt, lexlt_irrefl]
        · have h3 := hm s (by omega) h2
          have h4 := hs.1
          simp only [bt, Bool.or_eq_true, Bool.and_eq_true, decide_eq_true_eq] at h4
          simp only [bt, Bool.or_eq_false_iff, Bool.and_eq_false_iff, decide_eq_false_iff_not] at h3 ⊢
          refine ⟨by omega, ?_⟩
          by_cases hl : (subL N s).length = (subL N k).length
          · right
            rcases h4 with h4 | ⟨h4, h5⟩
            · omega
            · have h6 : lexlt (subL N s) f = false := by
                rcases h3.2 with h | h
                · omega
                · exact h
              cases h7 : lexlt (subL N s) (subL N k) with
              | false => rfl
              | true => rw [lexlt_trans h7 h5] at h6; cases h6
          · exact .inl hl
      · refine ⟨f, by simp only [stepM]; rw [if_neg hs], hf, ha, fun s h1 h2 => ?_⟩
        by_cases e1 : s = k
        · subst e1
          cases hb : bt (subL N s) f with
          | false => rfl
          | true => exact absurd ⟨hb, h2⟩ hs
        · exact hm s (by omega) h2
/-- the least number, and the first list with it -/
def leastL (sat : List Nat → Bool) (N : Nat) : Option (List Nat) := firstI (fun n => fewL sat N n 0 []) (N + 1) 0
theorem Asc.len {lo N : Nat} : ∀ {l : List Nat}, Asc lo N l → l.length ≤ N - lo
  | [], _ => by simp
  | x :: r, h => by
    obtain ⟨h1, h2, h3⟩ := h.uncons
    have := Asc.len h3
    simp only [List.length_cons]; omega
/-- the search through all sets finds what the search by numbers finds -/
theorem least_eq (sat : List Nat → Bool) (N : Nat) : searchM sat N (2 ^ N) = leastL sat N := by
  rcases searchM_spec sat N (2 ^ N) with ⟨e, h⟩ | ⟨f, e, hf, ha, hm⟩
  · rw [e]
    cases hq : leastL sat N with
    | none => rfl
    | some t =>
      obtain ⟨n, _, _, h3, _⟩ := firstI_some hq
      obtain ⟨l, e1, ha, _, hs, _⟩ := few_some h3
      obtain ⟨s, hs1, hs2⟩ := subL_all N l ha
      rw [List.nil_append] at e1
      subst e1
      have := h s hs1
      rw [hs2, hs] at this; cases this
  · rw [e]
    cases hq : leastL sat N with
    | none =>
      have hl := ha.len
      have := firstI_none hq f.length (by omega) (by omega)
      have h2 := few_none this f ha rfl
      rw [List.nil_append, hf] at h2; cases h2
    | some t =>
      obtain ⟨n, h1, h2, h3, h4⟩ := firstI_some hq
      obtain ⟨l, e1, hal, hll, hs, hmin⟩ := few_some h3
      rw [List.nil_append] at e1
      subst e1
      obtain ⟨s, hs1, hs2⟩ := subL_all N t hal
      have h5 := hm s hs1 (by rw [hs2]; exact hs)
      rw [hs2] at h5
      have h6 : n ≤ f.length := by
        rcases Nat.lt_or_ge f.length n with h | h
        · have := few_none (h4 f.length (by omega) h) f ha rfl
          rw [List.nil_append, hf] at this; cases this
        · exact h
      simp only [bt, Bool.or_eq_false_iff, Bool.and_eq_false_iff, decide_eq_false_iff_not] at h5
      have h7 : f.length = n := by omega
      rcases hmin f ha h7 (by simpa using hf) with h8 | h8
      · rw [h8]
      · rcases h5.2 with h9 | h9
        · omega
        · rw [h8] at h9; cases h9

end Go.Proofs.Ytbihpggbabmebaa
