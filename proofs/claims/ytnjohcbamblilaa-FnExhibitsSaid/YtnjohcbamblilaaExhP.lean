/-
  An unbroken chain, in plain words. No condition beyond those written in each theorem.
-/
import Derived.Test.YtnjohcbamblilaaTxtLaw
import Derived.Test.YtnjohcbamblilaaHandO
import Derived.Test.YtnjohcbamblilaaHolders
namespace Go.Proofs.Ytnjohcbamblilaa
open Go.RowKit
set_option linter.unusedVariables false
set_option linter.unusedSimpArgs false
set_option linter.unusedSectionVars false
set_option maxRecDepth 4000

def firstBreak (x : Exhibit) : Int × Int := if isExhibit x = false then (0, 1) else if brk x = x.Chain.length then (0, 4) else ((brk x : Int), 0)
theorem seal_code (x : Exhibit) : isExhibit x = decide ((sealChanges x).2 = 0) := by
  unfold sealChanges
  by_cases h : isExhibit x = false
  · rw [if_pos h, h]; rfl
  · rw [if_neg h]; simpa using h
theorem fb_zero {x : Exhibit} (h : (firstBreak x).2 = 0) : (holdersOf x).2 = 5 := by
  unfold firstBreak at h
  by_cases h1 : isExhibit x = false
  · rw [if_pos h1] at h; cases h
  · by_cases h2 : brk x = x.Chain.length
    · rw [if_neg h1, if_pos h2] at h; cases h
    · rw [holdersOf, if_neg h1, if_pos h2]
theorem fb_four {x : Exhibit} (h : (firstBreak x).2 = 4) : (holdersOf x).2 = 0 ∧ (holdersOf x).1.length = x.Chain.length + 1 := by
  unfold firstBreak at h
  by_cases h1 : isExhibit x = false
  · rw [if_pos h1] at h; cases h
  · by_cases h2 : brk x = x.Chain.length
    · rw [holdersOf, if_neg h1, if_neg (by simpa using h2)]
      simp [hs]
    · rw [if_neg h1, if_neg h2] at h; cases h
theorem hold_mem2 (x : Exhibit) {p : Nat} (h : p ≤ x.Chain.length) : hold x p ∈ hs x (x.Chain.length + 1) :=
  List.mem_map.2 ⟨p, List.mem_range.2 (by omega), rfl⟩
theorem hold_in {x : Exhibit} {d : Int} (h : (holderOn x d).2 = 0) (h2 : (holdersOf x).2 = 0) : hasS (holdersOf x).1 (holderOn x d).1 = true := by
  unfold holderOn at h ⊢
  by_cases a1 : isExhibit x = false
  · rw [if_pos a1] at h; cases h
  · by_cases a2 : inR 0 20000 d = false
    · rw [if_neg a1, if_pos a2] at h; cases h
    · by_cases a3 : d < x.Day ∨ brk x < past x d
      · rw [if_neg a1, if_neg a2, if_pos a3] at h; cases h
      · rw [if_neg a1, if_neg a2, if_neg a3]
        unfold holdersOf at h2 ⊢
        by_cases a4 : brk x ≠ x.Chain.length
        · rw [if_neg a1, if_pos a4] at h2; cases h2
        · rw [if_neg a1, if_neg a4]
          exact hasS_iff.2 (hold_mem2 x (past_le x d))
theorem brk_mono : ∀ (l : List Handing) (who : ByteArray) (day : Int) (i : Nat) (r : Handing), brkGo who day i (l ++ [r]) = i + (l.length + 1) → day ≤ r.Day ∧ ∀ h ∈ l, h.Day ≤ r.Day
  | [], who, day, i, r, e => by
    rw [List.nil_append, brkGo] at e
    split at e
    · simp at e
    · rename_i hn
      exact ⟨by omega, fun h hh => by cases hh⟩
  | x :: l, who, day, i, r, e => by
    rw [List.cons_append, brkGo] at e
    split at e
    · simp only [List.length_cons] at e; omega
    · rename_i hn
      obtain ⟨a, b⟩ := brk_mono l x.To x.Day (i + 1) r (by simp only [List.length_cons] at e; omega)
      refine ⟨by omega, fun h hh => ?_⟩
      rcases List.mem_cons.1 hh with m | m
      · subst m; exact a
      · exact b h m
theorem over_eq {x : Exhibit} {r : Handing} (h : (handOver x r).2 = 0) : (handOver x r).1 = putH x r ∧ isExhibit x = true ∧ isHanding r = true ∧ x.Chain.length ≠ 12 ∧ brk (putH x r) = (putH x r).Chain.length := by
  unfold handOver at h ⊢
  by_cases a1 : isExhibit x = false ∨ isHanding r = false
  · rw [if_pos a1] at h; cases h
  · by_cases a2 : x.Chain.length = 12
    · rw [if_neg a1, if_pos a2] at h; cases h
    · by_cases a3 : brk (putH x r) ≠ (putH x r).Chain.length
      · rw [if_neg a1, if_neg a2, if_pos a3] at h; cases h
      · rw [if_neg a1, if_neg a2, if_neg a3]
        simp only [not_or, Bool.not_eq_false] at a1
        exact ⟨rfl, a1.1, a1.2, a2, by simpa using a3⟩
theorem put_is {x : Exhibit} {r : Handing} (h : isExhibit x = true) (h2 : isHanding r = true) (h3 : x.Chain.length ≠ 12) : isExhibit (putH x r) = true := by
  have hl := isExhibit_len h
  simp only [isExhibit, Bool.and_eq_true, decide_eq_true_eq] at h ⊢
  have hlen : (putH x r).Chain.length = x.Chain.length + 1 := by simp [putH]
  refine ⟨allB_iff.2 fun i hi => ?_, ⟨h.2.1, by omega⟩⟩
  rw [allI_of hi]
  rw [hlen] at hi
  rcases Nat.lt_or_ge i x.Chain.length with k | k
  · have := allB_iff.1 h.1 i k
    rw [allI_of k] at this
    have e : (putH x r).Chain[i] = x.Chain[i] := by simp [putH, k]
    rw [e]; exact this
  · have e : (putH x r).Chain[i] = r := by
      have : i = x.Chain.length := by omega
      subst this
      simp [putH]
    rw [e]; exact h2
theorem tw_all {α : Type} {p : α → Bool} : ∀ {l : List α}, (∀ x ∈ l, p x = true) → l.takeWhile p = l
  | [], _ => rfl
  | x :: r, h => by
    rw [List.takeWhile_cons_of_pos (h x List.mem_cons_self), tw_all fun y hy => h y (List.mem_cons_of_mem _ hy)]
theorem over_ok {x : Exhibit} {r : Handing} (h : (handOver x r).2 = 0) :
    (firstBreak (handOver x r).1).2 = 4 ∧ (holderOn (handOver x r).1 r.Day).2 = 0 ∧ (holderOn (handOver x r).1 r.Day).1 = r.To ∧ (handOver x r).1.Chain.length = x.Chain.length + 1 := by
  obtain ⟨e, h1, h2, h3, h4⟩ := over_eq h
  have hi := put_is h1 h2 h3
  have hi2 : ¬ isExhibit (putH x r) = false := by simp [hi]
  have hlen : (putH x r).Chain.length = x.Chain.length + 1 := by simp [putH]
  obtain ⟨m1, m2⟩ := brk_mono x.Chain x.Found x.Day 0 r (by have h5 := h4; rw [hlen] at h5; show brkGo x.Found x.Day 0 (x.Chain ++ [r]) = _; rw [Nat.zero_add]; exact h5)
  have hp : past (putH x r) r.Day = x.Chain.length + 1 := by
    rw [past, ← hlen]
    congr 1
    show (x.Chain ++ [r]).takeWhile _ = x.Chain ++ [r]
    refine tw_all fun y hy => ?_
    rcases List.mem_append.1 hy with k | k
    · exact decide_eq_true (m2 y k)
    · rw [List.mem_singleton] at k; subst k; exact decide_eq_true (Int.le_refl _)
  have hr : inR 0 20000 r.Day = true := by
    simp only [isHanding, Bool.and_eq_true] at h2; exact h2.1.1.1
  have hho : holderOn (putH x r) r.Day = (hold (putH x r) (x.Chain.length + 1), 0) := by
    have ha : ¬ (r.Day < (putH x r).Day ∨ brk (putH x r) < past (putH x r) r.Day) := by
      rw [h4, hp, hlen]
      show ¬ (r.Day < x.Day ∨ _)
      omega
    rw [holderOn, if_neg hi2, if_neg (by simp [hr]), if_neg ha, hp]
  have hto : hold (putH x r) (x.Chain.length + 1) = r.To := by
    rw [hold_pos (by omega) (by omega)]
    simp [putH]
  rw [e]
  refine ⟨?_, ?_, ?_, hlen⟩
  · rw [firstBreak, if_neg hi2, if_pos h4]
  · rw [hho]
  · rw [hho]; exact hto
theorem over_small {x : Exhibit} {r : Handing} (h : exSmall x) (hr : r.From.size ≤ 9223372036854775807 ∧ r.To.size ≤ 9223372036854775807) : exSmall (handOver x r).1 := by
  by_cases h0 : (handOver x r).2 = 0
  · rw [(over_eq h0).1]
    refine ⟨h.1, h.2.1, fun y hy => ?_⟩
    rcases List.mem_append.1 hy with k | k
    · exact h.2.2 y k
    · rw [List.mem_singleton] at k; subst k; exact hr
  · unfold handOver at h0 ⊢
    split
    · exact ⟨by decide, by decide, fun y hy => by cases hy⟩
    · split
      · exact ⟨by decide, by decide, fun y hy => by cases hy⟩
      · split
        · exact ⟨by decide, by decide, fun y hy => by cases hy⟩
        · rename_i a1 a2 a3; rw [if_neg a1, if_neg a2, if_neg a3] at h0; exact absurd rfl h0

end Go.Proofs.Ytnjohcbamblilaa
