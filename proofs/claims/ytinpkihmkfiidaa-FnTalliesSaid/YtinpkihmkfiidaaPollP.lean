/-
  What polls say, in plain words. No condition beyond those written in each theorem.
-/
import Derived.Test.YtinpkihmkfiidaaFormP
import Derived.Test.YtinpkihmkfiidaaAllG
namespace Go.Proofs.Ytinpkihmkfiidaa
open Go.RowKit
set_option linter.unusedVariables false
set_option linter.unusedSimpArgs false
set_option linter.unusedSectionVars false
set_option maxRecDepth 4000

theorem wayG_done {xs : List Question} {az : List Int} : ∀ (f i : Nat), (wayG xs az f i).2 ≠ 0 → ∀ q ∈ (wayG xs az f i).1, 0 ≤ getI az q.toNat
  | 0, _, h => by simp [wayG] at h
  | f + 1, i, h => by
    unfold wayG at h ⊢
    cases ha : az[i]? with
    | none => rw [ha] at h; simp at h
    | some a =>
      cases hq : xs[i]? with
      | none => rw [ha, hq] at h; simp at h
      | some q =>
        rw [ha, hq] at h
        simp only at h ⊢
        by_cases h1 : a < 0
        · rw [if_pos h1] at h; simp at h
        · rw [if_neg h1] at h ⊢
          have hg : 0 ≤ getI az (i : Int).toNat := by simp only [Int.toNat_natCast, getI, ha, Option.getD_some]; omega
          by_cases h2 : follows q a < 0
          · rw [if_pos h2]
            intro x m
            rw [List.mem_singleton] at m; subst m; exact hg
          · rw [if_neg h2] at h ⊢
            intro x m
            rcases List.mem_cons.1 m with m | m
            · subst m; exact hg
            · exact wayG_done f _ h x m
theorem filter_or_len {α : Type} (p q : α → Bool) : ∀ l : List α, (l.filter fun x => p x || q x).length ≤ (l.filter p).length + (l.filter q).length
  | [] => by simp
  | x :: r => by
    have := filter_or_len p q r
    simp only [List.filter_cons]
    cases p x <;> cases q x <;> simp <;> omega
theorem filter_not_len {α : Type} (p : α → Bool) : ∀ l : List α, (l.filter p).length + (l.filter fun x => !p x).length = l.length
  | [] => by simp
  | x :: r => by
    have := filter_not_len p r
    simp only [List.filter_cons]
    cases p x <;> simp <;> omega
theorem filter_and_len {α : Type} (p q : α → Bool) (h : ∀ x, p x = true → q x = true → False) : ∀ l : List α, (l.filter p).length + (l.filter q).length ≤ l.length
  | [] => by simp
  | x :: r => by
    have := filter_and_len p q h r
    have hx := h x
    simp only [List.filter_cons]
    cases hp : p x <;> cases hq : q x <;> simp [hp, hq] at hx ⊢ <;> omega
theorem cnt_01 (vs : List (List Int)) (q : Nat) : cntV vs q 1 + cntV vs q 0 ≤ vs.length := by
  have := filter_and_len (fun v => decide (getI v q = 1)) (fun v => decide (getI v q = 0)) (fun x h1 h2 => by simp only [decide_eq_true_eq] at h1 h2; omega) vs
  unfold cntV; omega
theorem ansAt_more {vs : List (List Int)} {need g : Int} {q : Nat} (h0 : (vs.length : Int) / 2 < need) (h1 : need ≤ g) (h : 0 ≤ ansAt g vs q) : ansAt need vs q = ansAt g vs q := by
  have hc := cnt_01 vs q
  unfold ansAt at h ⊢
  by_cases h2 : g ≤ cntV vs q 1
  · rw [if_pos h2, if_pos (by omega)]
  · rw [if_neg h2] at h ⊢
    by_cases h3 : g ≤ cntV vs q 0
    · rw [if_pos h3, if_neg (by omega), if_pos (by omega)]
    · rw [if_neg h3] at h; omega
theorem getI_ans {xs : List Question} {nd : Int} {vs : List (List Int)} {q : Nat} (h : q < xs.length) : getI (ansOf xs nd vs) q = ansAt nd vs q := by
  rw [getI_at (by rw [ansOf_length]; exact h), ansOf_at]
theorem wayF_more {xs : List Question} (hf : isForm xs = true) {vs : List (List Int)} {need g : Int} (h0 : (vs.length : Int) / 2 < need) (h1 : need ≤ g) (h : (wayF xs (ansOf xs g vs)).2 ≠ 0) : wayF xs (ansOf xs need vs) = wayF xs (ansOf xs g vs) := by
  refine wayG_agree (by rw [ansOf_length, ansOf_length]) _ _ fun q m => ?_
  have hm := wayG_mem hf xs.length 0 (by have := isForm_len hf; omega) q m
  have hd := wayG_done _ _ h q m
  have hq : q.toNat < xs.length := by omega
  rw [getI_ans hq] at hd
  rw [List.getElem?_eq_getElem (by rw [ansOf_length]; exact hq), List.getElem?_eq_getElem (by rw [ansOf_length]; exact hq), ansOf_at, ansOf_at, ansAt_more h0 h1 hd]
theorem gnGo_spec {xs : List Question} {vs : List (List Int)} : ∀ k : Nat, (gnGo xs vs k).2 = 0 → (vs.length : Int) / 2 < (gnGo xs vs k).1 ∧ (gnGo xs vs k).1 ≤ k ∧ (wayF xs (ansOf xs (gnGo xs vs k).1 vs)).2 ≠ 0
  | 0, h => by simp [gnGo] at h
  | k + 1, h => by
    unfold gnGo at h ⊢
    by_cases h1 : ((k + 1 : Nat) : Int) ≤ (vs.length : Int) / 2
    · rw [if_pos h1] at h; simp at h
    · rw [if_neg h1] at h ⊢
      by_cases h2 : (wayF xs (ansOf xs ((k + 1 : Nat) : Int) vs)).2 ≠ 0
      · rw [if_pos h2]; exact ⟨by simp only; omega, Int.le_refl _, h2⟩
      · rw [if_neg h2] at h ⊢
        obtain ⟨a, b, c⟩ := gnGo_spec k h
        exact ⟨a, by omega, c⟩
theorem gnGo_max {xs : List Question} {vs : List (List Int)} {need : Int} (h0 : (vs.length : Int) / 2 < need) (h : (wayF xs (ansOf xs need vs)).2 ≠ 0) : ∀ k : Nat, need ≤ k → (gnGo xs vs k).2 = 0 ∧ need ≤ (gnGo xs vs k).1
  | 0, hk => by omega
  | k + 1, hk => by
    unfold gnGo
    rw [if_neg (by omega)]
    by_cases h2 : (wayF xs (ansOf xs ((k + 1 : Nat) : Int) vs)).2 ≠ 0
    · rw [if_pos h2]; exact ⟨rfl, hk⟩
    · rw [if_neg h2]
      refine gnGo_max h0 h k ?_
      by_cases he : need = ((k + 1 : Nat) : Int)
      · subst he; exact absurd h h2
      · omega
theorem range_filter_len (vs : List (List Int)) (p : List Int → Bool) : ∀ k, k ≤ vs.length → ((List.range k).filter fun j => p (vs[j]?.getD [])).length = ((vs.take k).filter p).length
  | 0, _ => by simp
  | k + 1, h => by
    have hk : k < vs.length := by omega
    rw [List.range_succ, List.filter_append, List.length_append, range_filter_len vs p k (by omega), List.take_succ_eq_append_getElem hk, List.filter_append, List.length_append]
    simp only [List.filter_cons, List.filter_nil, List.getElem?_eq_getElem hk, Option.getD_some]
    split <;> rfl
theorem dis_len {vs : List (List Int)} {ans : List Int} {m : Int} : ∀ (way : List Int), (∀ q ∈ way, ((vs.filter fun v => decide (getI v q.toNat ≠ getI ans q.toNat)).length : Int) ≤ m) → ((disL way ans vs vs.length).length : Int) ≤ (way.length : Int) * m
  | [], _ => by simp [disL, difV]
  | q :: r, h => by
    have h1 := dis_len r (fun x hx => h x (List.mem_cons_of_mem _ hx))
    have h2 := h q List.mem_cons_self
    have h3 := filter_or_len (fun j : Nat => decide (getI (vs[j]?.getD []) q.toNat ≠ getI ans q.toNat)) (fun j => difV r ans (vs[j]?.getD [])) (List.range vs.length)
    have h4 := range_filter_len vs (fun v => decide (getI v q.toNat ≠ getI ans q.toNat)) vs.length (Nat.le_refl _)
    rw [List.take_length] at h4
    rw [h4] at h3
    simp only [disL, List.length_map] at h1 ⊢
    have e : (fun j : Nat => difV (q :: r) ans (vs[j]?.getD [])) = fun j => decide (getI (vs[j]?.getD []) q.toNat ≠ getI ans q.toNat) || difV r ans (vs[j]?.getD []) := by
      funext j; simp [difV]
    rw [e, List.length_cons, Int.natCast_succ, Int.add_mul, Int.one_mul]
    omega
theorem cnt_not (vs : List (List Int)) (q : Nat) (a : Int) : ((vs.filter fun v => decide (getI v q ≠ a)).length : Int) = vs.length - cntV vs q a := by
  have h := filter_not_len (fun v => decide (getI v q = a)) vs
  have e : (fun v => !decide (getI v q = a)) = fun v => decide (getI v q ≠ a) := by funext v; simp
  rw [e] at h
  unfold cntV; omega
theorem ansAt_cnt {vs : List (List Int)} {nd : Int} {q : Nat} (h : 0 ≤ ansAt nd vs q) : nd ≤ cntV vs q (ansAt nd vs q) := by
  unfold ansAt at h ⊢
  by_cases h1 : nd ≤ cntV vs q 1
  · rw [if_pos h1]; exact h1
  · rw [if_neg h1] at h ⊢
    by_cases h2 : nd ≤ cntV vs q 0
    · rw [if_pos h2]; exact h2
    · rw [if_neg h2] at h; omega
theorem answersOf_code (xs : List Question) (nd : Int) (vs : List (List Int)) : (answersOf xs nd vs).2 = if isPoll xs nd vs = true then 0 else 1 := by
  unfold answersOf; cases isPoll xs nd vs <;> simp
theorem dissenters_code (xs : List Question) (nd : Int) (vs : List (List Int)) : (dissenters xs nd vs).2 = (pollVerdict xs nd vs).2 := by
  unfold dissenters; split
  · rfl
  · simp only; omega
theorem hung_iff {xs : List Question} {nd : Int} {vs : List (List Int)} (h : isPoll xs nd vs = true) : (hungOn xs nd vs).2 = 0 ↔ (pollVerdict xs nd vs).2 = 5 := by
  rw [hungOn, if_neg (by simp [h])]
  by_cases h2 : (wayF xs (ansOf xs nd vs)).2 = 0
  · rw [pollVerdict_5 h h2, if_neg (by simp [h2])]; simp
  · rw [pollVerdict_0 h h2, if_pos h2]; simp
theorem poll_zero {xs : List Question} {nd : Int} {vs : List (List Int)} (h : (pollVerdict xs nd vs).2 = 0) : (greatestNeed xs nd vs).2 = 0 ∧ nd ≤ (greatestNeed xs nd vs).1 ∧ ((dissenters xs nd vs).1.length : Int) ≤ ((answersOf xs nd vs).1.length : Int) * ((vs.length : Int) - nd) := by
  obtain ⟨hp, hw⟩ := pollVerdict_code h
  have hn := isPoll_need hp
  have hf := isPoll_form hp
  obtain ⟨h1, h2⟩ := gnGo_max (need := nd) (by omega) hw vs.length hn.2
  rw [greatestNeed, if_neg (by simp [hp])]
  refine ⟨h1, h2, ?_⟩
  rw [dissenters, if_neg (by simp [h]), answersOf, if_neg (by simp [hp])]
  have h3 := dis_len (vs := vs) (ans := ansOf xs nd vs) (m := (vs.length : Int) - nd) (wayF xs (ansOf xs nd vs)).1 (fun q m => by
    have hm := wayG_mem hf xs.length 0 (by have := isForm_len hf; omega) q m
    have hd := wayG_done _ _ hw q m
    have hq : q.toNat < xs.length := by omega
    rw [getI_ans hq] at hd ⊢
    rw [cnt_not]
    have := ansAt_cnt hd
    omega)
  refine Int.le_trans h3 ?_
  simp only [ansOf_length]
  have h4 : (wayF xs (ansOf xs nd vs)).1.length ≤ xs.length := wayG_ge xs (ansOf xs nd vs) xs.length 0
  exact Int.mul_le_mul_of_nonneg_right (by omega) (by omega)
theorem need_zero {xs : List Question} {nd : Int} {vs : List (List Int)} (hp : isPoll xs nd vs = true) (h : (greatestNeed xs nd vs).2 = 0) :
    (pollVerdict xs (greatestNeed xs nd vs).1 vs).2 = 0 ∧ ((pollVerdict xs nd vs).2 ≠ 0 ∨ (pollVerdict xs (greatestNeed xs nd vs).1 vs).1 = (pollVerdict xs nd vs).1) := by
  rw [greatestNeed, if_neg (by simp [hp])] at h ⊢
  obtain ⟨h1, h2, h3⟩ := gnGo_spec _ h
  have hn := isPoll_need hp
  have hf := isPoll_form hp
  have hg : isPoll xs (gnGo xs vs vs.length).1 vs = true := by rw [isPoll_any hp, inR_iff]; omega
  rw [pollVerdict_0 hg h3]
  refine ⟨rfl, ?_⟩
  by_cases h4 : (pollVerdict xs nd vs).2 = 0
  · obtain ⟨_, hw⟩ := pollVerdict_code h4
    have h5 := gnGo_max (need := nd) (by omega) hw vs.length hn.2
    rw [pollVerdict_0 hp hw, wayF_more hf (by omega) h5.2 h3]
    exact .inr rfl
  · exact .inl h4
/-- the counts of a tally are all votes -/
theorem cnt_all {xs : List Question} {nd : Int} {vs : List (List Int)} (hp : isPoll xs nd vs = true) {q : Nat} (hq : q < xs.length) : cntV vs q 1 + cntV vs q 0 + cntV vs q (-1) = vs.length := by
  have key : ∀ l : List (List Int), (∀ v ∈ l, getI v q = 1 ∨ getI v q = 0 ∨ getI v q = -1) → cntV l q 1 + cntV l q 0 + cntV l q (-1) = l.length := by
    intro l
    induction l with
    | nil => intro _; simp [cntV]
    | cons v r ih =>
      intro h
      have h1 := ih (fun x hx => h x (List.mem_cons_of_mem _ hx))
      simp only [cntV, List.filter_cons, List.length_cons] at h1 ⊢
      rcases h v List.mem_cons_self with e | e | e <;> simp [e] <;> omega
  refine key vs fun v m => ?_
  obtain ⟨k, hk, rfl⟩ := List.getElem_of_mem m
  have hA := isPoll_votes hp hk
  have hl := areAns_len hA
  have := areAns_at hA (i := q) (by omega)
  rw [getI_at (by omega)]; omega
theorem tally_sum {xs : List Question} {nd : Int} {vs : List (List Int)} {q : Int} (h : (tallyOf xs nd vs q).2.2.2 = 0) : (tallyOf xs nd vs q).1 + (tallyOf xs nd vs q).2.1 + (tallyOf xs nd vs q).2.2.1 = vs.length := by
  unfold tallyOf at h ⊢
  by_cases h1 : isPoll xs nd vs = false
  · rw [if_pos h1] at h; simp at h
  · rw [if_neg h1] at h ⊢
    by_cases h2 : q < 0 ∨ (xs.length : Int) ≤ q
    · rw [if_pos h2] at h; simp at h
    · rw [if_neg h2]
      exact cnt_all (by simpa using h1) (by omega)
theorem answers_poll {xs : List Question} {nd : Int} {vs : List (List Int)} (h : (answersOf xs nd vs).2 = 0) : isPoll xs nd vs = true := by
  rw [answersOf_code] at h
  cases hq : isPoll xs nd vs with
  | true => rfl
  | false => rw [hq] at h; simp at h
theorem mul_small {a b : Int} (h1 : 0 ≤ a) (h2 : a ≤ 100) (h3 : 0 ≤ b) (h4 : b ≤ 100) : -9223372036854775808 ≤ a * b ∧ a * b ≤ 9223372036854775807 := by
  have h5 := Int.mul_nonneg h1 h3
  have h6 : a * b ≤ 100 * 100 := Int.mul_le_mul h2 h4 h3 (by omega)
  omega
/-- the same votes, but that one juror says the opposite to one question -/
def flipV (vs : List (List Int)) (j q : Nat) : List (List Int) := vs.set j ((vs[j]?.getD []).set q (1 - getI (vs[j]?.getD []) q))
def turnVote (xs : List Question) (nd : Int) (vs : List (List Int)) (j q : Int) : (Int × List (List Int)) × Int :=
  if pollCode xs nd vs j q ≠ 0 then ((0, []), pollCode xs nd vs j q) else if getI (getV vs j) q.toNat < 0 then ((0, []), 5) else ((nd, flipV vs j.toNat q.toNat), 0)
theorem flipV_length (vs : List (List Int)) (j q : Nat) : (flipV vs j q).length = vs.length := by simp [flipV]
theorem flipV_at {vs : List (List Int)} {j q : Nat} (hj : j < vs.length) (hq : q < vs[j].length) : flipV vs j q = vs.set j (vs[j].set q (1 - vs[j][q])) := by
  simp [flipV, hj, getI_at hq]
theorem flipV_at' {vs : List (List Int)} {j q : Nat} {v : List Int} {x : Int} (hj : j < vs.length) (hv : vs[j] = v) (hq : q < v.length) (hx : v[q] = x) : flipV vs j q = vs.set j (v.set q (1 - x)) := by
  subst hv; subst hx; exact flipV_at hj hq
theorem turn_isPoll {xs : List Question} {nd : Int} {vs : List (List Int)} {j q : Nat} (h : isPoll xs nd vs = true) (hj : j < vs.length) (hq : q < vs[j].length) (h0 : ¬ vs[j][q] < 0) : isPoll xs nd (flipV vs j q) = true := by
  have h1 := isPoll_votes h hj
  have h2 := areAns_at h1 hq
  have hv := fun {k : Nat} (hk : k < vs.length) => isPoll_votes h hk
  simp only [isPoll, Bool.and_eq_true, flipV_length] at h ⊢
  refine ⟨allB_iff.2 fun i hi => ?_, h.2⟩
  rw [allI_of (by rw [flipV_length]; exact hi)]
  simp only [flipV_at hj hq, List.getElem_set]
  split
  · exact areAns_set h1 (by omega)
  · exact hv hi
/-- a turned vote is turned back -/
theorem turn_back {xs : List Question} {nd : Int} {vs : List (List Int)} {j q : Int} (h : (turnVote xs nd vs j q).2 = 0) : (turnVote xs nd vs j q).1.1 = nd ∧ turnVote xs nd (turnVote xs nd vs j q).1.2 j q = ((nd, vs), 0) := by
  unfold turnVote at h
  by_cases h1 : pollCode xs nd vs j q ≠ 0
  · rw [if_pos h1] at h; exact absurd h h1
  · rw [if_neg h1] at h
    have h1 : pollCode xs nd vs j q = 0 := by simpa using h1
    by_cases h2 : getI (getV vs j) q.toNat < 0
    · rw [if_pos h2] at h; simp at h
    · obtain ⟨hp, j0, j1, q0, q1⟩ := pollCode_zero h1
      have hj : j.toNat < vs.length := by omega
      have hr := isPoll_row hp vs[j.toNat] (List.getElem_mem hj)
      have hq : q.toNat < vs[j.toNat].length := by omega
      have hg : getV vs j = vs[j.toNat] := getV_eq hj
      rw [hg, getI_at hq] at h2
      have h3 := turn_isPoll hp hj hq h2
      have e : turnVote xs nd vs j q = ((nd, flipV vs j.toNat q.toNat), 0) := by
        rw [turnVote, if_neg (by simp [h1]), hg, getI_at hq, if_neg h2]
      rw [e]
      refine ⟨rfl, ?_⟩
      have h4 := areAns_at (isPoll_votes hp hj) hq
      have hc : pollCode xs nd (flipV vs j.toNat q.toNat) j q = 0 := by
        rw [pollCode, if_neg (by simp [h3]), if_neg (by rw [flipV_length]; omega)]
      have hj2 : j.toNat < (flipV vs j.toNat q.toNat).length := by rw [flipV_length]; exact hj
      have e2 : (flipV vs j.toNat q.toNat)[j.toNat] = vs[j.toNat].set q.toNat (1 - vs[j.toNat][q.toNat]) := by simp only [flipV_at hj hq, List.getElem_set_self]
      have hq2 : q.toNat < ((flipV vs j.toNat q.toNat)[j.toNat]).length := by rw [e2, List.length_set]; exact hq
      have e3 : ((flipV vs j.toNat q.toNat)[j.toNat])[q.toNat] = 1 - vs[j.toNat][q.toNat] := by simp only [e2, List.getElem_set_self]
      have e4 : flipV (flipV vs j.toNat q.toNat) j.toNat q.toNat = vs := by
        rw [flipV_at' hj2 e2 (by rw [List.length_set]; exact hq) (List.getElem_set_self _), flipV_at hj hq, List.set_set, List.set_set, show 1 - (1 - vs[j.toNat][q.toNat]) = vs[j.toNat][q.toNat] by omega, List.set_getElem_self, List.set_getElem_self]
      simp only
      rw [turnVote, if_neg (by simp [hc]), getV_eq hj2, getI_at hq2, e3, if_neg (by omega), e4]

end Go.Proofs.Ytinpkihmkfiidaa
