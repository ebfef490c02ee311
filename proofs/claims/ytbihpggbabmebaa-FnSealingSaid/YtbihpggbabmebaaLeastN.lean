/-
  The least number of roles, in plain words: the search through all sets. No condition beyond those written in each theorem.
-/
import Derived.Test.YtbihpggbabmebaaLeastP
namespace Go.Proofs.Ytbihpggbabmebaa
open Go.RowKit
set_option linter.unusedVariables false
set_option linter.unusedSimpArgs false
set_option linter.unusedSectionVars false
set_option maxRecDepth 4000

def ofN (l : List Nat) : List Int := l.map fun (i : Nat) => (i : Int)
def nmsL (rs : List Role) (l : List Nat) : List ByteArray := l.map fun (i : Nat) => (getR rs (i : Int)).Name
def satI (rs : List Role) (fs : List File) (day : Int) (is : List Int) : Bool := allB fs.length (allI (fun _ f => is.any fun i => seeP (getR rs i) f day) fs)
def satN (rs : List Role) (fs : List File) (day : Int) (l : List Nat) : Bool := satI rs fs day (ofN l)
def leastR (rs : List Role) (fs : List File) (day : Int) : List ByteArray × Int := if sealCode rs fs day ≠ 0 then ([], sealCode rs fs day) else match leastL (satN rs fs day) rs.length with
  | none => ([], 5)
  | some l => (nmsL rs l, 0)
def lexI : List Int → List Int → Bool
  | [], [] => false
  | [], _ :: _ => true
  | _ :: _, [] => false
  | a :: r, b :: s => decide (a < b) || (decide (a = b) && lexI r s)
theorem lexI_ofN : ∀ (a b : List Nat), lexI (ofN a) (ofN b) = lexlt a b
  | [], [] => rfl
  | [], _ :: _ => rfl
  | _ :: _, [] => rfl
  | a :: r, b :: s => by
    have := lexI_ofN r s
    simp only [ofN, List.map_cons, lexI, lexlt] at this ⊢
    rw [this]
    congr 1
    · exact decide_eq_decide.2 (by omega)
    · congr 1; exact decide_eq_decide.2 (by omega)
theorem lexI_at {xs ys : List Int} {k : Nat} (h1 : k < xs.length) (h2 : k < ys.length) : lexI (xs.drop k) (ys.drop k) = (decide (xs[k] < ys[k]) || (decide (xs[k] = ys[k]) && lexI (xs.drop (k + 1)) (ys.drop (k + 1)))) := by
  rw [List.drop_eq_getElem_cons h1, List.drop_eq_getElem_cons h2, lexI]
theorem lexI_ne {xs ys : List Int} {k : Nat} (h1 : k < xs.length) (h2 : k < ys.length) (h : xs[k] ≠ ys[k]) : lexI (xs.drop k) (ys.drop k) = decide (xs[k] < ys[k]) := by
  rw [lexI_at h1 h2]; simp [h]
theorem lexI_eq {xs ys : List Int} {k : Nat} (h1 : k < xs.length) (h2 : k < ys.length) (h : xs[k] = ys[k]) : lexI (xs.drop k) (ys.drop k) = lexI (xs.drop (k + 1)) (ys.drop (k + 1)) := by
  rw [lexI_at h1 h2]; simp [h]
theorem lexI_end {xs ys : List Int} {k : Nat} (h1 : k ≤ xs.length) (h2 : k ≤ ys.length) (h : k = xs.length ∨ k = ys.length) : lexI (xs.drop k) (ys.drop k) = decide (xs.length < ys.length) := by
  rcases h with h | h
  · subst h
    rw [List.drop_length]
    rcases Nat.lt_or_ge xs.length ys.length with h3 | h3
    · rw [List.drop_eq_getElem_cons h3]; simp [lexI, h3]
    · rw [List.drop_of_length_le h3]; simp [lexI]; omega
  · subst h
    rw [List.drop_length]
    rcases Nat.lt_or_ge ys.length xs.length with h3 | h3
    · rw [List.drop_eq_getElem_cons h3]; simp [lexI]; omega
    · rw [List.drop_of_length_le h3]; simp [lexI]; omega
def subI (N s : Nat) : List Int := ofN (subL N s)
theorem subL_succ (k s : Nat) : subL (k + 1) s = subL k s ++ if s.testBit k = true then [k] else [] := by
  rw [subL, List.range_succ, List.filter_append, subL]
  by_cases h : s.testBit k = true <;> simp [h]
theorem subI_t {k s : Nat} (h : ((s / 2 ^ k % 2 : Nat) : Int) = 1) : subI k s ++ [(k : Int)] = subI (k + 1) s := by
  have : s.testBit k = true := by rw [Nat.testBit_eq_decide_div_mod_eq, decide_eq_true_eq]; omega
  rw [subI, subI, subL_succ, if_pos this]; simp [ofN]
theorem subI_f {k s : Nat} (h : ¬ ((s / 2 ^ k % 2 : Nat) : Int) = 1) : subI k s = subI (k + 1) s := by
  have : ¬ s.testBit k = true := by rw [Nat.testBit_eq_decide_div_mod_eq, decide_eq_true_eq]; omega
  rw [subI, subI, subL_succ, if_neg this]; simp
theorem ofN_lt {N : Nat} {l : List Nat} (h : Asc 0 N l) : ∀ i ∈ ofN l, 0 ≤ i ∧ i.toNat < N := fun i m => by
  obtain ⟨j, hj, rfl⟩ := List.mem_map.1 m
  have := h.2 j hj
  omega
theorem subI_lt (N s : Nat) : ∀ i ∈ subI N s, 0 ≤ i ∧ i.toNat < N := ofN_lt (subL_asc N s)
/-- what has been found when the sets below k have been seen -/
def FND (rs : List Role) (fs : List File) (day : Int) (n k : Nat) (q : Option Addr) (fl : List Int) : Prop :=
  (q = none ∧ searchM (satN rs fs day) n k = none) ∨ (q ≠ none ∧ ∃ f, searchM (satN rs fs day) n k = some f ∧ fl = ofN f ∧ Asc 0 n f)
section
variable {rs : List Role} {fs : List File} {day : Int} {n k : Nat} {q q' : Option Addr} {fl : List Int}
theorem srch_c (h : FND rs fs day n k q fl) (hq : q ≠ none) (hb : fl.length < (subI n k).length ∨ ((subI n k).length = fl.length ∧ lexI (subI n k) fl = false)) : FND rs fs day n (k + 1) q fl := by
  rcases h with ⟨h, _⟩ | ⟨_, f, h1, rfl, h2⟩
  · exact absurd h hq
  · refine .inr ⟨hq, f, ?_, rfl, h2⟩
    rw [searchM_succ, h1, stepM]
    refine if_neg fun hc => ?_
    have hc := hc.1
    simp only [bt, Bool.or_eq_true, Bool.and_eq_true, decide_eq_true_eq] at hc
    rw [subI, lexI_ofN] at hb
    simp only [ofN, List.length_map] at hb
    rcases hb with hb | ⟨hb, hb2⟩
    · omega
    · rcases hc with hc | ⟨_, hc⟩
      · omega
      · rw [hc] at hb2; cases hb2
theorem srch_f (h : FND rs fs day n k q fl) (hs : satI rs fs day (subI n k) = false) : FND rs fs day n (k + 1) q fl := by
  have hs : satN rs fs day (subL n k) = false := hs
  rcases h with ⟨h, h1⟩ | ⟨h, f, h1, rfl, h2⟩
  · exact .inl ⟨h, by rw [searchM_succ, h1, stepM, if_neg (by simp [hs])]⟩
  · exact .inr ⟨h, f, by rw [searchM_succ, h1, stepM]; exact if_neg (by simp [hs]), rfl, h2⟩
theorem srch_t (h : FND rs fs day n k q fl) (hb : q = none ∨ (¬ fl.length < (subI n k).length ∧ ((subI n k).length ≠ fl.length ∨ lexI (subI n k) fl = true))) (hs : satI rs fs day (subI n k) = true) (hq : q' ≠ none) : FND rs fs day n (k + 1) q' (subI n k) := by
  have hs : satN rs fs day (subL n k) = true := hs
  refine .inr ⟨hq, subL n k, ?_, rfl, subL_asc n k⟩
  rcases h with ⟨h, h1⟩ | ⟨h, f, h1, rfl, h2⟩
  · rw [searchM_succ, h1, stepM, if_pos hs]
  · rw [searchM_succ, h1, stepM]
    refine if_pos ⟨?_, hs⟩
    rcases hb with hb | ⟨hb, hb2⟩
    · exact absurd hb h
    · rw [subI, lexI_ofN] at hb2
      rw [subI] at hb
      simp only [ofN, List.length_map] at hb hb2
      simp only [bt, Bool.or_eq_true, Bool.and_eq_true, decide_eq_true_eq]
      by_cases e : (subL n k).length = f.length
      · exact .inr ⟨e, hb2.resolve_left (fun h => h e)⟩
      · left; omega
theorem fnd_lt (h : FND rs fs day n k q fl) (hq : q ≠ none) : ∀ i ∈ fl, 0 ≤ i ∧ i.toNat < n := by
  rcases h with ⟨h, _⟩ | ⟨_, f, _, rfl, h2⟩
  · exact absurd h hq
  · exact ofN_lt h2
theorem fnd_none (h : FND rs fs day rs.length (2 ^ rs.length) none fl) (hc : ¬ sealCode rs fs day ≠ 0) : leastR rs fs day = ([], 5) := by
  rcases h with ⟨_, h⟩ | ⟨h, _⟩
  · rw [leastR, if_neg hc, ← least_eq, h]
  · exact absurd rfl h
theorem fnd_some (h : FND rs fs day rs.length (2 ^ rs.length) q fl) (hq : q ≠ none) (hc : ¬ sealCode rs fs day ≠ 0) : leastR rs fs day = (fl.map fun i => (getR rs i).Name, 0) := by
  rcases h with ⟨h, _⟩ | ⟨_, f, h, rfl, _⟩
  · exact absurd h hq
  · rw [leastR, if_neg hc, ← least_eq, h]
    simp [nmsL, ofN]
theorem fnd_len (h : FND rs fs day n k q fl) (hq : q ≠ none) : fl.length ≤ n := by
  rcases h with ⟨h, _⟩ | ⟨_, f, _, rfl, h2⟩
  · exact absurd h hq
  · have := h2.len; simp only [ofN, List.length_map]; omega
end
theorem subI_len (n k : Nat) : (subI n k).length ≤ n := by
  have := (subL_asc n k).len; simp only [subI, ofN, List.length_map]; omega
theorem shr_nat (s k : Nat) : (s : Int) / 2 ^ ((k : Int).toNat) = ((s / 2 ^ k : Nat) : Int) := by simp
theorem shl_nat (k : Nat) : (1 : Int) * 2 ^ ((k : Int).toNat) = ((2 ^ k : Nat) : Int) := by simp
theorem shr_lt {s : Nat} (k : Nat) (h : s < 256) : s / 2 ^ k < 9223372036854775808 := Nat.lt_of_le_of_lt (Nat.div_le_self _ _) (by omega)
theorem leastR_len (rs : List Role) (fs : List File) (day : Int) : (leastR rs fs day).1.length ≤ 8 := by
  unfold leastR
  split
  · simp
  · rename_i hc
    have h8 := areRoles_len (sealCode_zero (by omega : sealCode rs fs day = 0)).1
    rw [← least_eq]
    rcases searchM_spec (satN rs fs day) rs.length (2 ^ rs.length) with ⟨h, _⟩ | ⟨f, h, _, h2, _⟩
    · rw [h]; simp
    · rw [h]
      have := h2.len
      simp only [nmsL, List.length_map]; omega
theorem map_step {α β : Type} {f : α → β} {fl : List α} {ys : List β} {j : Nat} (h : ys = (fl.take j).map f) (hj : j < fl.length) : ys ++ [f fl[j]] = (fl.take (j + 1)).map f := by
  subst h
  rw [List.take_succ_eq_append_getElem hj, List.map_append]; rfl
theorem nmsL_len (rs : List Role) (l : List Nat) : (nmsL rs l).length = l.length := by simp [nmsL]
theorem nmsL_role {rs : List Role} (hR : areRoles rs = true) {l : List Nat} (h : ∀ i ∈ l, i < rs.length) {j : Nat} (hj : j < (nmsL rs l).length) (hj2 : j < l.length) : roleOf rs (nmsL rs l)[j] = (l[j] : Int) := by
  have h1 := h _ (List.getElem_mem hj2)
  have h2 : (nmsL rs l)[j] = rs[l[j]].Name := by
    simp only [nmsL, List.getElem_map]
    rw [getR_eq (by simpa using h1)]; simp
  rw [h2, role_idx hR h1]
theorem any_succ {α : Type} {f : α → Bool} {l : List α} {j : Nat} (hj : j < l.length) : (l.take (j + 1)).any f = ((l.take j).any f || f l[j]) := by
  rw [List.take_succ_eq_append_getElem hj, List.any_append]; simp
/-- does any of the first j roles see file k -/
def seenTo (rs : List Role) (fs : List File) (day : Int) (ch : List Nat) (k j : Nat) : Bool := (ch.take j).any fun (i : Nat) => seeP (getR rs (i : Int)) (getF fs (k : Int)) day
theorem seenTo_all {rs : List Role} {fs : List File} {day : Int} {ch : List Nat} {k : Nat} (hk : k < fs.length) : seenTo rs fs day ch k ch.length = (ofN ch).any fun i => seeP (getR rs i) fs[k] day := by
  rw [seenTo, List.take_length, getF_eq (by simpa using hk), ofN, List.any_map]; simp [Function.comp_def]
theorem seenTo_t {rs : List Role} {fs : List File} {day : Int} {ch : List Nat} {k j : Nat} (hj : j < ch.length) (h : seenTo rs fs day ch k j = true) : seenTo rs fs day ch k (j + 1) = true := by
  rw [seenTo, any_succ hj]; rw [seenTo] at h; rw [h]; rfl
theorem seenTo_f {rs : List Role} {fs : List File} {day : Int} {ch : List Nat} {k j : Nat} (hj : j < ch.length) (h : seenTo rs fs day ch k j = false) : seenTo rs fs day ch k (j + 1) = seeP (getR rs (ch[j] : Int)) (getF fs (k : Int)) day := by
  rw [seenTo, any_succ hj]; rw [seenTo] at h; rw [h]; rfl
theorem few_zero_t {rs : List Role} {fs : List File} {day : Int} {ch : List Nat} {fr N : Nat} (h : allB fs.length (allI (fun _ f => (ofN ch).any fun i => seeP (getR rs i) f day) fs) = true) : fewL (satN rs fs day) N 0 fr ch = some ch := by
  rw [fewL, if_pos (show satN rs fs day ch = true from h)]
theorem few_zero_f {rs : List Role} {fs : List File} {day : Int} {ch : List Nat} {fr N k : Nat} (hk : k < fs.length) (h : seenTo rs fs day ch k ch.length = false) : fewL (satN rs fs day) N 0 fr ch = none := by
  rw [fewL, if_neg]
  rw [satN, satI, allB_false hk (by rw [allI_of hk, ← seenTo_all hk]; exact h)]; simp
theorem firstI_at {α : Type} {g : Nat → Option α} {k i : Nat} {x : α} (h : g i = some x) : firstI g (k + 1) i = some x := by rw [firstI, h]
theorem firstI_on {α : Type} {g : Nat → Option α} {k i : Nat} (h : g i = none) : firstI g (k + 1) i = firstI g k (i + 1) := by rw [firstI, h]
theorem nmsL_app (rs : List Role) (l : List Nat) {i : Nat} (hi : i < rs.length) : nmsL rs l ++ [rs[i].Name] = nmsL rs (l ++ [i]) := by
  simp only [nmsL, List.map_append, List.map_cons, List.map_nil]
  rw [getR_eq (by simpa using hi)]; simp
theorem leastR_at {rs : List Role} {fs : List File} {day : Int} (hc : ¬ sealCode rs fs day ≠ 0) {l : List Nat} (h : leastL (satN rs fs day) rs.length = some l) : leastR rs fs day = (nmsL rs l, 0) := by rw [leastR, if_neg hc, h]
theorem leastR_no {rs : List Role} {fs : List File} {day : Int} (hc : ¬ sealCode rs fs day ≠ 0) (h : leastL (satN rs fs day) rs.length = none) : leastR rs fs day = ([], 5) := by rw [leastR, if_neg hc, h]

end Go.Proofs.Ytbihpggbabmebaa
