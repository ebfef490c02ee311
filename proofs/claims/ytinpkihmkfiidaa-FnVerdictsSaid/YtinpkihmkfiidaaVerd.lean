/-
  The verdicts and the questions to which ways lead, in plain words. No condition beyond those written in each theorem.
-/
import Derived.Test.YtinpkihmkfiidaaAnsP
import Derived.Lib.SlicesCompact
namespace Go.Proofs.Ytinpkihmkfiidaa
open Go.RowKit
set_option linter.unusedVariables false
set_option linter.unusedSimpArgs false
set_option linter.unusedSectionVars false
set_option maxRecDepth 4000

/-- the questions and verdicts to which ways lead, told by the first k questions -/
def usedT (xs : List Question) : Nat → List Int
  | 0 => [0]
  | k + 1 => match xs[k]? with
    | some q => if hasI (usedT xs k) (k : Int) = true then usedT xs k ++ [q.Yes, q.No] else usedT xs k
    | none => usedT xs k
def usedL (xs : List Question) : List Int := usedT xs xs.length
theorem usedT_t {xs : List Question} {k : Nat} (h : k < xs.length) (hh : hasI (usedT xs k) (k : Int) = true) : usedT xs (k + 1) = usedT xs k ++ [xs[k].Yes, xs[k].No] := by
  simp [usedT, h, hh]
theorem usedT_f {xs : List Question} {k : Nat} (h : k < xs.length) (hh : hasI (usedT xs k) (k : Int) = false) : usedT xs (k + 1) = usedT xs k := by
  simp [usedT, h, hh]
theorem usedT_len (xs : List Question) : ∀ k, (usedT xs k).length ≤ 1 + 2 * k
  | 0 => by simp [usedT]
  | k + 1 => by
    have := usedT_len xs k
    unfold usedT
    split
    · split
      · simp only [List.length_append, List.length_cons, List.length_nil]; omega
      · omega
    · omega
theorem usedT_mono {xs : List Question} {x : Int} {k : Nat} (h : x ∈ usedT xs k) : ∀ m, k ≤ m → x ∈ usedT xs m
  | 0, hm => by
    have : k = 0 := by omega
    subst this; exact h
  | m + 1, hm => by
    by_cases e : k = m + 1
    · subst e; exact h
    · have ih := usedT_mono h m (by omega)
      unfold usedT
      split
      · split
        · exact List.mem_append.2 (.inl ih)
        · exact ih
      · exact ih
theorem usedT_low {xs : List Question} (hf : isForm xs = true) {x : Int} {k : Nat} (h0 : 0 ≤ x) (hk : x ≤ k) : ∀ m, k ≤ m → m ≤ xs.length → x ∈ usedT xs m → x ∈ usedT xs k
  | 0, hm, _, h => by
    have : k = 0 := by omega
    subst this; exact h
  | m + 1, hm, hl, h => by
    by_cases e : k = m + 1
    · subst e; exact h
    · refine usedT_low hf h0 hk m (by omega) (by omega) ?_
      have hi : m < xs.length := by omega
      have ny := form_yes hf hi
      have nn := form_no hf hi
      cases hh : hasI (usedT xs m) (m : Int) with
      | false => rw [usedT_f hi hh] at h; exact h
      | true =>
        rw [usedT_t hi hh] at h
        rcases List.mem_append.1 h with h | h
        · exact h
        · simp only [List.mem_cons, List.not_mem_nil, or_false] at h
          omega
theorem used_next {xs : List Question} (hf : isForm xs = true) {i : Nat} (hi : i < xs.length) (h : (i : Int) ∈ usedL xs) : xs[i].Yes ∈ usedL xs ∧ xs[i].No ∈ usedL xs := by
  have h1 := usedT_low hf (k := i) (by omega) (Int.le_refl _) xs.length (by omega) (Nat.le_refl _) h
  have e := usedT_t hi (hasI_iff.2 h1)
  constructor
  · exact usedT_mono (k := i + 1) (by rw [e]; simp) _ (by omega)
  · exact usedT_mono (k := i + 1) (by rw [e]; simp) _ (by omega)
theorem usedT_range {xs : List Question} (hf : isForm xs = true) : ∀ m, m ≤ xs.length → ∀ x ∈ usedT xs m, -6 ≤ x ∧ x < xs.length
  | 0, _, x, h => by
    have := isForm_len hf
    simp [usedT] at h; omega
  | m + 1, hl, x, h => by
    have hi : m < xs.length := by omega
    have ny := form_yes hf hi
    have nn := form_no hf hi
    cases hh : hasI (usedT xs m) (m : Int) with
    | false => rw [usedT_f hi hh] at h; exact usedT_range hf m (by omega) x h
    | true =>
      rw [usedT_t hi hh] at h
      rcases List.mem_append.1 h with h | h
      · exact usedT_range hf m (by omega) x h
      · simp only [List.mem_cons, List.not_mem_nil, or_false] at h
        omega
theorem used_dst1 {xs : List Question} (hf : isForm xs = true) {vd : Int} (hv : vd < 0) : ∀ m, m ≤ xs.length → ∀ x ∈ usedT xs m, dst xs vd x ≠ 1000 → dst xs vd 0 ≠ 1000
  | 0, _, x, h, hd => by
    simp [usedT] at h; subst h; exact hd
  | m + 1, hl, x, h, hd => by
    have hi : m < xs.length := by omega
    cases hh : hasI (usedT xs m) (m : Int) with
    | false => rw [usedT_f hi hh] at h; exact used_dst1 hf hv m (by omega) x h hd
    | true =>
      have key := used_dst1 hf hv m (by omega) (m : Int) (hasI_iff.1 hh)
      have e := dst_at hf hv hi
      have b0 := dst_le hf vd xs[m].No
      have b1 := dst_le hf vd xs[m].Yes
      rw [usedT_t hi hh] at h
      rcases List.mem_append.1 h with h | h
      · exact used_dst1 hf hv m (by omega) x h hd
      · simp only [List.mem_cons, List.not_mem_nil, or_false] at h
        rcases h with h | h
        · subst h; exact key (by omega)
        · subst h; exact key (by omega)
theorem used_dst2 {xs : List Question} (hf : isForm xs = true) {vd : Int} (hv : vd < 0) : ∀ (f : Nat) (v : Int), (v < 0 ∨ xs.length ≤ v + f) → v < xs.length → v ∈ usedL xs → dst xs vd v ≠ 1000 → vd ∈ usedL xs
  | f, v, hfu, hl, hm, hd => by
    by_cases h : v < 0
    · rw [dst_neg h] at hd
      by_cases e : v = vd
      · subst e; exact hm
      · rw [if_neg e] at hd; exact absurd rfl hd
    · match f with
      | 0 => omega
      | f + 1 =>
        obtain ⟨i, rfl⟩ : ∃ i : Nat, v = i := ⟨v.toNat, by omega⟩
        have hi : i < xs.length := by omega
        have e := dst_at hf hv hi
        have b0 := dst_le hf vd xs[i].No
        have b1 := dst_le hf vd xs[i].Yes
        have ny := form_yes hf hi
        have nn := form_no hf hi
        obtain ⟨u1, u2⟩ := used_next hf hi hm
        by_cases h1 : dst xs vd xs[i].Yes = 1000
        · exact used_dst2 hf hv f _ (by omega) (by omega) u2 (by omega)
        · exact used_dst2 hf hv f _ (by omega) (by omega) u1 h1
theorem used_iff {xs : List Question} (hf : isForm xs = true) {vd : Int} (hv : vd < 0) : vd ∈ usedL xs ↔ dst xs vd 0 ≠ 1000 := by
  have hl := isForm_len hf
  constructor
  · intro h
    exact used_dst1 hf hv _ (Nat.le_refl _) vd h (by rw [dst_neg hv]; simp)
  · exact used_dst2 hf hv xs.length 0 (.inr (by omega)) (by omega) (usedT_mono (k := 0) (by simp [usedT]) _ (by omega))
theorem bestL_mem {xs : List Question} {vd : Int} : ∀ (l : List (List Int)) (st : List Int × Int), bestL xs vd st l = st ∨ ((bestL xs vd st l).1 ∈ l ∧ (wayF xs (bestL xs vd st l).1).2 = vd)
  | [], st => .inl rfl
  | a :: r, st => by
    rw [bestL, List.foldl_cons]
    have ih := bestL_mem (xs := xs) (vd := vd) r (bestS xs vd st a)
    rw [bestL] at ih
    rcases ih with ih | ih
    · rw [ih]
      unfold bestS
      split
      · rename_i h; exact .inr ⟨List.mem_cons_self, h.1⟩
      · exact .inl rfl
    · exact .inr ⟨List.mem_cons_of_mem _ ih.1, ih.2⟩
theorem bestL_some {xs : List Question} {vd : Int} : ∀ (l : List (List Int)) (st : List Int × Int), (0 ≤ st.2 ∨ ∃ a ∈ l, (wayF xs a).2 = vd) → 0 ≤ (bestL xs vd st l).2
  | [], st, h => by
    rcases h with h | ⟨a, m, _⟩
    · exact h
    · cases m
  | a :: r, st, h => by
    rw [bestL, List.foldl_cons]
    have key := bestL_some (xs := xs) (vd := vd) r (bestS xs vd st a)
    rw [bestL] at key
    refine key ?_
    unfold bestS
    split
    · exact .inl (by simp only; omega)
    · rename_i hn
      rcases h with h | ⟨b, m, hb⟩
      · exact .inl h
      · rcases List.mem_cons.1 m with rfl | m
        · exact .inl (by omega)
        · exact .inr ⟨b, m, hb⟩
theorem gr_all {xs : List Question} (hf : isForm xs = true) {vd : Int} (hv : inR (-6) (-1) vd = true) (hd : dst xs vd 0 ≠ 1000) : gr xs vd xs.length (noneA xs) 0 ∈ allA xs ∧ (wayF xs (gr xs vd xs.length (noneA xs) 0)).2 = vd := by
  have h1 := best_all hf hv
  rw [if_neg hd] at h1
  have hb := dst_le hf vd 0
  rcases bestL_mem (vd := vd) (allA xs) ([], -1) with h | h
  · rw [h1, Prod.mk.injEq] at h; omega
  · rw [h1] at h; exact h
theorem all_verdict {xs : List Question} (hf : isForm xs = true) {vd : Int} (hv : inR (-6) (-1) vd = true) : (∃ a ∈ allA xs, (wayF xs a).2 = vd) ↔ vd ∈ usedL xs := by
  have hr := inR_iff.1 hv
  rw [used_iff hf (by omega)]
  constructor
  · intro h hd
    have h1 := best_all hf hv
    rw [if_pos hd] at h1
    have h2 := bestL_some (vd := vd) (allA xs) ([], -1) (.inr h)
    rw [h1] at h2; simp at h2
  · intro hd
    exact ⟨_, gr_all hf hv hd⟩
/-- all answers of the way, and none beside -/
def Tdy (xs : List Question) (az : List Int) : Prop := ∀ j : Nat, getI az j ≠ -1 → j < az.length → (j : Int) ∈ (wayF xs az).1
theorem getI_set {az : List Int} {v j : Nat} {a : Int} (hv : v < az.length) : getI (az.set v a) j = if v = j then a else getI az j := by
  unfold getI
  rw [List.getElem?_set]
  by_cases h : v = j
  · subst h; simp [hv]
  · simp [h]
theorem Tdy.step {xs : List Question} {az : List Int} (hf : isForm xs = true) {v : Nat} (hv : v < xs.length) (hs : St xs az v) (ht : Tdy xs az) {a : Int} (ha : 0 ≤ a) : Tdy xs (az.set v a) := by
  obtain ⟨hl, h⟩ := hs
  rw [if_neg (by omega)] at h
  obtain ⟨_, ho, l, e⟩ := h
  have hz : az[v]'(by omega) < 0 := by rw [ho v (by omega) (by omega)]; omega
  have k := wayG_set hf hl hv ha xs.length 0 l (by omega) (by omega) e hz
  have hsub : ∀ x ∈ l ++ [(v : Int)], x ∈ (wayF xs (az.set v a)).1 := by
    by_cases hn : follows xs[v] a < 0
    · rw [wayF, k.1 hn]; exact fun x m => m
    · obtain ⟨g, hg, e3⟩ := k.2 (by omega)
      rw [wayF, e3]
      intro x m
      simp only [List.mem_append, List.mem_cons, List.not_mem_nil, or_false] at m ⊢
      rcases m with m | m
      · exact .inl m
      · exact .inr (.inl m)
  intro j hj hj2
  rw [List.length_set] at hj2
  rw [getI_set (by omega)] at hj
  by_cases h2 : v = j
  · subst h2; exact hsub _ (by simp)
  · rw [if_neg h2] at hj
    have := ht j hj hj2
    rw [e] at this
    exact hsub _ this
theorem all_tdy {xs : List Question} (hf : isForm xs = true) : ∀ (f : Nat) (az : List Int) (v : Int), St xs az v → Tdy xs az → areAns xs az = true → (v < 0 ∨ xs.length ≤ v + f) → ∀ a ∈ allQ xs f az v, Tdy xs a ∧ areAns xs a = true ∧ (wayF xs a).2 < 0
  | f, az, v, hs, ht, hA, hfu, a, hm => by
    by_cases h : v < 0
    · have e : allQ xs f az v = [az] := by cases f <;> simp [allQ, h]
      rw [e, List.mem_singleton] at hm
      subst hm
      have h2 := hs.2; rw [if_pos h] at h2
      exact ⟨ht, hA, by omega⟩
    · match f with
      | 0 => have h2 := hs.2; rw [if_neg h] at h2; omega
      | f + 1 =>
        have hs1 := hs.2
        rw [if_neg h] at hs1
        obtain ⟨i, rfl⟩ : ∃ i : Nat, v = i := ⟨v.toNat, by omega⟩
        have hi : i < xs.length := by omega
        have s0 := St.step hf hi hs (a := 0) (by omega)
        have s1 := St.step hf hi hs (a := 1) (by omega)
        have t0 := Tdy.step hf hi hs ht (a := 0) (by omega)
        have t1 := Tdy.step hf hi hs ht (a := 1) (by omega)
        have n0 := isForm_next hf hi 0
        have n1 := isForm_next hf hi 1
        have e : allQ xs (f + 1) az i = allQ xs f (az.set i 0) (follows xs[i] 0) ++ allQ xs f (az.set i 1) (follows xs[i] 1) := by
          have h1 : ¬ ((i : Int) < 0) := by omega
          simp [allQ, h1, hi]
        rw [e] at hm
        rcases List.mem_append.1 hm with hm | hm
        · exact all_tdy hf f _ _ s0 t0 (areAns_set hA (by omega)) (by omega) a hm
        · exact all_tdy hf f _ _ s1 t1 (areAns_set hA (by omega)) (by omega) a hm
theorem getI_none (xs : List Question) (j : Nat) (h : j < (noneA xs).length) : getI (noneA xs) j = -1 := by
  rw [getI_at h]; simp [noneA]
theorem allA_tidy {xs : List Question} (hf : isForm xs = true) {a : List Int} (hm : a ∈ allA xs) : areAns xs a = true ∧ (wayF xs a).2 < 0 ∧ tidyL (wayF xs a).1 a = a := by
  rw [allA_eq hf] at hm
  obtain ⟨h1, h2, h3⟩ := all_tdy hf _ _ _ (St_none hf) (fun j hj hl => absurd (getI_none xs j hl) hj) (areAns_none xs) (.inr (by omega)) a hm
  refine ⟨h2, h3, ?_⟩
  apply List.ext_getElem (tidyL_length _ _)
  intro i hi1 hi2
  rw [tidyL_at hi2, tdF]
  split
  · rfl
  · rename_i hn
    by_cases e : a[i] = -1
    · exact e.symm
    · exact absurd (hasI_iff.2 (h1 i (by rw [getI_at hi2]; exact e) hi2)) hn
theorem way_used {xs : List Question} {az : List Int} (hf : isForm xs = true) : ∀ (f i : Nat), i < xs.length → (i : Int) ∈ usedL xs → ∀ x ∈ (wayG xs az f i).1, x ∈ usedL xs
  | 0, _, _, _, x, m => by simp [wayG] at m
  | f + 1, i, hi, hu, x, m => by
    unfold wayG at m
    split at m
    · rename_i a q ha hq
      have nx := isForm_next hf hi a
      have hq' : xs[i] = q := by rw [List.getElem?_eq_getElem hi] at hq; simpa using hq
      obtain ⟨u1, u2⟩ := used_next hf hi hu
      have un : follows xs[i] a ∈ usedL xs := by unfold follows; split; exact u1; exact u2
      rw [hq'] at nx un
      split at m
      · simp at m; subst m; exact hu
      · split at m
        · simp at m; subst m; exact hu
        · rcases List.mem_cons.1 m with m | m
          · subst m; exact hu
          · have e : (((follows q a).toNat : Nat) : Int) = follows q a := by omega
            exact way_used hf f _ (by omega) (by rw [e]; exact un) x m
    · simp at m
/-- sorted, each once -/
def srt (l : List Int) : List Int := Lib.compact (l.mergeSort fun x y => decide (x ≤ y))
theorem cmp_mem (d : Array Int) : ∀ m, ∀ x, x ∈ Lib.compactUpTo d m ↔ ∃ j, j < m ∧ d[j]! = x
  | 0, x => by simp [Lib.compactUpTo]
  | m + 1, x => by
    rw [Lib.compactUpTo_succ, List.mem_append, cmp_mem d m x]
    constructor
    · rintro (⟨j, hj, e⟩ | h)
      · exact ⟨j, by omega, e⟩
      · split at h
        · simp at h; exact ⟨m, by omega, h.symm⟩
        · cases h
    · rintro ⟨j, hj, e⟩
      by_cases hm : j = m
      · subst hm
        by_cases hk : Lib.keeps d j = true
        · exact .inr (by rw [if_pos hk]; simp [e])
        · have hk2 : ¬ (j = 0 ∨ d[j]! ≠ d[j - 1]!) := by simpa [Lib.keeps] using hk
          simp only [not_or, Decidable.not_not] at hk2
          exact .inl ⟨j - 1, by omega, by rw [← hk2.2]; exact e⟩
      · exact .inl ⟨j, by omega, e⟩
theorem cmp_sorted (d : Array Int) (hs : ∀ i j : Nat, i ≤ j → j < d.size → d[i]! ≤ d[j]!) : ∀ m, m ≤ d.size → (Lib.compactUpTo d m).Pairwise (· < ·)
  | 0, _ => by simp [Lib.compactUpTo]
  | m + 1, hm => by
    rw [Lib.compactUpTo_succ]
    by_cases hk : Lib.keeps d m = true
    · rw [if_pos hk, List.pairwise_append]
      refine ⟨cmp_sorted d hs m (by omega), by simp, fun x hx y hy => ?_⟩
      rw [List.mem_singleton] at hy
      subst hy
      obtain ⟨j, hj, e⟩ := (cmp_mem d m x).1 hx
      have hk2 : m = 0 ∨ d[m]! ≠ d[m - 1]! := by simpa [Lib.keeps] using hk
      have h1 := hs j (m - 1) (by omega) (by omega)
      have h2 := hs (m - 1) m (by omega) (by omega)
      rw [← e]
      rcases hk2 with hk2 | hk2
      · omega
      · omega
    · rw [if_neg hk, List.append_nil]; exact cmp_sorted d hs m (by omega)
theorem le_trans_b (a b c : Int) (h1 : (decide (a ≤ b)) = true) (h2 : (decide (b ≤ c)) = true) : (decide (a ≤ c)) = true := by simp only [decide_eq_true_eq] at *; omega
theorem le_total_b (a b : Int) : (decide (a ≤ b) || decide (b ≤ a)) = true := by simp only [Bool.or_eq_true, decide_eq_true_eq]; omega
theorem srt_mem {l : List Int} {x : Int} : x ∈ srt l ↔ x ∈ l := by
  rw [srt, Lib.compact, cmp_mem, ← List.mem_mergeSort (le := fun x y => decide (x ≤ y)) (l := l)]
  generalize l.mergeSort (fun x y => decide (x ≤ y)) = s
  rw [List.mem_iff_getElem]
  constructor
  · rintro ⟨j, hj, e⟩
    exact ⟨j, hj, by rw [← e]; simp [hj]⟩
  · rintro ⟨j, hj, e⟩
    exact ⟨j, hj, by rw [← e]; simp [hj]⟩
theorem srt_sorted (l : List Int) : (srt l).Pairwise (· < ·) := by
  refine cmp_sorted _ (fun i j hij hj => ?_) _ (by simp)
  have h := List.pairwise_mergeSort le_trans_b le_total_b l
  simp only [List.size_toArray] at hj
  generalize (l.mergeSort fun x y => decide (x ≤ y)) = s at *
  have hi : i < s.length := by omega
  rcases Nat.lt_or_ge i j with h1 | h1
  · have := List.pairwise_iff_getElem.1 h i j hi hj h1
    simp only [decide_eq_true_eq] at this
    simpa [hi, hj] using this
  · have : i = j := by omega
    subst this; exact Int.le_refl _
theorem srt_len (l : List Int) : (srt l).length ≤ l.length := by
  rw [srt, Lib.compact, Lib.compactUpTo, List.length_map]
  refine Nat.le_trans (List.length_filter_le _ _) ?_
  simp
theorem hasI_srt (l : List Int) (x : Int) : hasI (srt l) x = hasI l x := by
  rw [Bool.eq_iff_iff, hasI_iff, hasI_iff, srt_mem]
theorem sorted_ext : ∀ {l m : List Int}, l.Pairwise (· < ·) → m.Pairwise (· < ·) → (∀ x, x ∈ l ↔ x ∈ m) → l = m
  | [], [], _, _, _ => rfl
  | [], y :: _, _, _, h => by have := (h y).2 List.mem_cons_self; cases this
  | x :: _, [], _, _, h => by have := (h x).1 List.mem_cons_self; cases this
  | x :: r, y :: s, h1, h2, h => by
    have a1 := (List.pairwise_cons.1 h1)
    have a2 := (List.pairwise_cons.1 h2)
    have e : x = y := by
      have b1 := (h x).1 List.mem_cons_self
      have b2 := (h y).2 List.mem_cons_self
      rcases List.mem_cons.1 b1 with b1 | b1
      · exact b1
      · rcases List.mem_cons.1 b2 with b2 | b2
        · exact b2.symm
        · have := a1.1 y b2; have := a2.1 x b1; omega
    subst e
    rw [sorted_ext a1.2 a2.2 (fun z => ?_)]
    constructor
    · intro hz
      rcases List.mem_cons.1 ((h z).1 (List.mem_cons_of_mem _ hz)) with e | e
      · have := a1.1 z hz; omega
      · exact e
    · intro hz
      rcases List.mem_cons.1 ((h z).2 (List.mem_cons_of_mem _ hz)) with e | e
      · have := a2.1 z hz; omega
      · exact e
/-- a number put into a sorted list -/
def insI : List Int → Int → List Int
  | [], n => [n]
  | x :: r, n => if x < n then x :: insI r n else if x = n then x :: r else n :: x :: r
theorem insI_mem {n : Int} : ∀ {l : List Int} {x : Int}, x ∈ insI l n ↔ x = n ∨ x ∈ l
  | [], x => by simp [insI]
  | y :: r, x => by
    unfold insI
    split
    · rw [List.mem_cons, insI_mem, List.mem_cons]
      constructor
      · rintro (h | h | h); exact .inr (.inl h); exact .inl h; exact .inr (.inr h)
      · rintro (h | h | h); exact .inr (.inl h); exact .inl h; exact .inr (.inr h)
    · split
      · rename_i h; subst h; simp
      · simp
theorem insI_sorted {n : Int} : ∀ {l : List Int}, l.Pairwise (· < ·) → (insI l n).Pairwise (· < ·)
  | [], _ => by simp [insI]
  | y :: r, h => by
    obtain ⟨h1, h2⟩ := List.pairwise_cons.1 h
    unfold insI
    split
    · rename_i hlt
      refine List.Pairwise.cons (fun x hx => ?_) (insI_sorted h2)
      rcases insI_mem.1 hx with e | e
      · omega
      · exact h1 x e
    · split
      · exact h
      · rename_i ha hb
        refine List.Pairwise.cons (fun x hx => ?_) h
        rcases List.mem_cons.1 hx with e | e
        · omega
        · have := h1 x e; omega
theorem insI_at {n : Int} : ∀ {l : List Int} {i : Nat}, i ≤ l.length → (∀ j (hj : j < l.length), j < i → l[j] < n) → (∀ h : i < l.length, ¬ l[i] < n) → insI l n = if ∃ h : i < l.length, l[i] = n then l else l.take i ++ n :: l.drop i
  | [], i, hi, _, _ => by
    have : i = 0 := by simpa using hi
    subst this; simp [insI]
  | y :: r, 0, _, _, h2 => by
    have := h2 (by simp)
    simp only [List.getElem_cons_zero] at this
    unfold insI
    rw [if_neg this]
    by_cases e : y = n
    · rw [if_pos e, if_pos ⟨by simp, by simpa using e⟩]
    · rw [if_neg e, if_neg (by rintro ⟨_, h⟩; exact e (by simpa using h))]; simp
  | y :: r, i + 1, hi, h1, h2 => by
    have h0 := h1 0 (by simp) (by omega)
    simp only [List.getElem_cons_zero] at h0
    unfold insI
    rw [if_pos h0, insI_at (l := r) (i := i) (by simpa using hi) (fun j hj hji => h1 (j + 1) (by simpa using hj) (by omega)) (fun h => h2 (by simpa using h))]
    by_cases e : ∃ h : i < r.length, r[i] = n
    · rw [if_pos e, if_pos (by obtain ⟨h, e⟩ := e; exact ⟨by simpa using h, by simpa using e⟩)]
    · rw [if_neg e, if_neg (by rintro ⟨h, e2⟩; exact e ⟨by simpa using h, by simpa using e2⟩)]; simp
def insAll (st : List Int) (l : List Int) : List Int := l.foldl insI st
theorem insAll_mem : ∀ {l st : List Int} {x : Int}, x ∈ insAll st l ↔ x ∈ st ∨ x ∈ l
  | [], st, x => by simp [insAll]
  | y :: r, st, x => by
    have := insAll_mem (l := r) (st := insI st y) (x := x)
    rw [insAll] at this
    rw [insAll, List.foldl_cons, this, insI_mem, List.mem_cons]
    constructor
    · rintro ((h | h) | h); exact .inr (.inl h); exact .inl h; exact .inr (.inr h)
    · rintro (h | h | h); exact .inl (.inr h); exact .inl (.inl h); exact .inr h
theorem insAll_sorted : ∀ {l st : List Int}, st.Pairwise (· < ·) → (insAll st l).Pairwise (· < ·)
  | [], st, h => h
  | y :: r, st, h => by
    rw [insAll, List.foldl_cons]
    exact insAll_sorted (l := r) (insI_sorted h)
theorem wayG_range {xs : List Question} {az : List Int} (hf : isForm xs = true) : ∀ (f i : Nat), i < xs.length → (wayG xs az f i).2 < 0 → -6 ≤ (wayG xs az f i).2
  | 0, _, _, h => by simp [wayG] at h
  | f + 1, i, hi, h => by
    unfold wayG at h ⊢
    split at h
    · rename_i a q ha hq
      have nx := isForm_next hf hi a
      have hq' : xs[i] = q := by rw [List.getElem?_eq_getElem hi] at hq; simpa using hq
      rw [hq'] at nx
      by_cases h1 : a < 0
      · rw [if_pos h1] at h; simp at h
      · rw [if_neg h1] at h ⊢
        by_cases h2 : follows q a < 0
        · rw [if_pos h2]; simp only; omega
        · rw [if_neg h2] at h ⊢
          exact wayG_range hf f _ (by omega) h
    · simp at h
theorem wayF_range {xs : List Question} {az : List Int} (hf : isForm xs = true) (h : (wayF xs az).2 < 0) : -6 ≤ (wayF xs az).2 :=
  wayG_range hf _ 0 (by have := isForm_len hf; omega) h
def negs (l : List Int) : List Int := l.filter fun n => decide (n < 0)
def verdictsOf (xs : List Question) : List Int × Int := if isForm xs = false then ([], 1) else (negs (srt (usedL xs)), 0)
theorem verdicts_mem {xs : List Question} {v : Int} : v ∈ negs (srt (usedL xs)) ↔ v ∈ usedL xs ∧ v < 0 := by
  simp [negs, srt_mem]
theorem verdicts_eq {xs : List Question} (hf : isForm xs = true) : insAll [] ((allA xs).map fun a => (wayF xs a).2) = negs (srt (usedL xs)) := by
  refine sorted_ext (insAll_sorted .nil) ((srt_sorted _).filter _) fun v => ?_
  rw [insAll_mem, verdicts_mem]
  simp only [List.not_mem_nil, false_or, List.mem_map]
  constructor
  · rintro ⟨a, ha, e⟩
    obtain ⟨h1, h2, _⟩ := allA_tidy hf ha
    have hr := wayF_range hf h2
    exact ⟨(all_verdict hf (by rw [inR_iff]; omega)).1 ⟨a, ha, e⟩, by omega⟩
  · rintro ⟨h1, h2⟩
    have := usedT_range hf _ (Nat.le_refl _) v h1
    exact (all_verdict hf (by rw [inR_iff]; omega)).2 h1
def unusedL (xs : List Question) : List Int := ((List.range xs.length).filter fun (i : Nat) => !hasI (usedL xs) (i : Int)).map fun (i : Nat) => (i : Int)
def unusedTo (xs : List Question) (k : Nat) : List Int := ((List.range k).filter fun (i : Nat) => !hasI (usedL xs) (i : Int)).map fun (i : Nat) => (i : Int)
theorem unusedTo_len (xs : List Question) (k : Nat) : (unusedTo xs k).length ≤ k := by
  rw [unusedTo, List.length_map]; exact Nat.le_trans (List.length_filter_le _ _) (by simp)
theorem unusedTo_t {xs : List Question} {k : Nat} {ys : List Int} (h : ys = unusedTo xs k) (hh : hasI (usedL xs) (k : Int) = false) : ys ++ [(k : Int)] = unusedTo xs (k + 1) := by
  rw [h, unusedTo, unusedTo, List.range_succ, List.filter_append, List.map_append]; simp [hh]
theorem unusedTo_f {xs : List Question} {k : Nat} {ys : List Int} (h : ys = unusedTo xs k) (hh : hasI (usedL xs) (k : Int) = true) : ys = unusedTo xs (k + 1) := by
  rw [h, unusedTo, unusedTo, List.range_succ, List.filter_append, List.map_append]; simp [hh]
def unusedQ (xs : List Question) : List Int × Int := if isForm xs = false then ([], 1) else (unusedL xs, 0)
theorem unusedQ_len (xs : List Question) : (unusedQ xs).1.length ≤ 10 := by
  unfold unusedQ
  split
  · simp
  · rename_i h
    have := isForm_len (by simpa using h : isForm xs = true)
    exact Nat.le_trans (unusedTo_len xs xs.length) this.2
theorem verdictsOf_len (xs : List Question) : (verdictsOf xs).1.length ≤ 21 := by
  unfold verdictsOf
  split
  · simp
  · rename_i h
    have h1 := isForm_len (by simpa using h : isForm xs = true)
    have h2 := usedT_len xs xs.length
    have h3 := srt_len (usedL xs)
    refine Nat.le_trans (List.length_filter_le _ _) (Nat.le_trans h3 ?_)
    unfold usedL; omega
theorem nodup_len : ∀ {l m : List Int}, l.Pairwise (· < ·) → (∀ x ∈ l, x ∈ m) → l.length ≤ m.length
  | [], _, _, _ => by simp
  | x :: r, m, h, hs => by
    obtain ⟨h1, h2⟩ := List.pairwise_cons.1 h
    have hx := hs x List.mem_cons_self
    have := nodup_len (l := r) (m := m.erase x) h2 (fun y hy => by
      have h3 := h1 y hy
      exact (List.mem_erase_of_ne (by omega)).2 (hs y (List.mem_cons_of_mem _ hy)))
    rw [List.length_erase_of_mem hx] at this
    have := List.length_pos_of_mem hx
    simp only [List.length_cons]; omega
/-- there are at least as many tidy answers as verdicts -/
theorem ways_verdicts {xs : List Question} (hf : isForm xs = true) : (negs (srt (usedL xs))).length ≤ cnt xs 0 := by
  rw [← allA_len hf]
  have := nodup_len (m := (allA xs).map fun a => (wayF xs a).2) ((srt_sorted (usedL xs)).filter fun n => decide (n < 0)) (fun v hv => by
    obtain ⟨h1, h2⟩ := verdicts_mem.1 hv
    have hr := usedT_range hf _ (Nat.le_refl _) v h1
    obtain ⟨a, ha, e⟩ := (all_verdict hf (by rw [inR_iff]; omega)).2 h1
    exact List.mem_map.2 ⟨a, ha, e⟩)
  simpa [negs] using this
theorem verdicts_answers {xs : List Question} (hf : isForm xs = true) (vd : Int) : ((answersFor xs vd).2 = 0) ↔ hasI (verdictsOf xs).1 vd = true := by
  rw [hasI_iff, verdictsOf, if_neg (by simp [hf])]
  simp only [verdicts_mem]
  rw [answersFor, if_neg (by simp [hf])]
  by_cases h : inR (-6) (-1) vd = false
  · rw [if_pos h]
    simp only [Int.reduceEq, false_iff, not_and]
    intro h1 h2
    have := usedT_range hf _ (Nat.le_refl _) vd h1
    rw [inR_iff.2 (by omega)] at h; cases h
  · have h' : inR (-6) (-1) vd = true := by simpa using h
    have hr := inR_iff.1 h'
    rw [if_neg h, used_iff hf (by omega)]
    by_cases hd : dst xs vd 0 = 1000
    · simp [hd]
    · simp [hd]; omega
/-- what the answers for a verdict say -/
theorem answers_for {xs : List Question} {vd : Int} (h : (answersFor xs vd).2 = 0) : isForm xs = true ∧ isTidy xs (answersFor xs vd).1 = (true, 0) ∧ verdictOf xs (answersFor xs vd).1 = (vd, 0) ∧ (wayOf xs (answersFor xs vd).1).2 = 0 ∧ ∀ x ∈ (wayOf xs (answersFor xs vd).1).1, x ∈ usedL xs := by
  unfold answersFor at h ⊢
  by_cases h1 : isForm xs = false
  · rw [if_pos h1] at h; simp at h
  · have hf : isForm xs = true := by simpa using h1
    rw [if_neg h1] at h ⊢
    by_cases h2 : inR (-6) (-1) vd = false
    · rw [if_pos h2] at h; simp at h
    · have hv : inR (-6) (-1) vd = true := by simpa using h2
      rw [if_neg h2] at h ⊢
      by_cases h3 : dst xs vd 0 = 1000
      · rw [if_pos h3] at h; simp at h
      · rw [if_neg h3]
        have hr := inR_iff.1 hv
        obtain ⟨hm, he⟩ := gr_all hf hv h3
        simp only
        generalize gr xs vd xs.length (noneA xs) 0 = a at *
        obtain ⟨hA, _, ht⟩ := allA_tidy hf hm
        have e := formCode_of hf hA
        refine ⟨hf, ?_, ?_, ?_, ?_⟩
        · rw [isTidy, if_neg (by simp [e]), if_neg (by omega), ht, eqL_refl eqI_refl]
        · rw [verdictOf, if_neg (by simp [e]), if_neg (by omega), he]
        · rw [wayOf, if_neg (by simp [e])]
        · rw [wayOf, if_neg (by simp [e])]
          have hl := isForm_len hf
          exact way_used hf _ 0 (by omega) (usedT_mono (k := 0) (by simp [usedT]) _ (by omega))
theorem unused_not {xs : List Question} {x : Int} (h : x ∈ usedL xs) : hasI (unusedQ xs).1 x = false := by
  rw [Bool.eq_false_iff, ne_eq, hasI_iff, unusedQ]
  split
  · simp
  · simp only [unusedL, List.mem_map, List.mem_filter]
    rintro ⟨i, ⟨_, h2⟩, rfl⟩
    rw [hasI_iff.2 h] at h2; cases h2

end Go.Proofs.Ytinpkihmkfiidaa
