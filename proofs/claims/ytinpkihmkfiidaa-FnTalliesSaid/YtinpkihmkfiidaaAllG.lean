/-
  All tidy answers, in plain words. No condition beyond those written in each theorem.
-/
import Derived.Test.YtinpkihmkfiidaaTidy
namespace Go.Proofs.Ytinpkihmkfiidaa
open Go.RowKit
set_option linter.unusedVariables false
set_option linter.unusedSimpArgs false
set_option linter.unusedSectionVars false
set_option maxRecDepth 4000

/-- the last question of the way -/
def lastQ (l : List Int) : Nat := (l.getLast?.getD 0).toNat
def allG (xs : List Question) : Nat → List Int → List (List Int)
  | 0, _ => []
  | f + 1, az => if (wayF xs az).2 < 0 then [az] else allG xs f (az.set (lastQ (wayF xs az).1) 0) ++ allG xs f (az.set (lastQ (wayF xs az).1) 1)
theorem allG_len (xs : List Question) : ∀ (f : Nat) (az : List Int), (allG xs f az).length ≤ 2 ^ f
  | 0, _ => by simp [allG]
  | f + 1, az => by
    unfold allG; split
    · have := Nat.one_le_two_pow (n := f + 1); simpa using this
    · have h1 := allG_len xs f (az.set (lastQ (wayF xs az).1) 0)
      have h2 := allG_len xs f (az.set (lastQ (wayF xs az).1) 1)
      rw [List.length_append, Nat.pow_succ]; omega
/-- the same, led by what stands behind the way -/
def allQ (xs : List Question) : Nat → List Int → Int → List (List Int)
  | 0, az, v => if v < 0 then [az] else []
  | f + 1, az, v => if v < 0 then [az] else match xs[v.toNat]? with
    | some q => allQ xs f (az.set v.toNat 0) (follows q 0) ++ allQ xs f (az.set v.toNat 1) (follows q 1)
    | none => []
def cntG (xs : List Question) : Nat → Int → Nat
  | 0, v => if v < 0 then 1 else 0
  | f + 1, v => if v < 0 then 1 else match xs[v.toNat]? with
    | some q => cntG xs f (follows q 0) + cntG xs f (follows q 1)
    | none => 0
theorem allQ_cnt (xs : List Question) : ∀ (f : Nat) (az : List Int) (v : Int), (allQ xs f az v).length = cntG xs f v
  | 0, az, v => by unfold allQ cntG; split <;> rfl
  | f + 1, az, v => by
    unfold allQ cntG; split
    · rfl
    · cases xs[v.toNat]? with
      | none => rfl
      | some q => simp only [List.length_append]; rw [allQ_cnt xs f, allQ_cnt xs f]
theorem cntG_le (xs : List Question) : ∀ (f : Nat) (v : Int), cntG xs f v ≤ 2 ^ f
  | 0, v => by unfold cntG; split <;> simp
  | f + 1, v => by
    have := Nat.one_le_two_pow (n := f + 1)
    unfold cntG; split
    · exact this
    · cases xs[v.toNat]? with
      | none => simp
      | some q =>
        have h1 := cntG_le xs f (follows q 0); have h2 := cntG_le xs f (follows q 1)
        simp only; rw [Nat.pow_succ]; omega
theorem cntG_neg {xs : List Question} {f : Nat} {v : Int} (h : v < 0) : cntG xs f v = 1 := by
  cases f <;> simp [cntG, h]
theorem cntG_pos {xs : List Question} {f : Nat} {i : Nat} (h : i < xs.length) : cntG xs (f + 1) i = cntG xs f xs[i].No + cntG xs f xs[i].Yes := by
  have h1 : ¬ ((i : Int) < 0) := by omega
  simp [cntG, h1, h, follows]
theorem cntG_fuel {xs : List Question} (hf : isForm xs = true) : ∀ (f g : Nat) (v : Int), v < xs.length → xs.length ≤ v + f → xs.length ≤ v + g → cntG xs f v = cntG xs g v
  | f, g, v, hv, h1, h2 => by
    by_cases h : v < 0
    · rw [cntG_neg h, cntG_neg h]
    · match f, g with
      | 0, _ => omega
      | _ + 1, 0 => omega
      | f + 1, g + 1 =>
        have hi : v.toNat < xs.length := by omega
        have e : ((v.toNat : Nat) : Int) = v := by omega
        rw [← e, cntG_pos hi, cntG_pos hi]
        have n0 := isForm_next hf hi 0
        have n1 := isForm_next hf hi 1
        simp only [follows] at n0 n1
        have sg : ∀ u : Int, (u < 0 ∨ (v.toNat : Int) + 1 ≤ u ∧ u ≤ (xs.length : Int) - 1) → cntG xs f u = cntG xs g u := by
          intro u hu
          rcases hu with hu | hu
          · rw [cntG_neg hu, cntG_neg hu]
          · exact cntG_fuel hf f g u (by omega) (by omega) (by omega)
        rw [sg _ (by rcases n0 with h | h; exact .inl h.1; exact .inr h), sg _ (by rcases n1 with h | h; exact .inl h.1; exact .inr h)]
def cnt (xs : List Question) (v : Int) : Nat := cntG xs xs.length v
theorem cnt_le {xs : List Question} (hf : isForm xs = true) (v : Int) : cnt xs v ≤ 1024 :=
  Nat.le_trans (cntG_le xs _ v) (Nat.pow_le_pow_right (by omega) (isForm_len hf).2)
theorem cnt_neg {xs : List Question} {v : Int} (h : v < 0) : cnt xs v = 1 := cntG_neg h
theorem cnt_pos {xs : List Question} (hf : isForm xs = true) {i : Nat} (h : i < xs.length) : cnt xs i = cnt xs xs[i].No + cnt xs xs[i].Yes := by
  have h1 := isForm_len hf
  have e : xs.length = (xs.length - 1) + 1 := by omega
  unfold cnt
  conv => lhs; rw [e]
  rw [cntG_pos h]
  have n0 := isForm_next hf h 0
  have n1 := isForm_next hf h 1
  simp only [follows] at n0 n1
  have sg : ∀ u : Int, (u < 0 ∨ (i : Int) + 1 ≤ u ∧ u ≤ (xs.length : Int) - 1) → cntG xs (xs.length - 1) u = cntG xs xs.length u := by
    intro u hu
    rcases hu with hu | hu
    · rw [cntG_neg hu, cntG_neg hu]
    · exact cntG_fuel hf _ _ u (by omega) (by omega) (by omega)
  rw [sg _ (by rcases n0 with h | h; exact .inl h.1; exact .inr h), sg _ (by rcases n1 with h | h; exact .inl h.1; exact .inr h)]

/-- the way after its last question has got an answer -/
theorem wayG_set {xs : List Question} {az : List Int} (hf : isForm xs = true) (hl : az.length = xs.length) {v : Nat} (hv : v < xs.length) {a : Int} (ha : 0 ≤ a) :
    ∀ (f i : Nat) (l : List Int), i < xs.length → xs.length ≤ i + f → wayG xs az f i = (l ++ [(v : Int)], 0) → az[v]'(by omega) < 0 →
    ((follows xs[v] a < 0 → wayG xs (az.set v a) f i = (l ++ [(v : Int)], follows xs[v] a)) ∧
     (∀ h : 0 ≤ follows xs[v] a, ∃ g, xs.length ≤ (follows xs[v] a).toNat + g ∧ wayG xs (az.set v a) f i = (l ++ (v : Int) :: (wayG xs (az.set v a) g (follows xs[v] a).toNat).1, (wayG xs (az.set v a) g (follows xs[v] a).toNat).2)))
  | 0, i, l, hi, hfu, _, _ => by omega
  | f + 1, i, l, hi, hfu, hw, hz => by
    have hi2 : i < az.length := by omega
    have hset : i < (az.set v a).length := by rw [List.length_set]; exact hi2
    have nx := isForm_next hf hi (az[i])
    have nxa := isForm_next hf hv a
    by_cases hneg : az[i] < 0
    · rw [wayG_none hi2 hi hneg] at hw
      have h1 : l = [] ∧ (i : Int) = v := by
        cases l with
        | nil => simpa using hw
        | cons x r => simp at hw
      obtain ⟨rfl, hiv⟩ := h1
      have : i = v := by omega
      subst this
      have hs : (az.set i a)[i]'hset = a := by simp
      refine ⟨fun h => ?_, fun h => ⟨f, by omega, ?_⟩⟩
      · rw [wayG_end hset hi (by rw [hs]; omega) (by rw [hs]; exact h), hs]; rfl
      · rw [wayG_on hset hi (by rw [hs]; omega) (by rw [hs]; omega), hs]; rfl
    · by_cases hend : follows xs[i] az[i] < 0
      · rw [wayG_end hi2 hi hneg hend] at hw
        simp only [Prod.mk.injEq] at hw
        omega
      · rw [wayG_on hi2 hi hneg hend] at hw
        have hne : i ≠ v := by intro h; subst h; exact hneg hz
        have hs : (az.set v a)[i]'hset = az[i] := by rw [List.getElem_set_ne (fun h => hne h.symm)]
        have hl2 : ∃ r, l = (i : Int) :: r := by
          cases l with
          | nil =>
            simp only [List.nil_append, Prod.mk.injEq, List.cons.injEq] at hw
            omega
          | cons x r =>
            simp only [List.cons_append, Prod.mk.injEq, List.cons.injEq] at hw
            exact ⟨r, by rw [hw.1.1]⟩
        obtain ⟨r, rfl⟩ := hl2
        simp only [List.cons_append, Prod.mk.injEq, List.cons.injEq, true_and] at hw
        have ih := wayG_set hf hl hv ha f (follows xs[i] az[i]).toNat r (by omega) (by omega) (Prod.ext hw.1 hw.2) hz
        refine ⟨fun h => ?_, fun h => ?_⟩
        · rw [wayG_on hset hi (by rw [hs]; exact hneg) (by rw [hs]; exact hend), hs, ih.1 h]; rfl
        · obtain ⟨g, hg, e⟩ := ih.2 h
          exact ⟨g, hg, by rw [wayG_on hset hi (by rw [hs]; exact hneg) (by rw [hs]; exact hend), hs, e]; rfl⟩
/-- a way that has no verdict ends at a question without an answer -/
theorem wayG_last {xs : List Question} {az : List Int} (hf : isForm xs = true) (hl : az.length = xs.length) : ∀ (f i : Nat), i < xs.length → xs.length ≤ i + f → 0 ≤ (wayG xs az f i).2 →
    ∃ (l : List Int) (v : Nat) (hv : v < xs.length), wayG xs az f i = (l ++ [(v : Int)], 0) ∧ az[v]'(by omega) < 0 ∧ i ≤ v
  | 0, i, hi, hfu, _ => by omega
  | f + 1, i, hi, hfu, hw => by
    have hi2 : i < az.length := by omega
    have nx := isForm_next hf hi (az[i])
    by_cases hneg : az[i] < 0
    · exact ⟨[], i, hi, by rw [wayG_none hi2 hi hneg]; rfl, hneg, Nat.le_refl _⟩
    · by_cases hend : follows xs[i] az[i] < 0
      · rw [wayG_end hi2 hi hneg hend] at hw; simp only at hw; omega
      · rw [wayG_on hi2 hi hneg hend] at hw ⊢
        obtain ⟨l, v, hv, e, hz, hiv⟩ := wayG_last hf hl f (follows xs[i] az[i]).toNat (by omega) (by omega) hw
        exact ⟨(i : Int) :: l, v, hv, by rw [e]; rfl, hz, by omega⟩
theorem wayF_last {xs : List Question} {az : List Int} (hf : isForm xs = true) (hl : az.length = xs.length) (h : ¬ (wayF xs az).2 < 0) :
    ∃ (l : List Int) (v : Nat) (hv : v < xs.length), wayF xs az = (l ++ [(v : Int)], 0) ∧ az[v]'(by omega) < 0 ∧ lastQ (wayF xs az).1 = v := by
  obtain ⟨l, v, hv, e, hz, _⟩ := wayG_last hf hl xs.length 0 (by have := isForm_len hf; omega) (by omega) (by simpa [wayF] using h)
  exact ⟨l, v, hv, e, hz, by rw [wayF, e]; simp [lastQ]⟩
theorem lastQ_step {xs : List Question} {az : List Int} (hf : isForm xs = true) (hl : az.length = xs.length) (h : ¬ (wayF xs az).2 < 0) {a : Int} (ha : 0 ≤ a) {az' : List Int} (e' : az' = az.set (lastQ (wayF xs az).1) a) (h' : ¬ (wayF xs az').2 < 0) :
    lastQ (wayF xs az).1 + 1 ≤ lastQ (wayF xs az').1 := by
  obtain ⟨l, v, hv, e, hz, hq⟩ := wayF_last hf hl h
  rw [hq] at e' ⊢
  subst e'
  have hl' : (az.set v a).length = xs.length := by rw [List.length_set]; exact hl
  obtain ⟨l2, v2, hv2, e2, hz2, hq2⟩ := wayF_last hf hl' h'
  rw [hq2]
  have k := wayG_set hf hl hv ha xs.length 0 l (by omega) (by omega) e hz
  have nxa := isForm_next hf hv a
  by_cases hn : follows xs[v] a < 0
  · have := k.1 hn
    rw [wayF, this] at h'; exact absurd hn h'
  · obtain ⟨g, hg, e3⟩ := k.2 (by omega)
    have h4 : 0 ≤ (wayG xs (az.set v a) g (follows xs[v] a).toNat).2 := by
      have : (wayF xs (az.set v a)).2 = (wayG xs (az.set v a) g (follows xs[v] a).toNat).2 := by rw [wayF, e3]
      omega
    obtain ⟨l5, v5, hv5, e5, _, h5⟩ := wayG_last hf hl' g _ (by omega) hg h4
    rw [wayF, e3, e5] at e2
    simp only [Prod.mk.injEq] at e2
    have h7 : l ++ (v : Int) :: (l5 ++ [(v5 : Int)]) = (l ++ (v : Int) :: l5) ++ [(v5 : Int)] := by simp
    have h8 := e2.1
    rw [h7] at h8
    have h6 := (List.append_inj' h8 rfl).2
    have h9 : (v5 : Int) = v2 := by simpa using h6
    omega
/-- all is open from v on, and the way ends there -/
def St (xs : List Question) (az : List Int) (v : Int) : Prop :=
  az.length = xs.length ∧ if v < 0 then (wayF xs az).2 = v else v < xs.length ∧ (∀ j (hj : j < az.length), v ≤ j → az[j] = -1) ∧ ∃ l, wayF xs az = (l ++ [v], 0)
theorem St.step {xs : List Question} {az : List Int} (hf : isForm xs = true) {v : Nat} (hv : v < xs.length) (h : St xs az v) {a : Int} (ha : 0 ≤ a) : St xs (az.set v a) (follows xs[v] a) := by
  obtain ⟨hl, h⟩ := h
  rw [if_neg (by omega)] at h
  obtain ⟨_, ho, l, e⟩ := h
  have hl' : (az.set v a).length = xs.length := by rw [List.length_set]; exact hl
  have hz : az[v]'(by omega) < 0 := by rw [ho v (by omega) (by omega)]; omega
  have k := wayG_set hf hl hv ha xs.length 0 l (by omega) (by omega) e hz
  have nxa := isForm_next hf hv a
  refine ⟨hl', ?_⟩
  split
  · rename_i hn
    rw [wayF, k.1 hn]
  · rename_i hn
    obtain ⟨g, hg, e3⟩ := k.2 (by omega)
    refine ⟨by omega, fun j hj h1 => ?_, ⟨l ++ [(v : Int)], ?_⟩⟩
    · rw [List.getElem_set_ne (by omega)]; exact ho j (by simpa using hj) (by omega)
    · have hi : (follows xs[v] a).toNat < (az.set v a).length := by omega
      have hu : (az.set v a)[(follows xs[v] a).toNat] = -1 := by
        rw [List.getElem_set_ne (by omega)]; exact ho _ (by simpa using hi) (by omega)
      have hg1 : g = (g - 1) + 1 := by omega
      have e4 : wayG xs (az.set v a) g (follows xs[v] a).toNat = ([(((follows xs[v] a).toNat : Nat) : Int)], 0) := by
        rw [hg1]; exact wayG_none hi (by omega) (by rw [hu]; omega)
      rw [wayF, e3, e4]
      have : (((follows xs[v] a).toNat : Nat) : Int) = follows xs[v] a := by omega
      simp [this]
theorem allG_allQ {xs : List Question} (hf : isForm xs = true) : ∀ (f : Nat) (az : List Int) (v : Int), St xs az v → xs.length ≤ v + f ∨ v < 0 → allG xs (f + 1) az = allQ xs f az v
  | f, az, v, hs, hfu => by
    by_cases h : v < 0
    · have := hs.2; rw [if_pos h] at this
      rw [allG, if_pos (by omega)]
      cases f <;> simp [allQ, h]
    · have h2 := hs.2; rw [if_neg h] at h2
      obtain ⟨hv, ho, l, e⟩ := h2
      have hv' : v.toNat < xs.length := by omega
      have ev : ((v.toNat : Nat) : Int) = v := by omega
      have hq : lastQ (wayF xs az).1 = v.toNat := by rw [e]; simp [lastQ]
      match f with
      | 0 => omega
      | f + 1 =>
        have hs' : St xs az ((v.toNat : Nat) : Int) := by rw [ev]; exact hs
        have s0 := St.step hf hv' hs' (a := 0) (by omega)
        have s1 := St.step hf hv' hs' (a := 1) (by omega)
        have n0 := isForm_next hf hv' 0
        have n1 := isForm_next hf hv' 1
        rw [allG, if_neg (by rw [e]; simp), hq, allG_allQ hf f _ _ s0 (by omega), allG_allQ hf f _ _ s1 (by omega)]
        simp [allQ, h, hv']
def noneA (xs : List Question) : List Int := List.replicate xs.length (-1)
theorem St_none {xs : List Question} (hf : isForm xs = true) : St xs (noneA xs) 0 := by
  have hl := isForm_len hf
  refine ⟨by simp [noneA], ?_⟩
  rw [if_neg (by omega)]
  refine ⟨by omega, fun j hj _ => by simp [noneA], [], ?_⟩
  have e : xs.length = (xs.length - 1) + 1 := by omega
  unfold wayF
  conv => lhs; rw [e]
  rw [wayG_none (by simp [noneA]; omega) (by omega) (by simp [noneA])]; rfl
theorem areAns_none (xs : List Question) : areAns xs (noneA xs) = true := by
  simp only [areAns, Bool.and_eq_true, decide_eq_true_eq]
  refine ⟨allB_iff.2 fun i hi => ?_, by simp [noneA]⟩
  rw [allI_of hi]; simp [noneA, inR]
theorem areAns_set {xs : List Question} {az : List Int} (h : areAns xs az = true) {i : Nat} {a : Int} (ha : -1 ≤ a ∧ a ≤ 1) : areAns xs (az.set i a) = true := by
  have hl := areAns_len h
  simp only [areAns, Bool.and_eq_true, decide_eq_true_eq]
  refine ⟨allB_iff.2 fun j hj => ?_, by rw [List.length_set]; exact hl⟩
  rw [allI_of hj, List.getElem_set]
  have hj' : j < az.length := by simpa using hj
  have := areAns_at h hj'
  split
  · exact inR_iff.2 ha
  · exact inR_iff.2 this
/-- all tidy answers -/
def allA (xs : List Question) : List (List Int) := allG xs (xs.length + 1) (noneA xs)
theorem allA_eq {xs : List Question} (hf : isForm xs = true) : allA xs = allQ xs xs.length (noneA xs) 0 := allG_allQ hf _ _ _ (St_none hf) (.inl (by omega))
theorem allA_len {xs : List Question} (hf : isForm xs = true) : (allA xs).length = cnt xs 0 := by rw [allA_eq hf, allQ_cnt]; rfl
def countWays (xs : List Question) : Int × Int := if isForm xs = false then (0, 1) else ((cnt xs 0 : Int), 0)


theorem countWays_ok {xs : List Question} (hf : isForm xs = true) : (countWays xs) = ((cnt xs 0 : Int), 0) := by rw [countWays, if_neg (by simp [hf])]
/-- what is counted from question i on; zero ahead of it -/
def cw (xs : List Question) (i : Int) (j : Nat) : Int := if i < (j : Int) then (cnt xs j : Int) else 0
def cwL (xs : List Question) (i : Int) : List Int := (List.range xs.length).map (cw xs i)
theorem cwL_length (xs : List Question) (i : Int) : (cwL xs i).length = xs.length := by simp [cwL]
theorem cwL_at {xs : List Question} {i : Int} {j : Nat} (h : j < (cwL xs i).length) : (cwL xs i)[j] = cw xs i j := by simp [cwL]
theorem cwL_start (xs : List Question) {i : Int} (h : i = (xs.length : Int) - 1) : List.replicate xs.length (0 : Int) = cwL xs i := by
  apply List.ext_getElem (by simp [cwL])
  intro j h1 h2
  rw [cwL_at, cw, if_neg (by simp at h1; omega)]; simp
theorem cwL_set {xs : List Question} {i : Nat} (h : i < xs.length) {v : Int} (hv : v = (cnt xs i : Int)) : (cwL xs i).set i v = cwL xs ((i : Int) - 1) := by
  subst hv
  apply List.ext_getElem (by simp [cwL])
  intro j h1 h2
  rw [cwL_at, List.getElem_set]
  split
  · rename_i e; subst e; rw [cw, if_pos (by omega)]
  · rename_i e
    rw [cwL_at, cw, cw]
    by_cases h3 : (i : Int) < j
    · rw [if_pos h3, if_pos (by omega)]
    · rw [if_neg h3, if_neg (by omega)]
/-- what a follower adds -/
def cwAdd (xs : List Question) (v : Int) : Int := (cnt xs v : Int)
theorem cwAdd_neg {xs : List Question} {v : Int} (h : v < 0) : cwAdd xs v = 1 := by rw [cwAdd, cnt_neg h]; rfl
theorem cwAdd_at {xs : List Question} {i : Nat} {v : Int} (h1 : (i : Int) + 1 ≤ v) (h2 : v.toNat < (cwL xs i).length) : (cwL xs i)[v.toNat] = cwAdd xs v := by
  rw [cwL_at, cw, if_pos (by omega), cwAdd]
  have : ((v.toNat : Nat) : Int) = v := by omega
  rw [this]

end Go.Proofs.Ytinpkihmkfiidaa
