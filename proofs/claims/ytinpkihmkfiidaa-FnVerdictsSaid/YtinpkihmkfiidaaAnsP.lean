/-
  The shortest answers for a verdict, in plain words. No condition beyond those written in each theorem.
-/
import Derived.Test.YtinpkihmkfiidaaFormP
import Derived.Test.YtinpkihmkfiidaaAllG
namespace Go.Proofs.Ytinpkihmkfiidaa
open Go.RowKit
set_option linter.unusedVariables false
set_option linter.unusedSimpArgs false
set_option linter.unusedSectionVars false
set_option maxRecDepth 4000

theorem form_yes {xs : List Question} (hf : isForm xs = true) {i : Nat} (h : i < xs.length) : (xs[i].Yes < 0 ∧ -6 ≤ xs[i].Yes) ∨ ((i : Int) + 1 ≤ xs[i].Yes ∧ xs[i].Yes ≤ (xs.length : Int) - 1) := by
  have n1 := isForm_next hf h 1
  simpa [follows] using n1
theorem form_no {xs : List Question} (hf : isForm xs = true) {i : Nat} (h : i < xs.length) : (xs[i].No < 0 ∧ -6 ≤ xs[i].No) ∨ ((i : Int) + 1 ≤ xs[i].No ∧ xs[i].No ≤ (xs.length : Int) - 1) := by
  have n1 := isForm_next hf h 0
  simpa [follows] using n1
/-- the fewest questions from v on to the verdict vd, 1000 for none -/
def dist (xs : List Question) (vd : Int) : Nat → Int → Int
  | 0, v => if v = vd then 0 else 1000
  | f + 1, v => if v = vd then 0 else if v < 0 then 1000 else match xs[v.toNat]? with
    | some q => min 1000 (1 + min (dist xs vd f q.Yes) (dist xs vd f q.No))
    | none => 1000
theorem dist_neg {xs : List Question} {vd : Int} {f : Nat} {v : Int} (h : v < 0) : dist xs vd f v = if v = vd then 0 else 1000 := by
  cases f with
  | zero => rfl
  | succ f => unfold dist; by_cases e : v = vd <;> simp [e, h]
theorem dist_pos {xs : List Question} {vd : Int} {f i : Nat} (h : i < xs.length) (hv : vd < 0) : dist xs vd (f + 1) i = min 1000 (1 + min (dist xs vd f xs[i].Yes) (dist xs vd f xs[i].No)) := by
  conv => lhs; unfold dist
  rw [if_neg (by omega), if_neg (by omega), Int.toNat_natCast, List.getElem?_eq_getElem h]
theorem dist_le (xs : List Question) (vd : Int) : ∀ (f : Nat) (v : Int), 0 ≤ dist xs vd f v ∧ (dist xs vd f v ≤ f ∨ dist xs vd f v = 1000)
  | 0, v => by unfold dist; split <;> simp
  | f + 1, v => by
    unfold dist
    split
    · exact ⟨Int.le_refl _, .inl (by omega)⟩
    · split
      · simp
      · split
        · rename_i q _
          have h1 := dist_le xs vd f q.Yes
          have h2 := dist_le xs vd f q.No
          omega
        · simp
theorem dist_fuel {xs : List Question} (hf : isForm xs = true) {vd : Int} (hv : vd < 0) : ∀ (f g : Nat) (v : Int), v < xs.length → xs.length ≤ v + f → xs.length ≤ v + g → dist xs vd f v = dist xs vd g v
  | f, g, v, hl, h1, h2 => by
    by_cases h : v < 0
    · rw [dist_neg h, dist_neg h]
    · match f, g with
      | 0, _ => omega
      | _ + 1, 0 => omega
      | f + 1, g + 1 =>
        have hi : v.toNat < xs.length := by omega
        have e : ((v.toNat : Nat) : Int) = v := by omega
        rw [← e, dist_pos hi hv, dist_pos hi hv]
        have sg : ∀ u : Int, (u < 0 ∨ (v.toNat : Int) + 1 ≤ u ∧ u ≤ (xs.length : Int) - 1) → dist xs vd f u = dist xs vd g u := by
          intro u hu
          rcases hu with hu | hu
          · rw [dist_neg hu, dist_neg hu]
          · exact dist_fuel hf hv f g u (by omega) (by omega) (by omega)
        rw [sg _ (by have := form_yes hf hi; omega), sg _ (by have := form_no hf hi; omega)]
def dst (xs : List Question) (vd : Int) (v : Int) : Int := dist xs vd xs.length v
theorem dst_neg {xs : List Question} {vd v : Int} (h : v < 0) : dst xs vd v = if v = vd then 0 else 1000 := dist_neg h
theorem dst_at {xs : List Question} (hf : isForm xs = true) {vd : Int} (hv : vd < 0) {i : Nat} (h : i < xs.length) : dst xs vd i = min 1000 (1 + min (dst xs vd xs[i].Yes) (dst xs vd xs[i].No)) := by
  have h1 := isForm_len hf
  have e : xs.length = (xs.length - 1) + 1 := by omega
  unfold dst
  conv => lhs; rw [e]
  rw [dist_pos h hv]
  have sg : ∀ u : Int, (u < 0 ∨ (i : Int) + 1 ≤ u ∧ u ≤ (xs.length : Int) - 1) → dist xs vd (xs.length - 1) u = dist xs vd xs.length u := by
    intro u hu
    rcases hu with hu | hu
    · rw [dist_neg hu, dist_neg hu]
    · exact dist_fuel hf hv _ _ u (by omega) (by omega) (by omega)
  rw [sg _ (by have := form_yes hf h; omega), sg _ (by have := form_no hf h; omega)]
theorem dst_le {xs : List Question} (hf : isForm xs = true) (vd v : Int) : 0 ≤ dst xs vd v ∧ (dst xs vd v ≤ 10 ∨ dst xs vd v = 1000) := by
  have h1 := isForm_len hf
  have := dist_le xs vd xs.length v
  unfold dst; omega
/-- is 'no' the shorter answer, or as short -/
def goNo (xs : List Question) (vd : Int) (v : Nat) : Bool := match xs[v]? with
  | some q => decide (dst xs vd q.No + 1 = dst xs vd v)
  | none => false
/-- the shortest answers, 'no' ahead of 'yes' -/
def gr (xs : List Question) (vd : Int) : Nat → List Int → Int → List Int
  | 0, az, _ => az
  | f + 1, az, v => if v < 0 then az else match xs[v.toNat]? with
    | some q => if goNo xs vd v.toNat = true then gr xs vd f (az.set v.toNat 0) q.No else gr xs vd f (az.set v.toNat 1) q.Yes
    | none => az
theorem gr_neg {xs : List Question} {vd : Int} {f : Nat} {az : List Int} {v : Int} (h : v < 0) : gr xs vd f az v = az := by cases f <;> simp [gr, h]
theorem gr_no {xs : List Question} {vd : Int} {f : Nat} {az : List Int} {i : Nat} (h : i < xs.length) (hn : goNo xs vd i = true) : gr xs vd (f + 1) az i = gr xs vd f (az.set i 0) xs[i].No := by
  have h1 : ¬ ((i : Int) < 0) := by omega
  simp [gr, h1, h, hn]
theorem gr_yes {xs : List Question} {vd : Int} {f : Nat} {az : List Int} {i : Nat} (h : i < xs.length) (hn : goNo xs vd i = false) : gr xs vd (f + 1) az i = gr xs vd f (az.set i 1) xs[i].Yes := by
  have h1 : ¬ ((i : Int) < 0) := by omega
  simp [gr, h1, h, hn]
/-- one step of the search through all tidy answers: the best so far, and how long its way is (-1 for none) -/
def bestS (xs : List Question) (vd : Int) (st : List Int × Int) (a : List Int) : List Int × Int :=
  if (wayF xs a).2 = vd ∧ (st.2 < 0 ∨ ((wayF xs a).1.length : Int) < st.2) then (a, ((wayF xs a).1.length : Int)) else st
def bestL (xs : List Question) (vd : Int) (st : List Int × Int) (l : List (List Int)) : List Int × Int := l.foldl (bestS xs vd) st
/-- all is open from v on, and the way ends there; it is p long ahead of v -/
def Sp (xs : List Question) (az : List Int) (v : Int) (p : Nat) : Prop := St xs az v ∧ (wayF xs az).1.length = if v < 0 then p else p + 1
theorem Sp.step {xs : List Question} {az : List Int} (hf : isForm xs = true) {v p : Nat} (hv : v < xs.length) (h : Sp xs az v p) {a : Int} (ha : 0 ≤ a) : Sp xs (az.set v a) (follows xs[v] a) (p + 1) := by
  obtain ⟨hs, hp⟩ := h
  refine ⟨St.step hf hv hs ha, ?_⟩
  obtain ⟨hl, h⟩ := hs
  rw [if_neg (by omega)] at h hp
  obtain ⟨_, ho, l, e⟩ := h
  have hl' : (az.set v a).length = xs.length := by rw [List.length_set]; exact hl
  have hz : az[v]'(by omega) < 0 := by rw [ho v (by omega) (by omega)]; omega
  have k := wayG_set hf hl hv ha xs.length 0 l (by omega) (by omega) e hz
  have nxa := isForm_next hf hv a
  rw [e] at hp
  simp only [List.length_append, List.length_singleton] at hp
  split
  · rename_i hn
    rw [wayF, k.1 hn]; simp; omega
  · rename_i hn
    obtain ⟨g, hg, e3⟩ := k.2 (by omega)
    have hi : (follows xs[v] a).toNat < (az.set v a).length := by omega
    have hu : (az.set v a)[(follows xs[v] a).toNat] = -1 := by
      rw [List.getElem_set_ne (by omega)]; exact ho _ (by simpa using hi) (by omega)
    have hg1 : g = (g - 1) + 1 := by omega
    have e4 : wayG xs (az.set v a) g (follows xs[v] a).toNat = ([(((follows xs[v] a).toNat : Nat) : Int)], 0) := by
      rw [hg1]; exact wayG_none hi (by omega) (by rw [hu]; omega)
    rw [wayF, e3, e4]
    simp; omega
theorem Sp.none {xs : List Question} (hf : isForm xs = true) : Sp xs (noneA xs) 0 0 := by
  refine ⟨St_none hf, ?_⟩
  have hl := isForm_len hf
  have e : xs.length = (xs.length - 1) + 1 := by omega
  rw [if_neg (by omega)]
  unfold wayF
  rw [e, wayG_none (by simp [noneA]; omega) (by omega) (by simp [noneA])]; rfl
theorem merge_best {α : Type} (sb A0 A1 : α) (sl d0 d1 D p : Int) (b0 : 0 ≤ d0 ∧ (d0 ≤ 10 ∨ d0 = 1000)) (b1 : 0 ≤ d1 ∧ (d1 ≤ 10 ∨ d1 = 1000)) (hD : D = min 1000 (1 + min d1 d0)) (hp : 0 ≤ p) :
    (if d1 = 1000 then (if d0 = 1000 then (sb, sl) else if sl < 0 ∨ p + 1 + d0 < sl then (A0, p + 1 + d0) else (sb, sl))
      else if (if d0 = 1000 then (sb, sl) else if sl < 0 ∨ p + 1 + d0 < sl then (A0, p + 1 + d0) else (sb, sl)).2 < 0 ∨ p + 1 + d1 < (if d0 = 1000 then (sb, sl) else if sl < 0 ∨ p + 1 + d0 < sl then (A0, p + 1 + d0) else (sb, sl)).2 then (A1, p + 1 + d1)
      else (if d0 = 1000 then (sb, sl) else if sl < 0 ∨ p + 1 + d0 < sl then (A0, p + 1 + d0) else (sb, sl)))
    = if D = 1000 then (sb, sl) else if sl < 0 ∨ p + D < sl then (if d0 + 1 = D then A0 else A1, p + D) else (sb, sl) := by
  by_cases h0 : d0 = 1000
  · simp only [if_pos h0]
    by_cases h1 : d1 = 1000
    · rw [if_pos h1, if_pos (by omega)]
    · rw [if_neg h1, if_neg (by omega : ¬ D = 1000)]
      by_cases hs : sl < 0 ∨ p + 1 + d1 < sl
      · rw [if_pos hs, if_pos (by omega), if_neg (by omega)]; exact Prod.ext rfl (by simp only; omega)
      · rw [if_neg hs, if_neg (by omega)]
  · simp only [if_neg h0]
    by_cases hs0 : sl < 0 ∨ p + 1 + d0 < sl
    · simp only [if_pos hs0]
      by_cases h1 : d1 = 1000
      · rw [if_pos h1, if_neg (by omega : ¬ D = 1000), if_pos (by omega), if_pos (by omega)]; exact Prod.ext rfl (by simp only; omega)
      · rw [if_neg h1, if_neg (by omega : ¬ D = 1000)]
        by_cases h2 : d1 < d0
        · rw [if_pos (by omega), if_pos (by omega), if_neg (by omega)]; exact Prod.ext rfl (by simp only; omega)
        · rw [if_neg (by omega), if_pos (by omega), if_pos (by omega)]; exact Prod.ext rfl (by simp only; omega)
    · simp only [if_neg hs0]
      by_cases h1 : d1 = 1000
      · rw [if_pos h1, if_neg (by omega : ¬ D = 1000), if_neg (by omega)]
      · rw [if_neg h1, if_neg (by omega : ¬ D = 1000)]
        by_cases hs : sl < 0 ∨ p + 1 + d1 < sl
        · rw [if_pos hs, if_pos (by omega), if_neg (by omega)]; exact Prod.ext rfl (by simp only; omega)
        · rw [if_neg hs, if_neg (by omega)]
theorem best_allQ {xs : List Question} (hf : isForm xs = true) {vd : Int} (hv : vd < 0) : ∀ (f : Nat) (az : List Int) (v : Int) (p : Nat) (st : List Int × Int), Sp xs az v p → xs.length ≤ v + f ∨ v < 0 →
    bestL xs vd st (allQ xs f az v) = if dst xs vd v = 1000 then st else if st.2 < 0 ∨ (p : Int) + dst xs vd v < st.2 then (gr xs vd f az v, (p : Int) + dst xs vd v) else st
  | f, az, v, p, st, hs, hfu => by
    by_cases h : v < 0
    · have h1 := hs.2; rw [if_pos h] at h1
      have h2 := hs.1.2; rw [if_pos h] at h2
      have e : allQ xs f az v = [az] := by cases f <;> simp [allQ, h]
      rw [e, bestL, List.foldl_cons, List.foldl_nil, bestS, h1, h2, dst_neg h, gr_neg h]
      by_cases h3 : v = vd
      · simp [h3]
      · simp [h3]
    · have hs1 := hs.1.2
      rw [if_neg h] at hs1
      have hv' : v.toNat < xs.length := by omega
      have ev : ((v.toNat : Nat) : Int) = v := by omega
      match f with
      | 0 => omega
      | f + 1 =>
        have hs' : Sp xs az ((v.toNat : Nat) : Int) p := by rw [ev]; exact hs
        have s0 := Sp.step hf hv' hs' (a := 0) (by omega)
        have s1 := Sp.step hf hv' hs' (a := 1) (by omega)
        have n0 := isForm_next hf hv' 0
        have n1 := isForm_next hf hv' 1
        have e : allQ xs (f + 1) az v = allQ xs f (az.set v.toNat 0) (follows xs[v.toNat] 0) ++ allQ xs f (az.set v.toNat 1) (follows xs[v.toNat] 1) := by simp [allQ, h, hv']
        rw [e, bestL, List.foldl_append]
        have i0 := best_allQ hf hv f _ _ _ st s0 (by omega)
        rw [bestL] at i0
        rw [i0]
        have i1 := fun st' => best_allQ hf hv f _ _ _ st' s1 (by omega)
        simp only [bestL] at i1
        rw [i1]
        have hd := dst_at hf hv hv'
        rw [ev] at hd
        have b0 := dst_le hf vd xs[v.toNat].No
        have b1 := dst_le hf vd xs[v.toNat].Yes
        have f0 : follows xs[v.toNat] 0 = xs[v.toNat].No := rfl
        have f1 : follows xs[v.toNat] 1 = xs[v.toNat].Yes := rfl
        rw [f0, f1]
        have g : gr xs vd (f + 1) az v = if dst xs vd xs[v.toNat].No + 1 = dst xs vd v then gr xs vd f (az.set v.toNat 0) xs[v.toNat].No else gr xs vd f (az.set v.toNat 1) xs[v.toNat].Yes := by
          conv => lhs; rw [← ev]
          have eg : goNo xs vd v.toNat = decide (dst xs vd xs[v.toNat].No + 1 = dst xs vd v) := by simp only [goNo, List.getElem?_eq_getElem hv', ev]
          by_cases hg : goNo xs vd v.toNat = true
          · rw [gr_no hv' hg, if_pos (by rw [eg] at hg; simpa using hg)]
          · rw [gr_yes hv' (by simpa using hg), if_neg (by rw [eg] at hg; simpa using hg)]
        rw [g]
        generalize gr xs vd f (az.set v.toNat 0) xs[v.toNat].No = A0
        generalize gr xs vd f (az.set v.toNat 1) xs[v.toNat].Yes = A1
        generalize dst xs vd xs[v.toNat].No = d0 at *
        generalize dst xs vd xs[v.toNat].Yes = d1 at *
        generalize dst xs vd v = d at *
        obtain ⟨sb, sl⟩ := st
        simp only [Int.natCast_succ]
        exact merge_best sb A0 A1 sl d0 d1 d p b0 b1 (by rw [hd]) (by omega)
def answersFor (xs : List Question) (vd : Int) : List Int × Int := if isForm xs = false then ([], 1) else if inR (-6) (-1) vd = false then ([], 2) else if dst xs vd 0 = 1000 then ([], 4) else (gr xs vd xs.length (noneA xs) 0, 0)
/-- the search through all tidy answers finds the shortest -/
theorem best_all {xs : List Question} (hf : isForm xs = true) {vd : Int} (hv : inR (-6) (-1) vd = true) : bestL xs vd ([], -1) (allA xs) = if dst xs vd 0 = 1000 then ([], -1) else (gr xs vd xs.length (noneA xs) 0, dst xs vd 0) := by
  have h1 := inR_iff.1 hv
  rw [allA_eq hf, best_allQ hf (by omega) _ _ _ 0 _ (Sp.none hf) (.inl (by omega))]
  simp
theorem gr_len (xs : List Question) (vd : Int) : ∀ (f : Nat) (az : List Int) (v : Int), (gr xs vd f az v).length = az.length
  | 0, _, _ => rfl
  | f + 1, az, v => by
    unfold gr
    split
    · rfl
    · split
      · split
        · rw [gr_len, List.length_set]
        · rw [gr_len, List.length_set]
      · rfl
theorem answersFor_len (xs : List Question) (vd : Int) : (answersFor xs vd).1.length ≤ 10 := by
  unfold answersFor
  split
  · simp
  · rename_i h
    split
    · simp
    · split
      · simp
      · have := isForm_len (by simpa using h : isForm xs = true)
        rw [gr_len]; simp [noneA]; omega

end Go.Proofs.Ytinpkihmkfiidaa
