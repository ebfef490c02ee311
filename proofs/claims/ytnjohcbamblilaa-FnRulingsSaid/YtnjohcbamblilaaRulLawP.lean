/-
  What has been withdrawn is never seen again, in plain words. No condition beyond those written in each theorem.
-/
import Derived.Test.YtnjohcbamblilaaTxtLaw
import Derived.Test.YtnjohcbamblilaaSeen
import Derived.Test.YtnjohcbamblilaaSeen2
namespace Go.Proofs.Ytnjohcbamblilaa
open Go.RowKit
set_option linter.unusedVariables false
set_option linter.unusedSimpArgs false
set_option linter.unusedSectionVars false
set_option maxRecDepth 4000

theorem isRuling_at {xs : List Ruling} (h : areRulings xs = true) {i : Nat} (hi : i < xs.length) : isRuling xs[i] = true ∧ (∀ h0 : 0 < i, xs[i - 1].Day ≤ xs[i].Day) := by
  simp only [areRulings, Bool.and_eq_true] at h
  have h1 := allB_iff.1 h.1 i hi
  rw [allI_of hi, rulP, Bool.and_eq_true] at h1
  refine ⟨h1.1, fun h0 => ?_⟩
  have h2 := h1.2
  rw [List.getElem?_eq_getElem (by omega)] at h2
  simp only [decide_eq_true_eq] at h2
  rcases h2 with h2 | h2
  · omega
  · exact h2
theorem rul_sorted {xs : List Ruling} (h : areRulings xs = true) : ∀ (j i : Nat) (hj : j < xs.length) (hij : i ≤ j), xs[i].Day ≤ xs[j].Day
  | 0, i, hj, hij => by
    obtain rfl : i = 0 := by omega
    exact Int.le_refl _
  | j + 1, i, hj, hij => by
    rcases Nat.lt_or_ge i (j + 1) with k | k
    · have h1 := rul_sorted h j i (by omega) (by omega)
      have h2 := (isRuling_at h hj).2 (by omega)
      simp only [Nat.add_sub_cancel] at h2
      omega
    · obtain rfl : i = j + 1 := by omega
      exact Int.le_refl _
theorem st_three (code : ByteArray) (D : Int) : ∀ l : List Ruling, l.foldl (stStep code D) 3 = 3
  | [] => rfl
  | r :: t => by
    rw [List.foldl_cons]
    have e : stStep code D 3 r = 3 := by unfold stStep; rw [if_neg (by simp)]
    rw [e]; exact st_three code D t
theorem st_late (code : ByteArray) (d : Int) : ∀ (l : List Ruling) (kd : Int), (∀ r ∈ l, d < r.Day) → l.foldl (stStep code d) kd = kd
  | [], _, _ => rfl
  | r :: t, kd, h => by
    rw [List.foldl_cons]
    have hr := h r List.mem_cons_self
    have e : stStep code d kd r = kd := by unfold stStep; rw [if_neg (by omega)]
    rw [e]; exact st_late code d t kd fun x hx => h x (List.mem_cons_of_mem _ hx)
theorem st_keep (code : ByteArray) (d D : Int) (hD : d ≤ D) : ∀ (l : List Ruling) (kd : Int), l.Pairwise (fun a b => a.Day ≤ b.Day) → l.foldl (stStep code d) kd = 3 → l.foldl (stStep code D) kd = 3
  | [], _, _, h => h
  | r :: t, kd, hs, h => by
    obtain ⟨h1, h2⟩ := List.pairwise_cons.1 hs
    by_cases hr : r.Day ≤ d
    · rw [List.foldl_cons] at h ⊢
      have e : stStep code D kd r = stStep code d kd r := by
        unfold stStep
        by_cases hc : r.Code = code ∧ kd ≠ 3
        · rw [if_pos ⟨hc.1, by omega, hc.2⟩, if_pos ⟨hc.1, hr, hc.2⟩]
        · rw [if_neg (fun k => hc ⟨k.1, k.2.2⟩), if_neg (fun k => hc ⟨k.1, k.2.2⟩)]
      rw [e]
      exact st_keep code d D hD t _ h2 h
    · have h3 := st_late code d (r :: t) kd fun x hx => by
        rcases List.mem_cons.1 hx with m | m
        · subst m; omega
        · have := h1 x m; omega
      rw [h3] at h
      subst h
      exact st_three code D _
/-- what has been withdrawn is never seen again -/
theorem standing_keep {xs : List Ruling} {code : ByteArray} {d D : Int} (h0 : (standingOn xs code d).2 = 0) (h1 : (standingOn xs code d).1 = 3) (hD : d ≤ D) (hD2 : D ≤ 20000) : standingOn xs code D = (3, 0) := by
  unfold standingOn at h0 h1 ⊢
  by_cases a1 : areRulings xs = false ∨ isWord code = false
  · rw [if_pos a1] at h0; cases h0
  · by_cases a2 : inR 0 20000 d = false
    · rw [if_neg a1, if_pos a2] at h0; cases h0
    · rw [if_neg a1, if_neg a2] at h1
      have h4 := inR_iff.1 (by simpa using a2 : inR 0 20000 d = true)
      have a3 : ¬ inR 0 20000 D = false := by rw [inR_iff.2 (by omega)]; simp
      rw [if_neg a1, if_neg a3]
      have hr : areRulings xs = true := by
        cases e : areRulings xs with
        | true => rfl
        | false => exact absurd (.inl e) a1
      have hs : xs.Pairwise (fun a b => a.Day ≤ b.Day) := List.pairwise_iff_getElem.2 fun i j hi hj hij => rul_sorted hr j i hj (by omega)
      have h5 : standing xs code D = 3 := st_keep code d D hD xs 2 hs h1
      rw [h5]
def isum (l : List Int) : Int := l.foldl (· + ·) 0
theorem isum_from (l : List Int) (a : Int) : l.foldl (· + ·) a = a + isum l := by
  induction l generalizing a with
  | nil => simp [isum]
  | cons x r ih =>
    rw [List.foldl_cons, ih]
    have : isum (x :: r) = x + isum r := by rw [isum, List.foldl_cons, ih]; omega
    rw [this]; omega
theorem isum_cons (x : Int) (r : List Int) : isum (x :: r) = x + isum r := by rw [isum, List.foldl_cons, isum_from]; omega
theorem isum_step {l : List Int} {k : Nat} (hk : k < l.length) : isum (l.take (k + 1)) = isum (l.take k) + l[k] := by
  rw [List.take_succ_eq_append_getElem hk, isum, List.foldl_append]; rfl
theorem isum_set : ∀ {l : List Int} {k : Nat} (hk : k < l.length), isum (l.set k (l[k] + 1)) = isum l + 1
  | x :: r, 0, _ => by simp only [List.set_cons_zero, List.getElem_cons_zero, isum_cons]; omega
  | x :: r, k + 1, hk => by
    have := isum_set (l := r) (k := k) (by simpa using hk)
    simp only [List.set_cons_succ, List.getElem_cons_succ, isum_cons, this]; omega
theorem cnt_inv (rs : List Ruling) (day : Int) (h : areRulings rs = true) : ∀ (xs : List Exhibit) (c : List Int) (hc : c.length = 4),
    (xs.foldl (fun c x => bump c (standing rs x.Code day).toNat) c).length = 4 ∧ isum (xs.foldl (fun c x => bump c (standing rs x.Code day).toNat) c) = isum c + xs.length ∧
      ((c[0]?.getD 0 : Int) + ((xs.filter fun x => decide (unseen rs x day = 0)).length : Int) ≤ ((xs.foldl (fun c x => bump c (standing rs x.Code day).toNat) c)[0]?.getD 0 : Int))
  | [], c, hc => ⟨hc, by simp, by simp⟩
  | x :: r, c, hc => by
    have hr := standing_range h x.Code day
    have hk : (standing rs x.Code day).toNat < c.length := by omega
    have hb := bump_at hk
    obtain ⟨a1, a2, a3⟩ := cnt_inv rs day h r (bump c (standing rs x.Code day).toNat) (by rw [hb, List.length_set]; exact hc)
    refine ⟨by rw [List.foldl_cons]; exact a1, ?_, ?_⟩
    · rw [List.foldl_cons, a2, hb, isum_set hk, List.length_cons]; omega
    · rw [List.foldl_cons]
      refine Int.le_trans ?_ a3
      rw [hb, List.filter_cons]
      by_cases hu : unseen rs x day = 0
      · have h0 : standing rs x.Code day = 0 := by
          apply Classical.byContradiction
          intro hne
          unfold unseen at hu
          rw [if_pos hne] at hu
          split at hu <;> split at hu <;> omega
        rw [if_pos (by simpa using hu)]
        have e : (standing rs x.Code day).toNat = 0 := by rw [h0]; rfl
        have hc0 : 0 < c.length := by omega
        simp only [e, List.length_cons]
        rw [List.getElem?_set_self (by simpa [e] using hc0), List.getElem?_eq_getElem hc0]
        simp only [Option.getD_some]; omega
      · rw [if_neg (by simpa using hu)]
        have hc0 : 0 < c.length := by omega
        rw [List.getElem?_eq_getElem hc0, List.getElem?_eq_getElem (by rw [List.length_set]; omega)]
        simp only [Option.getD_some]
        rw [List.getElem_set]
        split
        · rename_i e; simp only [e]; omega
        · omega
theorem count_all {rs : List Ruling} {xs : List Exhibit} {day : Int} (h : (countSt rs xs day).2 = 0) :
    isum (countSt rs xs day).1 = xs.length ∧ (countSt rs xs day).1.length = 4 ∧ ((seenOn rs xs day).1.length : Int) ≤ (countSt rs xs day).1[0]?.getD 0 := by
  have hz : rulCode rs xs day = 0 := by
    apply Classical.byContradiction
    intro k
    rw [countSt, if_pos k] at h; exact k h
  have hq : ¬ rulCode rs xs day ≠ 0 := by simpa using hz
  have hr := (rulCode_zero hz).1
  obtain ⟨a1, a2, a3⟩ := cnt_inv rs day hr xs [0, 0, 0, 0] rfl
  rw [countSt, if_neg hq, seenOn, if_neg hq]
  refine ⟨?_, a1, ?_⟩
  · show isum (cntS rs day xs) = _
    rw [cntS, a2]; simp [isum]
  · rw [List.length_map]
    simp only [List.getElem?_cons_zero, Option.getD_some, Int.zero_add] at a3
    exact a3
theorem codes_once {xs : List Exhibit} (h : areExhibits xs = true) {i j : Nat} (hi : i < xs.length) (hj : j < xs.length) (e : xs[i].Code = xs[j].Code) : i = j := by
  have key : ∀ a b : Nat, ∀ (ha : a < xs.length) (hb : b < xs.length), a < b → xs[a].Code ≠ xs[b].Code := fun a b ha hb hab k => by
    simp only [areExhibits, Bool.and_eq_true] at h
    have h1 := allB_iff.1 h.1 b hb
    rw [allI_of hb, exhP, Bool.and_eq_true] at h1
    rw [any_of_at hab (by omega) k] at h1
    cases h1.2
  rcases Nat.lt_trichotomy i j with k | k | k
  · exact absurd e (key i j hi hj k)
  · exact k
  · exact absurd e.symm (key j i hj hi k)
theorem exOf_code {xs : List Exhibit} {code : ByteArray} (h : ¬ exOf xs code < 0) : ∃ hi : (exOf xs code).toNat < xs.length, xs[(exOf xs code).toNat].Code = code := by
  generalize e : exOf xs code = v at h ⊢
  unfold exOf findI at e
  split at e
  · rename_i k hk
    obtain ⟨hk1, hk2, hk3⟩ := List.findIdx?_eq_some_iff_getElem.1 hk
    subst e
    exact ⟨by simpa using hk1, by simpa using hk2⟩
  · omega
theorem see_w {rs : List Ruling} {xs : List Exhibit} {code : ByteArray} {day : Int} (h : (whyUnseen rs xs code day).2 = 0) : (doSee rs xs code day).1 = decide ((whyUnseen rs xs code day).1 = 0) := by
  rw [doSee, h]; simp
theorem see_in {rs : List Ruling} {xs : List Exhibit} {code : ByteArray} {day : Int} (h : (whyUnseen rs xs code day).2 = 0) : (doSee rs xs code day).1 = hasS (seenOn rs xs day).1 code := by
  rw [see_w h]
  have hz : rulCode rs xs day = 0 := by
    apply Classical.byContradiction
    intro k
    rw [whyUnseen, if_pos k] at h; exact k h
  have hq : ¬ rulCode rs xs day ≠ 0 := by simpa using hz
  have ha := (rulCode_zero hz).2.1
  have hf : ¬ exOf xs code < 0 := fun k => by rw [whyUnseen, if_neg hq, if_pos k] at h; cases h
  have hlt := exOf_lt xs code
  have hi : (exOf xs code).toNat < xs.length := by omega
  rw [whyUnseen, if_neg hq, if_neg hf, getX_eq hi, seenOn, if_neg hq]
  obtain ⟨_, hc⟩ := exOf_code hf
  rw [Bool.eq_iff_iff, decide_eq_true_iff, hasS_iff]
  constructor
  · intro hu
    exact List.mem_map.2 ⟨xs[(exOf xs code).toNat], List.mem_filter.2 ⟨List.getElem_mem hi, decide_eq_true hu⟩, hc⟩
  · intro hm
    obtain ⟨x, hx, hxc⟩ := List.mem_map.1 hm
    obtain ⟨hx1, hx2⟩ := List.mem_filter.1 hx
    obtain ⟨j, hj, rfl⟩ := List.mem_iff_getElem.1 hx1
    have := codes_once ha hi hj (by rw [hc, hxc])
    subst this
    simpa using hx2
theorem cnt_small {rs : List Ruling} {xs : List Exhibit} {day : Int} : ∀ v ∈ (countSt rs xs day).1, 0 ≤ v ∧ v ≤ 10 := by
  by_cases h : rulCode rs xs day ≠ 0
  · rw [countSt, if_pos h]; intro v hv; cases hv
  · have hz : rulCode rs xs day = 0 := by simpa using h
    have h2 := areExhibits_len (rulCode_zero hz).2.1
    have h3 := (cntS_small rs day xs xs.length (Nat.le_refl _)).2
    rw [List.take_length] at h3
    rw [countSt, if_neg h]
    intro v hv
    have := h3 v hv
    omega

end Go.Proofs.Ytnjohcbamblilaa
