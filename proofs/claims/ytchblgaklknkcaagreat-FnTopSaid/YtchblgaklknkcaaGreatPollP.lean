/-
  What polls say, in plain words. No condition beyond those written in each theorem.
-/
import Derived.Test.YtchblgaklknkcaaGreatPolls2
import Derived.Test.YtchblgaklknkcaaGreatTidy
import Derived.Lib.SlicesCompact
namespace Go.Proofs.YtchblgaklknkcaaGreat
open Go.RowKit
set_option linter.unusedVariables false
set_option linter.unusedSimpArgs false
set_option linter.unusedSectionVars false
set_option maxRecDepth 4000
def cntG (xs : List Question) : Nat → Int → Nat
  | 0, v => if v < 0 then 1 else 0
  | f + 1, v => if v < 0 then 1 else match xs[v.toNat]? with
    | some q => cntG xs f (follows q 0) + cntG xs f (follows q 1)
    | none => 0
def cnt (xs : List Question) (v : Int) : Nat := cntG xs xs.length v
theorem wayG_set {xs : List Question} {az : List Int} (hf : isForm xs = true) (hl : az.length = xs.length) {v : Nat} (hv : v < xs.length) {a : Int} (ha : 0 ≤ a) :
    ∀ (f i : Nat) (l : List Int), i < xs.length → xs.length ≤ i + f → wayG xs az f i = (l ++ [(v : Int)], 0) → az[v]'(by omega) < 0 →
    ((follows xs[v] a < 0 → wayG xs (az.set v a) f i = (l ++ [(v : Int)], follows xs[v] a)) ∧
     (∀ h : 0 ≤ follows xs[v] a, ∃ g, xs.length ≤ (follows xs[v] a).toNat + g ∧ wayG xs (az.set v a) f i = (l ++ (v : Int) :: (wayG xs (az.set v a) g (follows xs[v] a).toNat).1, (wayG xs (az.set v a) g (follows xs[v] a).toNat).2)))
  | 0, i, l, hi, hfu, _, _ => by omega
  | f + 1, i, l, hi, hfu, hw, hz => by
    have hi2 : i < az.length := by omega
    have hset : i < (az.set v a).length := by rw [List.length_set]; exact hi2
    have nx := isForm_next hf hi (az[i])
    have nxa := isForm_next hf hv a
    by_cases hneg : az[i] < 0
    · rw [wayG_none hi2 hi hneg] at hw
      have h1 : l = [] ∧ (i : Int) = v := by
        cases l with
        | nil => simpa using hw
        | cons x r => simp at hw
      obtain ⟨rfl, hiv⟩ := h1
      have : i = v := by omega
      subst this
      have hs : (az.set i a)[i]'hset = a := by simp
      refine ⟨fun h => ?_, fun h => ⟨f, by omega, ?_⟩⟩
      · rw [wayG_end hset hi (by rw [hs]; omega) (by rw [hs]; exact h), hs]; rfl
      · rw [wayG_on hset hi (by rw [hs]; omega) (by rw [hs]; omega), hs]; rfl
    · by_cases hend : follows xs[i] az[i] < 0
      · rw [wayG_end hi2 hi hneg hend] at hw
        simp only [Prod.mk.injEq] at hw
        omega
      · rw [wayG_on hi2 hi hneg hend] at hw
        have hne : i ≠ v := by intro h; subst h; exact hneg hz
        have hs : (az.set v a)[i]'hset = az[i] := by rw [List.getElem_set_ne (fun h => hne h.symm)]
        have hl2 : ∃ r, l = (i : Int) :: r := by
          cases l with
          | nil =>
            simp only [List.nil_append, Prod.mk.injEq, List.cons.injEq] at hw
            omega
          | cons x r =>
            simp only [List.cons_append, Prod.mk.injEq, List.cons.injEq] at hw
            exact ⟨r, by rw [hw.1.1]⟩
        obtain ⟨r, rfl⟩ := hl2
        simp only [List.cons_append, Prod.mk.injEq, List.cons.injEq, true_and] at hw
        have ih := wayG_set hf hl hv ha f (follows xs[i] az[i]).toNat r (by omega) (by omega) (Prod.ext hw.1 hw.2) hz
        refine ⟨fun h => ?_, fun h => ?_⟩
        · rw [wayG_on hset hi (by rw [hs]; exact hneg) (by rw [hs]; exact hend), hs, ih.1 h]; rfl
        · obtain ⟨g, hg, e⟩ := ih.2 h
          exact ⟨g, hg, by rw [wayG_on hset hi (by rw [hs]; exact hneg) (by rw [hs]; exact hend), hs, e]; rfl⟩
def St (xs : List Question) (az : List Int) (v : Int) : Prop :=
  az.length = xs.length ∧ if v < 0 then (wayF xs az).2 = v else v < xs.length ∧ (∀ j (hj : j < az.length), v ≤ j → az[j] = -1) ∧ ∃ l, wayF xs az = (l ++ [v], 0)
theorem St.step {xs : List Question} {az : List Int} (hf : isForm xs = true) {v : Nat} (hv : v < xs.length) (h : St xs az v) {a : Int} (ha : 0 ≤ a) : St xs (az.set v a) (follows xs[v] a) := by
 obtain ⟨hl, h⟩ := h
 rw [if_neg (by omega)] at h
 obtain ⟨_, ho, l, e⟩ := h
 have hl' : (az.set v a).length = xs.length := by rw [List.length_set]; exact hl
 have hz : az[v]'(by omega) < 0 := by rw [ho v (by omega) (by omega)]; omega
 have k := wayG_set hf hl hv ha xs.length 0 l (by omega) (by omega) e hz
 have nxa := isForm_next hf hv a
 refine ⟨hl', ?_⟩
 split
 · rename_i hn
   rw [wayF, k.1 hn]
 · rename_i hn
   obtain ⟨g, hg, e3⟩ := k.2 (by omega)
   refine ⟨by omega, fun j hj h1 => ?_, ⟨l ++ [(v : Int)], ?_⟩⟩
   · rw [List.getElem_set_ne (by omega)]; exact ho j (by simpa using hj) (by omega)
   · have hi : (follows xs[v] a).toNat < (az.set v a).length := by omega
     have hu : (az.set v a)[(follows xs[v] a).toNat] = -1 := by
       rw [List.getElem_set_ne (by omega)]; exact ho _ (by simpa using hi) (by omega)
     have hg1 : g = (g - 1) + 1 := by omega
     have e4 : wayG xs (az.set v a) g (follows xs[v] a).toNat = ([(((follows xs[v] a).toNat : Nat) : Int)], 0) := by
       rw [hg1]; exact wayG_none hi (by omega) (by rw [hu]; omega)
     rw [wayF, e3, e4]
     have : (((follows xs[v] a).toNat : Nat) : Int) = follows xs[v] a := by omega
     simp [this]
def noneA (xs : List Question) : List Int := List.replicate xs.length (-1)
theorem St_none {xs : List Question} (hf : isForm xs = true) : St xs (noneA xs) 0 := by
 have hl := isForm_len hf
 refine ⟨by simp [noneA], ?_⟩
 rw [if_neg (by omega)]
 refine ⟨by omega, fun j hj _ => by simp [noneA], [], ?_⟩
 have e : xs.length = (xs.length - 1) + 1 := by omega
 unfold wayF
 conv => lhs; rw [e]
 rw [wayG_none (by simp [noneA]; omega) (by omega) (by simp [noneA])]; rfl
def cw (xs : List Question) (i : Int) (j : Nat) : Int := if i < (j : Int) then (cnt xs j : Int) else 0
end Go.Proofs.YtchblgaklknkcaaGreat
namespace Go.Proofs.YtchblgaklknkcaaGreat
open Go.RowKit
set_option linter.unusedVariables false
set_option linter.unusedSimpArgs false
set_option linter.unusedSectionVars false
set_option maxRecDepth 4000
theorem form_yes {xs : List Question} (hf : isForm xs = true) {i : Nat} (h : i < xs.length) : (xs[i].Yes < 0 ∧ -6 ≤ xs[i].Yes) ∨ ((i : Int) + 1 ≤ xs[i].Yes ∧ xs[i].Yes ≤ (xs.length : Int) - 1) := by
 have n1 := isForm_next hf h 1
 simpa [follows] using n1
theorem form_no {xs : List Question} (hf : isForm xs = true) {i : Nat} (h : i < xs.length) : (xs[i].No < 0 ∧ -6 ≤ xs[i].No) ∨ ((i : Int) + 1 ≤ xs[i].No ∧ xs[i].No ≤ (xs.length : Int) - 1) := by
 have n1 := isForm_next hf h 0
 simpa [follows] using n1
def dist (xs : List Question) (vd : Int) : Nat → Int → Int
  | 0, v => if v = vd then 0 else 1000
  | f + 1, v => if v = vd then 0 else if v < 0 then 1000 else match xs[v.toNat]? with
    | some q => min 1000 (1 + min (dist xs vd f q.Yes) (dist xs vd f q.No))
    | none => 1000
def dst (xs : List Question) (vd : Int) (v : Int) : Int := dist xs vd xs.length v
def Sp (xs : List Question) (az : List Int) (v : Int) (p : Nat) : Prop := St xs az v ∧ (wayF xs az).1.length = if v < 0 then p else p + 1
theorem Sp.step {xs : List Question} {az : List Int} (hf : isForm xs = true) {v p : Nat} (hv : v < xs.length) (h : Sp xs az v p) {a : Int} (ha : 0 ≤ a) : Sp xs (az.set v a) (follows xs[v] a) (p + 1) := by
 obtain ⟨hs, hp⟩ := h
 refine ⟨St.step hf hv hs ha, ?_⟩
 obtain ⟨hl, h⟩ := hs
 rw [if_neg (by omega)] at h hp
 obtain ⟨_, ho, l, e⟩ := h
 have hl' : (az.set v a).length = xs.length := by rw [List.length_set]; exact hl
 have hz : az[v]'(by omega) < 0 := by rw [ho v (by omega) (by omega)]; omega
 have k := wayG_set hf hl hv ha xs.length 0 l (by omega) (by omega) e hz
 have nxa := isForm_next hf hv a
 rw [e] at hp
 simp only [List.length_append, List.length_singleton] at hp
 split
 · rename_i hn
   rw [wayF, k.1 hn]; simp; omega
 · rename_i hn
   obtain ⟨g, hg, e3⟩ := k.2 (by omega)
   have hi : (follows xs[v] a).toNat < (az.set v a).length := by omega
   have hu : (az.set v a)[(follows xs[v] a).toNat] = -1 := by
     rw [List.getElem_set_ne (by omega)]; exact ho _ (by simpa using hi) (by omega)
   have hg1 : g = (g - 1) + 1 := by omega
   have e4 : wayG xs (az.set v a) g (follows xs[v] a).toNat = ([(((follows xs[v] a).toNat : Nat) : Int)], 0) := by
     rw [hg1]; exact wayG_none hi (by omega) (by rw [hu]; omega)
   rw [wayF, e3, e4]
   simp; omega
theorem Sp.none {xs : List Question} (hf : isForm xs = true) : Sp xs (noneA xs) 0 0 := by
 refine ⟨St_none hf, ?_⟩
 have hl := isForm_len hf
 have e : xs.length = (xs.length - 1) + 1 := by omega
 rw [if_neg (by omega)]
 unfold wayF
 rw [e, wayG_none (by simp [noneA]; omega) (by omega) (by simp [noneA])]; rfl
end Go.Proofs.YtchblgaklknkcaaGreat
namespace Go.Proofs.YtchblgaklknkcaaGreat
open Go.RowKit
set_option linter.unusedVariables false
set_option linter.unusedSimpArgs false
set_option linter.unusedSectionVars false
set_option maxRecDepth 4000
def usedT (xs : List Question) : Nat → List Int
  | 0 => [0]
  | k + 1 => match xs[k]? with
    | some q => if hasI (usedT xs k) (k : Int) = true then usedT xs k ++ [q.Yes, q.No] else usedT xs k
    | none => usedT xs k
def usedL (xs : List Question) : List Int := usedT xs xs.length
theorem usedT_t {xs : List Question} {k : Nat} (h : k < xs.length) (hh : hasI (usedT xs k) (k : Int) = true) : usedT xs (k + 1) = usedT xs k ++ [xs[k].Yes, xs[k].No] := by
 simp [usedT, h, hh]
theorem usedT_f {xs : List Question} {k : Nat} (h : k < xs.length) (hh : hasI (usedT xs k) (k : Int) = false) : usedT xs (k + 1) = usedT xs k := by
 simp [usedT, h, hh]
theorem usedT_len (xs : List Question) : ∀ k, (usedT xs k).length ≤ 1 + 2 * k
  | 0 => by simp [usedT]
  | k + 1 => by
    have := usedT_len xs k
    unfold usedT
    split
    · split
      · simp only [List.length_append, List.length_cons, List.length_nil]; omega
      · omega
    · omega
theorem usedT_mono {xs : List Question} {x : Int} {k : Nat} (h : x ∈ usedT xs k) : ∀ m, k ≤ m → x ∈ usedT xs m
  | 0, hm => by
    have : k = 0 := by omega
    subst this; exact h
  | m + 1, hm => by
    by_cases e : k = m + 1
    · subst e; exact h
    · have ih := usedT_mono h m (by omega)
      unfold usedT
      split
      · split
        · exact List.mem_append.2 (.inl ih)
        · exact ih
      · exact ih
theorem usedT_low {xs : List Question} (hf : isForm xs = true) {x : Int} {k : Nat} (h0 : 0 ≤ x) (hk : x ≤ k) : ∀ m, k ≤ m → m ≤ xs.length → x ∈ usedT xs m → x ∈ usedT xs k
  | 0, hm, _, h => by
    have : k = 0 := by omega
    subst this; exact h
  | m + 1, hm, hl, h => by
    by_cases e : k = m + 1
    · subst e; exact h
    · refine usedT_low hf h0 hk m (by omega) (by omega) ?_
      have hi : m < xs.length := by omega
      have ny := form_yes hf hi
      have nn := form_no hf hi
      cases hh : hasI (usedT xs m) (m : Int) with
      | false => rw [usedT_f hi hh] at h; exact h
      | true =>
        rw [usedT_t hi hh] at h
        rcases List.mem_append.1 h with h | h
        · exact h
        · simp only [List.mem_cons, List.not_mem_nil, or_false] at h
          omega
theorem used_next {xs : List Question} (hf : isForm xs = true) {i : Nat} (hi : i < xs.length) (h : (i : Int) ∈ usedL xs) : xs[i].Yes ∈ usedL xs ∧ xs[i].No ∈ usedL xs := by
 have h1 := usedT_low hf (k := i) (by omega) (Int.le_refl _) xs.length (by omega) (Nat.le_refl _) h
 have e := usedT_t hi (hasI_iff.2 h1)
 constructor
 · exact usedT_mono (k := i + 1) (by rw [e]; simp) _ (by omega)
 · exact usedT_mono (k := i + 1) (by rw [e]; simp) _ (by omega)
def Tdy (xs : List Question) (az : List Int) : Prop := ∀ j : Nat, getI az j ≠ -1 → j < az.length → (j : Int) ∈ (wayF xs az).1
theorem getI_set {az : List Int} {v j : Nat} {a : Int} (hv : v < az.length) : getI (az.set v a) j = if v = j then a else getI az j := by
 unfold getI
 rw [List.getElem?_set]
 by_cases h : v = j
 · subst h; simp [hv]
 · simp [h]
theorem Tdy.step {xs : List Question} {az : List Int} (hf : isForm xs = true) {v : Nat} (hv : v < xs.length) (hs : St xs az v) (ht : Tdy xs az) {a : Int} (ha : 0 ≤ a) : Tdy xs (az.set v a) := by
 obtain ⟨hl, h⟩ := hs
 rw [if_neg (by omega)] at h
 obtain ⟨_, ho, l, e⟩ := h
 have hz : az[v]'(by omega) < 0 := by rw [ho v (by omega) (by omega)]; omega
 have k := wayG_set hf hl hv ha xs.length 0 l (by omega) (by omega) e hz
 have hsub : ∀ x ∈ l ++ [(v : Int)], x ∈ (wayF xs (az.set v a)).1 := by
   by_cases hn : follows xs[v] a < 0
   · rw [wayF, k.1 hn]; exact fun x m => m
   · obtain ⟨g, hg, e3⟩ := k.2 (by omega)
     rw [wayF, e3]
     intro x m
     simp only [List.mem_append, List.mem_cons, List.not_mem_nil, or_false] at m ⊢
     rcases m with m | m
     · exact .inl m
     · exact .inr (.inl m)
 intro j hj hj2
 rw [List.length_set] at hj2
 rw [getI_set (by omega)] at hj
 by_cases h2 : v = j
 · subst h2; exact hsub _ (by simp)
 · rw [if_neg h2] at hj
   have := ht j hj hj2
   rw [e] at this
   exact hsub _ this
def srt (l : List Int) : List Int := Lib.compact (l.mergeSort fun x y => decide (x ≤ y))
theorem cmp_mem (d : Array Int) : ∀ m, ∀ x, x ∈ Lib.compactUpTo d m ↔ ∃ j, j < m ∧ d[j]! = x
  | 0, x => by simp [Lib.compactUpTo]
  | m + 1, x => by
    rw [Lib.compactUpTo_succ, List.mem_append, cmp_mem d m x]
    constructor
    · rintro (⟨j, hj, e⟩ | h)
      · exact ⟨j, by omega, e⟩
      · split at h
        · simp at h; exact ⟨m, by omega, h.symm⟩
        · cases h
    · rintro ⟨j, hj, e⟩
      by_cases hm : j = m
      · subst hm
        by_cases hk : Lib.keeps d j = true
        · exact .inr (by rw [if_pos hk]; simp [e])
        · have hk2 : ¬ (j = 0 ∨ d[j]! ≠ d[j - 1]!) := by simpa [Lib.keeps] using hk
          simp only [not_or, Decidable.not_not] at hk2
          exact .inl ⟨j - 1, by omega, by rw [← hk2.2]; exact e⟩
      · exact .inl ⟨j, by omega, e⟩
theorem srt_mem {l : List Int} {x : Int} : x ∈ srt l ↔ x ∈ l := by
 rw [srt, Lib.compact, cmp_mem, ← List.mem_mergeSort (le := fun x y => decide (x ≤ y)) (l := l)]
 generalize l.mergeSort (fun x y => decide (x ≤ y)) = s
 rw [List.mem_iff_getElem]
 constructor
 · rintro ⟨j, hj, e⟩
   exact ⟨j, hj, by rw [← e]; simp [hj]⟩
 · rintro ⟨j, hj, e⟩
   exact ⟨j, hj, by rw [← e]; simp [hj]⟩
theorem srt_len (l : List Int) : (srt l).length ≤ l.length := by
 rw [srt, Lib.compact, Lib.compactUpTo, List.length_map]
 refine Nat.le_trans (List.length_filter_le _ _) ?_
 simp
def negs (l : List Int) : List Int := l.filter fun n => decide (n < 0)
def verdictsOf (xs : List Question) : List Int × Int := if isForm xs = false then ([], 1) else (negs (srt (usedL xs)), 0)
theorem verdicts_mem {xs : List Question} {v : Int} : v ∈ negs (srt (usedL xs)) ↔ v ∈ usedL xs ∧ v < 0 := by
 simp [negs, srt_mem]
end Go.Proofs.YtchblgaklknkcaaGreat
namespace Go.Proofs.YtchblgaklknkcaaGreat
open Go.RowKit
set_option linter.unusedVariables false
set_option linter.unusedSimpArgs false
set_option linter.unusedSectionVars false
set_option maxRecDepth 4000
end Go.Proofs.YtchblgaklknkcaaGreat
