/-
  Templates, in plain words. No condition beyond those written in each theorem.
-/
import Derived.Test.YtgbedilaiefcbaaVals
namespace Go.Proofs.Ytgbedilaiefcbaa
open Go.RowKit
set_option linter.unusedVariables false
set_option linter.unusedSimpArgs false
set_option linter.unusedSectionVars false
set_option maxRecDepth 4000

/-- the first index from i on, below n, at which q holds; n if there is none -/
def fstB (q : Nat → Bool) (n : Nat) : Nat → Nat → Nat
  | 0, _ => n
  | f + 1, i => if i < n then (if q i = true then i else fstB q n f (i + 1)) else n
theorem fstB_spec {q : Nat → Bool} {n : Nat} : ∀ {f i : Nat}, n ≤ i + f → i ≤ n → (fstB q n f i ≤ n ∧ i ≤ fstB q n f i ∧ (∀ j, i ≤ j → j < fstB q n f i → q j = false) ∧ (fstB q n f i < n → q (fstB q n f i) = true))
  | 0, i, h, hi => by
    have : i = n := by omega
    subst this
    exact ⟨Nat.le_refl _, Nat.le_refl _, fun j h1 h2 => by unfold fstB at h2; omega, fun h => by unfold fstB at h; omega⟩
  | f + 1, i, h, hi => by
    unfold fstB
    by_cases h1 : i < n
    · rw [if_pos h1]
      by_cases h2 : q i = true
      · rw [if_pos h2]
        exact ⟨by omega, Nat.le_refl _, fun j h3 h4 => by omega, fun _ => h2⟩
      · rw [if_neg h2]
        obtain ⟨a, b, c, d⟩ := fstB_spec (q := q) (n := n) (f := f) (i := i + 1) (by omega) (by omega)
        refine ⟨a, by omega, fun j h3 h4 => ?_, d⟩
        by_cases e : j = i
        · subst e; simpa using h2
        · exact c j (by omega) h4
    · rw [if_neg h1]
      have : i = n := by omega
      subst this
      exact ⟨Nat.le_refl _, Nat.le_refl _, fun j h3 h4 => by omega, fun h => by omega⟩
/-- the first byte of a text at which q holds; its size if there is none -/
def at1 (q : Nat → Bool) (s : ByteArray) : Nat := fstB (fun i => q (bAt s i)) s.size s.size 0
theorem at1_le (q : Nat → Bool) (s : ByteArray) : at1 q s ≤ s.size := (fstB_spec (by omega) (by omega)).1
theorem at1_hit {q : Nat → Bool} {s : ByteArray} (h : at1 q s < s.size) : q (bAt s (at1 q s)) = true := (fstB_spec (q := fun i => q (bAt s i)) (by omega) (by omega)).2.2.2 h
theorem at1_min {q : Nat → Bool} {s : ByteArray} {j : Nat} (h : j < at1 q s) : q (bAt s j) = false := (fstB_spec (q := fun i => q (bAt s i)) (by omega) (by omega)).2.2.1 j (by omega) h
theorem at1_eq {q : Nat → Bool} {s : ByteArray} {k : Nat} (hk : k ≤ s.size) (h1 : ∀ j, j < k → q (bAt s j) = false) (h2 : k < s.size → q (bAt s k) = true) : at1 q s = k := by
  have a := at1_le q s
  rcases Nat.lt_trichotomy (at1 q s) k with h | h | h
  · have h3 := h1 _ h
    have h4 : q (bAt s (at1 q s)) = true := at1_hit (by omega)
    rw [h4] at h3; cases h3
  · exact h
  · have h3 := at1_min h
    rw [h2 (by omega)] at h3; cases h3
def tail1 (s : ByteArray) (i : Nat) : ByteArray := s.extract (i + 1) s.size
theorem tail1_size (s : ByteArray) {i : Nat} (h : i < s.size) : (tail1 s i).size < s.size := by
  rw [tail1, ByteArray.size_extract]; omega
theorem tail1_le (s : ByteArray) (i : Nat) : (tail1 s i).size ≤ s.size := by
  rw [tail1, ByteArray.size_extract]; omega
def isB (b : Nat) : Nat → Bool := fun x => decide (x = b)
/-- a piece of a text without sections: a plain text, or the name of a place -/
abbrev PP := ByteArray × ByteArray
def rpS (g : ByteArray → Option (List PP)) (s : ByteArray) : Option (List PP) :=
  if s.size = 0 then some [] else
  if at1 sp5 s < s.size then
    if bAt s (at1 sp5 s) = 123 ∧ at1 (isB 125) (tail1 s (at1 sp5 s)) < (tail1 s (at1 sp5 s)).size ∧ isWord ((tail1 s (at1 sp5 s)).extract 0 (at1 (isB 125) (tail1 s (at1 sp5 s)))) = true then
      (g (tail1 (tail1 s (at1 sp5 s)) (at1 (isB 125) (tail1 s (at1 sp5 s))))).map fun l => (s.extract 0 (at1 sp5 s), ⟨#[]⟩) :: (⟨#[]⟩, (tail1 s (at1 sp5 s)).extract 0 (at1 (isB 125) (tail1 s (at1 sp5 s)))) :: l
    else none
  else some [(s, ⟨#[]⟩)]
def rpF : Nat → ByteArray → Option (List PP)
  | 0, _ => none
  | f + 1, s => rpS (rpF f) s
/-- the pieces of a text without sections; none if it is wrong -/
def rp (s : ByteArray) : Option (List PP) := rpF (s.size + 1) s
theorem rpS_congr {g h : ByteArray → Option (List PP)} {s : ByteArray} (e : ∀ t : ByteArray, t.size < s.size → g t = h t) : rpS g s = rpS h s := by
  unfold rpS
  by_cases h0 : s.size = 0
  · rw [if_pos h0, if_pos h0]
  · rw [if_neg h0, if_neg h0]
    by_cases h1 : at1 sp5 s < s.size
    · rw [if_pos h1, if_pos h1]
      rw [e _ (Nat.lt_of_le_of_lt (tail1_le _ _) (tail1_size s h1))]
    · rw [if_neg h1, if_neg h1]
theorem rpF_ge : ∀ (f g : Nat) (s : ByteArray), s.size < f → s.size < g → rpF f s = rpF g s
  | 0, _, s, h, _ => by omega
  | _, 0, s, _, h => by omega
  | f + 1, g + 1, s, h1, h2 => rpS_congr fun t ht => rpF_ge f g t (by omega) (by omega)
theorem rp_eq (s : ByteArray) : rp s = rpS rp s := rpS_congr fun t ht => rpF_ge _ _ t (by omega) (by omega)
/-- a part of a template -/
structure TP where
  text : ByteArray
  name : ByteArray
  sec : Bool
  inner : List PP
def TP.of (p : PP) : TP := ⟨p.1, p.2, false, []⟩
def rtS (g : ByteArray → Option (List TP)) (s : ByteArray) : Option (List TP) :=
  if at1 (isB 91) s < s.size then
    (rp (s.extract 0 (at1 (isB 91) s))).bind fun l =>
      let r := tail1 s (at1 (isB 91) s)
      let b := r.extract 0 (at1 (isB 93) r)
      if at1 (isB 93) r < r.size ∧ at1 (isB 124) b < b.size ∧ isWord (b.extract 0 (at1 (isB 124) b)) = true then
        (rp (tail1 b (at1 (isB 124) b))).bind fun i => (g (tail1 r (at1 (isB 93) r))).map fun t => l.map TP.of ++ ⟨⟨#[]⟩, b.extract 0 (at1 (isB 124) b), true, i⟩ :: t
      else none
  else (rp s).map fun l => l.map TP.of
def rtF : Nat → ByteArray → Option (List TP)
  | 0, _ => none
  | f + 1, s => rtS (rtF f) s
/-- the parts of a template; none if it is wrong -/
def rt (s : ByteArray) : Option (List TP) := rtF (s.size + 1) s
theorem rtS_congr {g h : ByteArray → Option (List TP)} {s : ByteArray} (e : ∀ t : ByteArray, t.size < s.size → g t = h t) : rtS g s = rtS h s := by
  unfold rtS
  by_cases h1 : at1 (isB 91) s < s.size
  · rw [if_pos h1, if_pos h1]
    simp only []
    rw [e _ (Nat.lt_of_le_of_lt (tail1_le _ _) (tail1_size s h1))]
  · rw [if_neg h1, if_neg h1]
theorem rtF_ge : ∀ (f g : Nat) (s : ByteArray), s.size < f → s.size < g → rtF f s = rtF g s
  | 0, _, s, h, _ => by omega
  | _, 0, s, _, h => by omega
  | f + 1, g + 1, s, h1, h2 => rtS_congr fun t ht => rtF_ge f g t (by omega) (by omega)
theorem rt_eq (s : ByteArray) : rt s = rtS rt s := rtS_congr fun t ht => rtF_ge _ _ t (by omega) (by omega)
theorem below1 {q : Nat → Bool} {s : ByteArray} {k : Nat} (h : ∀ j, j < k → q (bAt s j) = false) (h2 : q (bAt s k) = false) : ∀ j, j < k + 1 → q (bAt s j) = false := fun j hj => by
  rcases Nat.lt_or_ge j k with h3 | h3
  · exact h j h3
  · have : j = k := by omega
    subst this; exact h2
/-- the text before a byte, what follows it, and whether it is there -/
def untilT (s : ByteArray) (b : Nat) : ByteArray × ByteArray × Bool := if at1 (isB b) s < s.size then (s.extract 0 (at1 (isB b) s), tail1 s (at1 (isB b) s), true) else (⟨#[]⟩, ⟨#[]⟩, false)
theorem untilT_t {s : ByteArray} {b k : Nat} (hk : k < s.size) (h : ∀ j, j < k → isB b (bAt s j) = false) (h2 : bAt s k = b) : untilT s b = (s.extract 0 k, tail1 s k, true) := by
  have he : at1 (isB b) s = k := at1_eq (by omega) h (fun _ => by simp [isB, h2])
  rw [untilT, he, if_pos hk]
theorem untilT_f {s : ByteArray} {b : Nat} (h : ∀ j, j < s.size → isB b (bAt s j) = false) : untilT s b = (⟨#[]⟩, ⟨#[]⟩, false) := by
  have he : at1 (isB b) s = s.size := at1_eq (Nat.le_refl _) h (fun h => by omega)
  rw [untilT, he, if_neg (by omega)]
/-- neither of the five nor out of range -/
def bad1 (x : Nat) : Bool := sp5 x || !inR 32 126 x
theorem plain5_one {s : ByteArray} {k : Nat} (hk : k < s.size) : plain5 (s.extract k (k + 1)) = !bad1 (bAt s k) := by
  have hz : (s.extract k (k + 1)).size = 1 := by rw [ByteArray.size_extract]; omega
  have hb : bAt (s.extract k (k + 1)) 0 = bAt s k := by
    rw [bAt, bAt, dif_pos (by omega), dif_pos hk]
    simp [ByteArray.getElem_extract]
  rw [Bool.eq_iff_iff, plain5, allB_iff, hz]
  constructor
  · intro h
    have := h 0 (by omega)
    rw [hb] at this
    simpa [bad1] using this
  · intro h i hi
    have : i = 0 := by omega
    subst this
    rw [hb]
    simpa [bad1] using h
/-- the plain text at the beginning, the byte behind it (0: none), the rest -/
def nextT (s : ByteArray) : ByteArray × Nat × ByteArray := if at1 bad1 s < s.size then (s.extract 0 (at1 bad1 s), bAt s (at1 bad1 s), tail1 s (at1 bad1 s)) else (s, 0, ⟨#[]⟩)
theorem nextT_t {s : ByteArray} {k : Nat} (hk : k < s.size) (h : ∀ j, j < k → bad1 (bAt s j) = false) (h2 : bad1 (bAt s k) = true) : nextT s = (s.extract 0 k, bAt s k, tail1 s k) := by
  have he : at1 bad1 s = k := at1_eq (by omega) h (fun _ => h2)
  rw [nextT, he, if_pos hk]
theorem nextT_f {s : ByteArray} (h : ∀ j, j < s.size → bad1 (bAt s j) = false) : nextT s = (s, 0, ⟨#[]⟩) := by
  have he : at1 bad1 s = s.size := at1_eq (Nat.le_refl _) h (fun h => by omega)
  rw [nextT, he, if_neg (by omega)]

end Go.Proofs.Ytgbedilaiefcbaa
