/-
  Lists of texts in order, each text once. No condition beyond those written in each theorem.
-/
import Derived.Test.YtgbedilaiefcbaaReadT
import Derived.Sort.Walk0
import Derived.Lib.SlicesCompact
namespace Go.Proofs.Ytgbedilaiefcbaa
open Go.RowKit
set_option linter.unusedVariables false
set_option linter.unusedSimpArgs false
set_option linter.unusedSectionVars false
set_option maxRecDepth 4000

def bts (b : ByteArray) : List UInt8 := b.data.toList
def ofB (l : List UInt8) : ByteArray := ⟨l.toArray⟩
theorem ofB_bts (b : ByteArray) : ofB (bts b) = b := by cases b; simp [ofB, bts]
theorem bts_ofB (l : List UInt8) : bts (ofB l) = l := by simp [ofB, bts]
theorem bts_inj {x y : ByteArray} (h : bts x = bts y) : x = y := by rw [← ofB_bts x, ← ofB_bts y, h]
/-- the order of texts -/
def blt (x y : ByteArray) : Prop := bts x < bts y
theorem slt_iff {x y : ByteArray} : slt x y = true ↔ blt x y := by
  rw [slt, bytesLess_eq, Lib.toList_data, Lib.toList_data, decide_eq_true_iff]; rfl
theorem blt_irr (x : ByteArray) : ¬ blt x x := List.lt_irrefl _
theorem blt_trans {x y z : ByteArray} (h : blt x y) (k : blt y z) : blt x z := List.lt_trans h k
theorem blt_asymm {x y : ByteArray} (h : blt x y) : ¬ blt y x := fun k => blt_irr x (blt_trans h k)
theorem blt_tri {x y : ByteArray} (h : ¬ blt x y) (hne : ¬ x = y) : blt y x := by
  apply Classical.byContradiction
  intro k
  exact hne (bts_inj (List.le_antisymm (List.not_lt.1 k) (List.not_lt.1 h)))
theorem sorted_extS : ∀ {l m : List ByteArray}, l.Pairwise blt → m.Pairwise blt → (∀ x, x ∈ l ↔ x ∈ m) → l = m
  | [], [], _, _, _ => rfl
  | [], y :: _, _, _, h => by have := (h y).2 List.mem_cons_self; cases this
  | x :: _, [], _, _, h => by have := (h x).1 List.mem_cons_self; cases this
  | x :: r, y :: s, h1, h2, h => by
    have a1 := (List.pairwise_cons.1 h1)
    have a2 := (List.pairwise_cons.1 h2)
    have e : x = y := by
      have b1 := (h x).1 List.mem_cons_self
      have b2 := (h y).2 List.mem_cons_self
      rcases List.mem_cons.1 b1 with b1 | b1
      · exact b1
      · rcases List.mem_cons.1 b2 with b2 | b2
        · exact b2.symm
        · exact absurd (a1.1 y b2) (blt_asymm (a2.1 x b1))
    subst e
    rw [sorted_extS a1.2 a2.2 (fun z => ?_)]
    constructor
    · intro hz
      rcases List.mem_cons.1 ((h z).1 (List.mem_cons_of_mem _ hz)) with e | e
      · subst e; exact absurd (a1.1 z hz) (blt_irr z)
      · exact e
    · intro hz
      rcases List.mem_cons.1 ((h z).2 (List.mem_cons_of_mem _ hz)) with e | e
      · subst e; exact absurd (a2.1 z hz) (blt_irr z)
      · exact e
/-- a text put into a list in order -/
def insT : List ByteArray → ByteArray → List ByteArray
  | [], n => [n]
  | x :: r, n => if slt x n = true then x :: insT r n else if x = n then x :: r else n :: x :: r
theorem insT_mem {n : ByteArray} : ∀ {l : List ByteArray} {x : ByteArray}, x ∈ insT l n ↔ x = n ∨ x ∈ l
  | [], x => by simp [insT]
  | y :: r, x => by
    unfold insT
    split
    · rw [List.mem_cons, insT_mem, List.mem_cons]
      constructor
      · rintro (h | h | h); exact .inr (.inl h); exact .inl h; exact .inr (.inr h)
      · rintro (h | h | h); exact .inr (.inl h); exact .inl h; exact .inr (.inr h)
    · split
      · rename_i h; subst h; simp
      · simp
theorem insT_sorted {n : ByteArray} : ∀ {l : List ByteArray}, l.Pairwise blt → (insT l n).Pairwise blt
  | [], _ => by simp [insT]
  | y :: r, h => by
    obtain ⟨h1, h2⟩ := List.pairwise_cons.1 h
    unfold insT
    split
    · rename_i hlt
      refine List.Pairwise.cons (fun x hx => ?_) (insT_sorted h2)
      rcases insT_mem.1 hx with e | e
      · subst e; exact slt_iff.1 hlt
      · exact h1 x e
    · split
      · exact h
      · rename_i ha hb
        have hy : blt n y := blt_tri (fun k => ha (slt_iff.2 k)) hb
        refine List.Pairwise.cons (fun x hx => ?_) h
        rcases List.mem_cons.1 hx with e | e
        · subst e; exact hy
        · exact blt_trans hy (h1 x e)
theorem insT_at {n : ByteArray} : ∀ {l : List ByteArray} {i : Nat}, i ≤ l.length → (∀ j (hj : j < l.length), j < i → slt l[j] n = true) → (∀ h : i < l.length, slt l[i] n = false) → insT l n = if ∃ h : i < l.length, l[i] = n then l else l.take i ++ n :: l.drop i
  | [], i, hi, _, _ => by
    have : i = 0 := by simpa using hi
    subst this; simp [insT]
  | y :: r, 0, _, _, h2 => by
    have := h2 (by simp)
    simp only [List.getElem_cons_zero] at this
    unfold insT
    rw [if_neg (by simp [this])]
    by_cases e : y = n
    · rw [if_pos e, if_pos ⟨by simp, by simpa using e⟩]
    · rw [if_neg e, if_neg (by rintro ⟨_, h⟩; exact e (by simpa using h))]; simp
  | y :: r, i + 1, hi, h1, h2 => by
    have h0 := h1 0 (by simp) (by omega)
    simp only [List.getElem_cons_zero] at h0
    unfold insT
    rw [if_pos h0, insT_at (l := r) (i := i) (by simpa using hi) (fun j hj hji => h1 (j + 1) (by simpa using hj) (by omega)) (fun h => h2 (by simpa using h))]
    by_cases e : ∃ h : i < r.length, r[i] = n
    · rw [if_pos e, if_pos (by obtain ⟨h, e⟩ := e; exact ⟨by simpa using h, by simpa using e⟩)]
    · rw [if_neg e, if_neg (by rintro ⟨h, e2⟩; exact e ⟨by simpa using h, by simpa using e2⟩)]; simp
theorem insT_len (l : List ByteArray) (n : ByteArray) : (insT l n).length ≤ l.length + 1 := by
  induction l with
  | nil => simp [insT]
  | cons x r ih =>
    unfold insT
    split
    · simp only [List.length_cons]; omega
    · split <;> simp
def insAllT (st : List ByteArray) (l : List ByteArray) : List ByteArray := l.foldl insT st
theorem insAllT_mem : ∀ {l st : List ByteArray} {x : ByteArray}, x ∈ insAllT st l ↔ x ∈ st ∨ x ∈ l
  | [], st, x => by simp [insAllT]
  | y :: r, st, x => by
    have := insAllT_mem (l := r) (st := insT st y) (x := x)
    rw [insAllT] at this
    rw [insAllT, List.foldl_cons, this, insT_mem, List.mem_cons]
    constructor
    · rintro ((h | h) | h); exact .inr (.inl h); exact .inl h; exact .inr (.inr h)
    · rintro (h | h | h); exact .inl (.inr h); exact .inl (.inl h); exact .inr h
theorem insAllT_sorted : ∀ {l st : List ByteArray}, st.Pairwise blt → (insAllT st l).Pairwise blt
  | [], st, h => h
  | y :: r, st, h => by
    rw [insAllT, List.foldl_cons]
    exact insAllT_sorted (l := r) (insT_sorted h)
theorem insAllT_len (st l : List ByteArray) : (insAllT st l).length ≤ st.length + l.length := by
  induction l generalizing st with
  | nil => simp [insAllT]
  | cons x r ih =>
    have := ih (insT st x)
    have h2 := insT_len st x
    rw [insAllT] at this ⊢
    rw [List.foldl_cons, List.length_cons]; omega
/-- in order, each once -/
def srtS (l : List ByteArray) : List ByteArray := (Lib.compact ((l.map bts).mergeSort fun x y => decide (x ≤ y))).map ofB
theorem cmp_memS (d : Array (List UInt8)) : ∀ m, ∀ x, x ∈ Lib.compactUpTo d m ↔ ∃ j, j < m ∧ d[j]! = x
  | 0, x => by simp [Lib.compactUpTo]
  | m + 1, x => by
    rw [Lib.compactUpTo_succ, List.mem_append, cmp_memS d m x]
    constructor
    · rintro (⟨j, hj, e⟩ | h)
      · exact ⟨j, by omega, e⟩
      · split at h
        · simp at h; exact ⟨m, by omega, h.symm⟩
        · cases h
    · rintro ⟨j, hj, e⟩
      by_cases hm : j = m
      · subst hm
        by_cases hk : Lib.keeps d j = true
        · exact .inr (by rw [if_pos hk]; simp [e])
        · have hk2 : ¬ (j = 0 ∨ d[j]! ≠ d[j - 1]!) := by simpa [Lib.keeps] using hk
          simp only [not_or, Decidable.not_not] at hk2
          exact .inl ⟨j - 1, by omega, by rw [← hk2.2]; exact e⟩
      · exact .inl ⟨j, by omega, e⟩
theorem cmp_sortedS (d : Array (List UInt8)) (hs : ∀ i j : Nat, i ≤ j → j < d.size → d[i]! ≤ d[j]!) : ∀ m, m ≤ d.size → (Lib.compactUpTo d m).Pairwise (· < ·)
  | 0, _ => by simp [Lib.compactUpTo]
  | m + 1, hm => by
    rw [Lib.compactUpTo_succ]
    by_cases hk : Lib.keeps d m = true
    · rw [if_pos hk, List.pairwise_append]
      refine ⟨cmp_sortedS d hs m (by omega), by simp, fun x hx y hy => ?_⟩
      rw [List.mem_singleton] at hy
      subst hy
      obtain ⟨j, hj, e⟩ := (cmp_memS d m x).1 hx
      have hk2 : m = 0 ∨ d[m]! ≠ d[m - 1]! := by simpa [Lib.keeps] using hk
      have h1 := hs j (m - 1) (by omega) (by omega)
      have h2 := hs (m - 1) m (by omega) (by omega)
      rw [← e]
      rcases hk2 with hk2 | hk2
      · omega
      · refine List.lt_of_le_of_lt h1 ?_
        apply Classical.byContradiction
        intro k
        exact hk2 (List.le_antisymm (List.not_lt.1 k) h2)
    · rw [if_neg hk, List.append_nil]; exact cmp_sortedS d hs m (by omega)
theorem leS_trans (a b c : List UInt8) (h1 : (decide (a ≤ b)) = true) (h2 : (decide (b ≤ c)) = true) : (decide (a ≤ c)) = true := by simp only [decide_eq_true_eq] at *; exact List.le_trans h1 h2
theorem leS_total (a b : List UInt8) : (decide (a ≤ b) || decide (b ≤ a)) = true := by simp only [Bool.or_eq_true, decide_eq_true_eq]; exact List.le_total a b
theorem srtS_mem {l : List ByteArray} {x : ByteArray} : x ∈ srtS l ↔ x ∈ l := by
  have h : ∀ d : List UInt8, d ∈ Lib.compact ((l.map bts).mergeSort fun x y => decide (x ≤ y)) ↔ d ∈ l.map bts := by
    intro d
    rw [Lib.compact, cmp_memS, ← List.mem_mergeSort (le := fun x y => decide (x ≤ y)) (l := l.map bts)]
    generalize (l.map bts).mergeSort (fun x y => decide (x ≤ y)) = s
    rw [List.mem_iff_getElem]
    constructor
    · rintro ⟨j, hj, e⟩
      exact ⟨j, hj, by rw [← e]; simp [hj]⟩
    · rintro ⟨j, hj, e⟩
      exact ⟨j, hj, by rw [← e]; simp [hj]⟩
  rw [srtS, List.mem_map]
  constructor
  · rintro ⟨d, hd, rfl⟩
    obtain ⟨y, hy, rfl⟩ := List.mem_map.1 ((h d).1 hd)
    rw [ofB_bts]; exact hy
  · intro hx
    exact ⟨bts x, (h _).2 (List.mem_map.2 ⟨x, hx, rfl⟩), ofB_bts x⟩
theorem srtS_sorted (l : List ByteArray) : (srtS l).Pairwise blt := by
  rw [srtS, List.pairwise_map]
  refine List.Pairwise.imp (R := (· < ·)) (fun {a b} hab => by show bts _ < bts _; rw [bts_ofB, bts_ofB]; exact hab) ?_
  refine cmp_sortedS _ (fun i j hij hj => ?_) _ (by simp)
  have h := List.pairwise_mergeSort leS_trans leS_total (l.map bts)
  simp only [List.size_toArray] at hj
  generalize ((l.map bts).mergeSort fun x y => decide (x ≤ y)) = s at *
  have hi : i < s.length := by omega
  rcases Nat.lt_or_ge i j with h1 | h1
  · have := List.pairwise_iff_getElem.1 h i j hi hj h1
    simp only [decide_eq_true_eq] at this
    simpa [hi, hj] using this
  · have : i = j := by omega
    subst this; exact List.le_refl _
theorem srtS_len (l : List ByteArray) : (srtS l).length ≤ l.length := by
  rw [srtS, List.length_map, Lib.compact, Lib.compactUpTo, List.length_map]
  refine Nat.le_trans (List.length_filter_le _ _) ?_
  simp
theorem srtS_ins (l : List ByteArray) : srtS l = insAllT [] l :=
  sorted_extS (srtS_sorted l) (insAllT_sorted .nil) fun x => by rw [srtS_mem, insAllT_mem]; simp

end Go.Proofs.Ytgbedilaiefcbaa
