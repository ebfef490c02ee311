/-
  What a template is filled to, in plain words. No condition beyond those written in each theorem.
-/
import Derived.Test.YtgbedilaiefcbaaSrtP
namespace Go.Proofs.Ytgbedilaiefcbaa
open Go.RowKit
set_option linter.unusedVariables false
set_option linter.unusedSimpArgs false
set_option linter.unusedSectionVars false
set_option maxRecDepth 4000

theorem isWord_size {s : ByteArray} (h : isWord s = true) : 0 < s.size ∧ s.size ≤ 16 := by
  simp only [isWord, Bool.and_eq_true, inR_iff] at h
  omega
theorem isWord_ne {s : ByteArray} (h : isWord s = true) : ¬ s = ⟨#[]⟩ := fun e => by
  have := (isWord_size h).1
  rw [e] at this
  exact absurd this (by decide)
/-- a filled text, its places, those without a value -/
abbrev F3 := ByteArray × List ByteArray × List ByteArray
def addT (a : F3) (t : ByteArray) : F3 := (a.1 ++ t, a.2.1, a.2.2)
def putN (vs : List Val) (a : F3) (n : ByteArray) : F3 := (a.1 ++ (textOf vs n).1, insT a.2.1 n, if findV vs n < 0 then insT a.2.2 n else a.2.2)
def flS (vs : List Val) (g : ByteArray → F3 → Option F3) (s : ByteArray) (a : F3) : Option F3 :=
  if (nextT s).2.1 = 0 then some (addT a (nextT s).1)
  else if (nextT s).2.1 = 123 ∧ (untilT (nextT s).2.2 125).2.2 = true ∧ isWord (untilT (nextT s).2.2 125).1 = true then
    g (untilT (nextT s).2.2 125).2.1 (putN vs (addT a (nextT s).1) (untilT (nextT s).2.2 125).1)
  else none
def flF (vs : List Val) : Nat → ByteArray → F3 → Option F3
  | 0, _, _ => none
  | f + 1, s, a => flS vs (flF vs f) s a
/-- what a text without sections is filled to -/
def fl (vs : List Val) (s : ByteArray) (a : F3) : Option F3 := flF vs (s.size + 1) s a
theorem next_size {s : ByteArray} (h : (nextT s).2.1 ≠ 0) : (nextT s).1.size + (nextT s).2.2.size + 1 = s.size := by
  unfold nextT at h ⊢
  split
  · rename_i h1
    simp only [tail1, ByteArray.size_extract]; omega
  · rename_i h1
    rw [if_neg h1] at h; exact absurd rfl h
theorem next_le (s : ByteArray) : (nextT s).1.size + (nextT s).2.2.size ≤ s.size := by
  unfold nextT
  split
  · simp only [tail1, ByteArray.size_extract]; omega
  · show s.size + 0 ≤ s.size; omega
theorem until_size {s : ByteArray} {b : Nat} (h : (untilT s b).2.2 = true) : (untilT s b).1.size + (untilT s b).2.1.size + 1 = s.size := by
  unfold untilT at h ⊢
  split
  · rename_i h1
    simp only [tail1, ByteArray.size_extract]; omega
  · rename_i h1
    rw [if_neg h1] at h; cases h
theorem until_le (s : ByteArray) (b : Nat) : (untilT s b).1.size + (untilT s b).2.1.size ≤ s.size := by
  unfold untilT
  split
  · simp only [tail1, ByteArray.size_extract]; omega
  · show 0 + 0 ≤ s.size; omega
theorem flS_congr {vs : List Val} {g h : ByteArray → F3 → Option F3} {s : ByteArray} {a : F3} (e : ∀ (t : ByteArray) b, t.size < s.size → g t b = h t b) : flS vs g s a = flS vs h s a := by
  unfold flS
  by_cases h0 : (nextT s).2.1 = 0
  · rw [if_pos h0, if_pos h0]
  · rw [if_neg h0, if_neg h0]
    by_cases h1 : (nextT s).2.1 = 123 ∧ (untilT (nextT s).2.2 125).2.2 = true ∧ isWord (untilT (nextT s).2.2 125).1 = true
    · rw [if_pos h1, if_pos h1]
      have a1 := next_size h0
      have a2 := until_size h1.2.1
      exact e _ _ (by omega)
    · rw [if_neg h1, if_neg h1]
theorem flF_ge (vs : List Val) : ∀ (f g : Nat) (s : ByteArray) (a : F3), s.size < f → s.size < g → flF vs f s a = flF vs g s a
  | 0, _, s, _, h, _ => by omega
  | _, 0, s, _, _, h => by omega
  | f + 1, g + 1, s, a, h1, h2 => flS_congr fun t b ht => flF_ge vs f g t b (by omega) (by omega)
theorem fl_eq (vs : List Val) (s : ByteArray) (a : F3) : fl vs s a = flS vs (fl vs) s a := flS_congr fun t b ht => flF_ge vs _ _ t b (by omega) (by omega)
theorem fl_end {vs : List Val} {s : ByteArray} {a : F3} (h : (nextT s).2.1 = 0) : fl vs s a = some (addT a (nextT s).1) := by rw [fl_eq, flS, if_pos h]
theorem fl_wrong {vs : List Val} {s : ByteArray} {a : F3} (h : ¬ (nextT s).2.1 = 0) (h2 : ¬ ((nextT s).2.1 = 123 ∧ (untilT (nextT s).2.2 125).2.2 = true ∧ isWord (untilT (nextT s).2.2 125).1 = true)) : fl vs s a = none := by rw [fl_eq, flS, if_neg h, if_neg h2]
theorem fl_step {vs : List Val} {s : ByteArray} {a : F3} (h : ¬ (nextT s).2.1 = 0) (h2 : (nextT s).2.1 = 123 ∧ (untilT (nextT s).2.2 125).2.2 = true ∧ isWord (untilT (nextT s).2.2 125).1 = true) :
    fl vs s a = fl vs (untilT (nextT s).2.2 125).2.1 (putN vs (addT a (nextT s).1) (untilT (nextT s).2.2 125).1) := by rw [fl_eq, flS, if_neg h, if_pos h2]
/-- one piece filled -/
def putP (vs : List Val) (a : F3) (p : PP) : F3 := if p.2 = ⟨#[]⟩ then addT a p.1 else putN vs (addT a p.1) p.2
theorem asc_iff {s : ByteArray} : asc s ↔ ∀ i, i < s.size → 32 ≤ bAt s i ∧ bAt s i ≤ 126 := by
  unfold asc
  rw [allB_iff]
  constructor
  · intro h i hi
    have := inR_iff.1 (h i hi); omega
  · intro h i hi
    have := h i hi
    exact inR_iff.2 (by omega)
theorem asc_extract {s : ByteArray} (h : asc s) (k : Nat) : asc (s.extract 0 k) := by
  rw [asc_iff] at *
  intro i hi
  rw [ByteArray.size_extract] at hi
  have hb : bAt (s.extract 0 k) i = bAt s i := by
    rw [bAt, bAt, dif_pos (by rw [ByteArray.size_extract]; omega), dif_pos (by omega)]
    simp [ByteArray.getElem_extract]
  rw [hb]; exact h i (by omega)
theorem next_asc {s : ByteArray} (h : asc s) : nextT s = if at1 sp5 s < s.size then (s.extract 0 (at1 sp5 s), bAt s (at1 sp5 s), tail1 s (at1 sp5 s)) else (s, 0, ⟨#[]⟩) := by
  have e : at1 bad1 s = at1 sp5 s := by
    refine at1_eq (at1_le _ _) (fun j hj => ?_) (fun hk => ?_)
    · have h1 := at1_min hj
      have h2 := asc_iff.1 h j (Nat.lt_of_lt_of_le hj (at1_le _ _))
      have h3 : inR 32 126 (bAt s j) = true := inR_iff.2 (by omega)
      simp [bad1, h1, h3]
    · have h1 := at1_hit hk
      simp [bad1, h1]
  rw [nextT, e]
theorem nextT_empty {s : ByteArray} (h : s.size = 0) : nextT s = (s, 0, ⟨#[]⟩) := by
  rw [nextT, if_neg (by omega)]
theorem addT_empty (a : F3) {s : ByteArray} (h : s.size = 0) : addT a s = a := by
  have : s = ⟨#[]⟩ := ByteArray.ext (Array.eq_empty_of_size_eq_zero h)
  subst this
  simp [addT]
  exact Prod.ext (by show a.1 ++ ByteArray.empty = a.1; simp) rfl
theorem fold_two (vs : List Val) (a : F3) (A N : ByteArray) (l : List PP) (hN : ¬ N = ⟨#[]⟩) : ([(A, ⟨#[]⟩), (⟨#[]⟩, N)] ++ l).foldl (putP vs) a = l.foldl (putP vs) (putN vs (addT a A) N) := by
  show l.foldl (putP vs) (putP vs (putP vs a (A, ⟨#[]⟩)) (⟨#[]⟩, N)) = _
  have e1 : putP vs a (A, ⟨#[]⟩) = addT a A := if_pos rfl
  have e2 : putP vs (addT a A) (⟨#[]⟩, N) = putN vs (addT a A) N := by
    unfold putP
    rw [if_neg hN, addT_empty _ rfl]
  rw [e1, e2]
theorem fl_go {vs : List Val} {s : ByteArray} {a : F3} (ha : asc s) (h1 : at1 sp5 s < s.size) (h3 : bAt s (at1 sp5 s) = 123 ∧ at1 (isB 125) (tail1 s (at1 sp5 s)) < (tail1 s (at1 sp5 s)).size ∧ isWord ((tail1 s (at1 sp5 s)).extract 0 (at1 (isB 125) (tail1 s (at1 sp5 s)))) = true) :
    fl vs s a = fl vs (tail1 (tail1 s (at1 sp5 s)) (at1 (isB 125) (tail1 s (at1 sp5 s)))) (putN vs (addT a (s.extract 0 (at1 sp5 s))) ((tail1 s (at1 sp5 s)).extract 0 (at1 (isB 125) (tail1 s (at1 sp5 s))))) := by
  have e : nextT s = (s.extract 0 (at1 sp5 s), bAt s (at1 sp5 s), tail1 s (at1 sp5 s)) := by rw [next_asc ha, if_pos h1]
  have e1 : (nextT s).1 = s.extract 0 (at1 sp5 s) := by rw [e]
  have e2 : (nextT s).2.1 = bAt s (at1 sp5 s) := by rw [e]
  have e3 : (nextT s).2.2 = tail1 s (at1 sp5 s) := by rw [e]
  have u : untilT (tail1 s (at1 sp5 s)) 125 = ((tail1 s (at1 sp5 s)).extract 0 (at1 (isB 125) (tail1 s (at1 sp5 s))), tail1 (tail1 s (at1 sp5 s)) (at1 (isB 125) (tail1 s (at1 sp5 s))), true) := by rw [untilT, if_pos h3.2.1]
  have u1 : (untilT (nextT s).2.2 125).1 = (tail1 s (at1 sp5 s)).extract 0 (at1 (isB 125) (tail1 s (at1 sp5 s))) := by rw [e3, u]
  have u2 : (untilT (nextT s).2.2 125).2.1 = tail1 (tail1 s (at1 sp5 s)) (at1 (isB 125) (tail1 s (at1 sp5 s))) := by rw [e3, u]
  have u3 : (untilT (nextT s).2.2 125).2.2 = true := by rw [e3, u]
  have hb := asc_iff.1 ha _ h1
  rw [fl_step (by rw [e2]; omega) ⟨by rw [e2]; exact h3.1, u3, by rw [u1]; exact h3.2.2⟩, u1, u2, e1]
theorem fl_rp (vs : List Val) : ∀ (f : Nat) (s : ByteArray) (a : F3), s.size < f → asc s → fl vs s a = (rp s).map fun l => l.foldl (putP vs) a
  | 0, s, _, h, _ => by omega
  | f + 1, s, a, h, ha => by
    by_cases h0 : s.size = 0
    · have e := nextT_empty h0
      have e2 : (nextT s).2.1 = 0 := by rw [e]
      have e1 : (nextT s).1 = s := by rw [e]
      rw [rp_empty h0, fl_end e2, e1, addT_empty a h0]; rfl
    · by_cases h1 : at1 sp5 s < s.size
      · by_cases h3 : bAt s (at1 sp5 s) = 123 ∧ at1 (isB 125) (tail1 s (at1 sp5 s)) < (tail1 s (at1 sp5 s)).size ∧ isWord ((tail1 s (at1 sp5 s)).extract 0 (at1 (isB 125) (tail1 s (at1 sp5 s)))) = true
        · have hz : (tail1 (tail1 s (at1 sp5 s)) (at1 (isB 125) (tail1 s (at1 sp5 s)))).size < f := by
            have := tail1_size s h1; have := tail1_le (tail1 s (at1 sp5 s)) (at1 (isB 125) (tail1 s (at1 sp5 s))); omega
          rw [rp_step h0 h1 h3, fl_go ha h1 h3, fl_rp vs f _ _ hz (asc_tail (asc_tail ha _) _)]
          generalize rp (tail1 (tail1 s (at1 sp5 s)) (at1 (isB 125) (tail1 s (at1 sp5 s)))) = r
          have hN := isWord_ne h3.2.2
          generalize (tail1 s (at1 sp5 s)).extract 0 (at1 (isB 125) (tail1 s (at1 sp5 s))) = N at hN ⊢
          cases r with
          | none => rfl
          | some l => exact congrArg some (fold_two vs a _ _ l hN).symm
        · have e : nextT s = (s.extract 0 (at1 sp5 s), bAt s (at1 sp5 s), tail1 s (at1 sp5 s)) := by rw [next_asc ha, if_pos h1]
          have e2 : (nextT s).2.1 = bAt s (at1 sp5 s) := by rw [e]
          have e3 : (nextT s).2.2 = tail1 s (at1 sp5 s) := by rw [e]
          have hb := asc_iff.1 ha _ h1
          rw [rp_wrong h0 h1 h3, fl_wrong (by rw [e2]; omega) ?_]
          · rfl
          · rw [e2, e3]; rintro ⟨g1, g2, g3⟩
            by_cases h5 : at1 (isB 125) (tail1 s (at1 sp5 s)) < (tail1 s (at1 sp5 s)).size
            · have u : untilT (tail1 s (at1 sp5 s)) 125 = ((tail1 s (at1 sp5 s)).extract 0 (at1 (isB 125) (tail1 s (at1 sp5 s))), tail1 (tail1 s (at1 sp5 s)) (at1 (isB 125) (tail1 s (at1 sp5 s))), true) := by rw [untilT, if_pos h5]
              rw [u] at g3; exact h3 ⟨g1, h5, g3⟩
            · rw [untilT, if_neg h5] at g2; cases g2
      · have e : nextT s = (s, 0, ⟨#[]⟩) := by rw [next_asc ha, if_neg h1]
        have e2 : (nextT s).2.1 = 0 := by rw [e]
        have e1 : (nextT s).1 = s := by rw [e]
        rw [rp_text h0 h1, fl_end e2, e1]
        exact congrArg some (show addT a s = putP vs a (s, ⟨#[]⟩) from (if_pos rfl).symm)
/-- a filled template, its places, its sections, the places without a value -/
abbrev F4 := ByteArray × List ByteArray × List ByteArray × List ByteArray
def joinF (a : F4) (t : F3) : F4 := (a.1 ++ t.1, insAllT a.2.1 t.2.1, a.2.2.1, insAllT a.2.2.2 t.2.2)
def secF (vs : List Val) (a : F4) (n : ByteArray) (t : F3) : F4 :=
  if (textOf vs n).1 = ⟨#[]⟩ then (a.1, insAllT a.2.1 t.2.1, insT a.2.2.1 n, a.2.2.2) else (a.1 ++ t.1, insAllT a.2.1 t.2.1, insT a.2.2.1 n, insAllT a.2.2.2 t.2.2)
def f30 : F3 := (⟨#[]⟩, [], [])
def f40 : F4 := (⟨#[]⟩, [], [], [])
def headT (s : ByteArray) : ByteArray := if (untilT s 91).2.2 = true then (untilT s 91).1 else s
def bodyT (s : ByteArray) : ByteArray × ByteArray × Bool := untilT (untilT s 91).2.1 93
def barT (s : ByteArray) : ByteArray × ByteArray × Bool := untilT (bodyT s).1 124
def alS (vs : List Val) (g : ByteArray → F4 → Option F4) (s : ByteArray) (a : F4) : Option F4 :=
  (fl vs (headT s) f30).bind fun t =>
    if (untilT s 91).2.2 = true then
      if (bodyT s).2.2 = true ∧ (barT s).2.2 = true ∧ isWord (barT s).1 = true then
        (fl vs (barT s).2.1 f30).bind fun u => g (bodyT s).2.1 (secF vs (joinF a t) (barT s).1 u)
      else none
    else some (joinF a t)
def alF (vs : List Val) : Nat → ByteArray → F4 → Option F4
  | 0, _, _ => none
  | f + 1, s, a => alS vs (alF vs f) s a
/-- what a template is filled to -/
def al (vs : List Val) (s : ByteArray) (a : F4) : Option F4 := alF vs (s.size + 1) s a
theorem alS_congr {vs : List Val} {g h : ByteArray → F4 → Option F4} {s : ByteArray} {a : F4} (e : ∀ (t : ByteArray) b, t.size < s.size → g t b = h t b) : alS vs g s a = alS vs h s a := by
  unfold alS
  congr 1
  funext t
  by_cases h0 : (untilT s 91).2.2 = true
  · rw [if_pos h0, if_pos h0]
    by_cases h1 : (bodyT s).2.2 = true ∧ (barT s).2.2 = true ∧ isWord (barT s).1 = true
    · rw [if_pos h1, if_pos h1]
      congr 1
      funext u
      have a1 := until_size h0
      have a2 := until_size (s := (untilT s 91).2.1) (b := 93) h1.1
      exact e _ _ (by unfold bodyT; omega)
    · rw [if_neg h1, if_neg h1]
  · rw [if_neg h0, if_neg h0]
theorem alF_ge (vs : List Val) : ∀ (f g : Nat) (s : ByteArray) (a : F4), s.size < f → s.size < g → alF vs f s a = alF vs g s a
  | 0, _, s, _, h, _ => by omega
  | _, 0, s, _, _, h => by omega
  | f + 1, g + 1, s, a, h1, h2 => alS_congr fun t b ht => alF_ge vs f g t b (by omega) (by omega)
theorem al_eq (vs : List Val) (s : ByteArray) (a : F4) : al vs s a = alS vs (al vs) s a := alS_congr fun t b ht => alF_ge vs _ _ t b (by omega) (by omega)
/-- one part filled -/
def putT (vs : List Val) (a : F4) (z : TP) : F4 := if z.sec = true then secF vs a z.name (z.inner.foldl (putP vs) f30) else joinF a (putP vs f30 (z.text, z.name))
def F4.ok (a : F4) : Prop := a.2.1.Pairwise blt ∧ a.2.2.1.Pairwise blt ∧ a.2.2.2.Pairwise blt
theorem insAllT_app {st l m : List ByteArray} : insAllT st (l ++ m) = insAllT (insAllT st l) m := by simp [insAllT]
theorem insAllT_all {st l : List ByteArray} (h : st.Pairwise blt) : insAllT st (insAllT [] l) = insAllT st l :=
  sorted_extS (insAllT_sorted h) (insAllT_sorted h) fun x => by rw [insAllT_mem, insAllT_mem, insAllT_mem]; simp
/-- the pieces' text, places and places without a value, in the order of the text -/
def pText (vs : List Val) (p : PP) : ByteArray := p.1 ++ (if p.2 = ⟨#[]⟩ then ⟨#[]⟩ else (textOf vs p.2).1)
def catT (l : List ByteArray) : ByteArray := l.foldl (· ++ ·) ⟨#[]⟩
def nameP (p : PP) : List ByteArray := if p.2 = ⟨#[]⟩ then [] else [p.2]
def lacks (vs : List Val) (n : ByteArray) : Bool := decide (findV vs n < 0)
theorem catT_from (l : List ByteArray) (o : ByteArray) : l.foldl (· ++ ·) o = o ++ catT l := by
  induction l generalizing o with
  | nil => show o = o ++ ByteArray.empty; simp
  | cons x r ih =>
    have h0 : (⟨#[]⟩ : ByteArray) ++ x = x := by show ByteArray.empty ++ x = x; simp
    have h1 : catT (x :: r) = x ++ catT r := by
      show List.foldl (· ++ ·) (⟨#[]⟩ ++ x) r = _
      rw [h0]; exact ih x
    rw [List.foldl_cons, ih, h1, ByteArray.append_assoc]
theorem catT_cons (x : ByteArray) (l : List ByteArray) : catT (x :: l) = x ++ catT l := by
  have : (⟨#[]⟩ : ByteArray) ++ x = x := by show ByteArray.empty ++ x = x; simp
  rw [catT, List.foldl_cons, this, catT_from]
theorem catT_app (l m : List ByteArray) : catT (l ++ m) = catT l ++ catT m := by
  rw [catT, List.foldl_append, catT_from]; rfl
theorem fold_putP (vs : List Val) (l : List PP) (a : F3) : l.foldl (putP vs) a = (a.1 ++ catT (l.map (pText vs)), insAllT a.2.1 (l.flatMap nameP), insAllT a.2.2 ((l.flatMap nameP).filter (lacks vs))) := by
  induction l generalizing a with
  | nil => exact Prod.ext (by show a.1 = a.1 ++ ByteArray.empty; simp) rfl
  | cons p r ih =>
    rw [List.foldl_cons, ih, List.map_cons, catT_cons, List.flatMap_cons, List.filter_append, insAllT_app, insAllT_app, ← ByteArray.append_assoc]
    have e : putP vs a p = (a.1 ++ pText vs p, insAllT a.2.1 (nameP p), insAllT a.2.2 ((nameP p).filter (lacks vs))) := by
      unfold putP pText nameP
      by_cases h : p.2 = ⟨#[]⟩
      · rw [if_pos h, if_pos h, if_pos h]
        refine Prod.ext ?_ rfl
        show a.1 ++ p.1 = a.1 ++ (p.1 ++ ByteArray.empty)
        simp
      · rw [if_neg h, if_neg h, if_neg h]
        unfold putN addT
        refine Prod.ext ?_ (Prod.ext rfl ?_)
        · show (a.1 ++ p.1) ++ (textOf vs p.2).1 = a.1 ++ (p.1 ++ (textOf vs p.2).1)
          rw [ByteArray.append_assoc]
        · by_cases h2 : findV vs p.2 < 0
          · simp [lacks, h2, insAllT]
          · simp [lacks, h2, insAllT]
    rw [e]
theorem joinF_fold {vs : List Val} {a : F4} (h : a.ok) (l : List PP) : joinF a (l.foldl (putP vs) f30) = (l.map TP.of).foldl (putT vs) a ∧ ((l.map TP.of).foldl (putT vs) a).ok := by
  have hs : ∀ (l : List PP) (a : F4), a.ok → (l.map TP.of).foldl (putT vs) a = (a.1 ++ catT (l.map (pText vs)), insAllT a.2.1 (l.flatMap nameP), a.2.2.1, insAllT a.2.2.2 ((l.flatMap nameP).filter (lacks vs))) := by
    intro l
    induction l with
    | nil => intro a _; exact Prod.ext (by show a.1 = a.1 ++ ByteArray.empty; simp) rfl
    | cons p r ih =>
      intro a ha
      have e : putT vs a (TP.of p) = (a.1 ++ pText vs p, insAllT a.2.1 (nameP p), a.2.2.1, insAllT a.2.2.2 ((nameP p).filter (lacks vs))) := by
        unfold putT
        rw [if_neg (by simp [TP.of])]
        have := fold_putP vs [p] f30
        rw [List.foldl_cons, List.foldl_nil] at this
        show joinF a (putP vs f30 p) = _
        rw [this]
        unfold joinF f30
        simp only [List.map_cons, List.map_nil, List.flatMap_cons, List.flatMap_nil, List.append_nil, insAllT_all ha.1, insAllT_all ha.2.2, catT_cons]
        refine Prod.ext ?_ rfl
        show a.1 ++ (ByteArray.empty ++ (pText vs p ++ ByteArray.empty)) = _
        simp
      rw [List.map_cons, List.foldl_cons, ih _ (by rw [e]; exact ⟨insAllT_sorted ha.1, ha.2.1, insAllT_sorted ha.2.2⟩), e]
      simp only [List.map_cons, catT_cons, List.flatMap_cons, List.filter_append, insAllT_app, ← ByteArray.append_assoc]
  rw [hs l a h]
  refine ⟨?_, ⟨insAllT_sorted h.1, h.2.1, insAllT_sorted h.2.2⟩⟩
  rw [fold_putP]
  unfold joinF f30
  simp only [insAllT_all h.1, insAllT_all h.2.2]
  refine Prod.ext ?_ rfl
  show a.1 ++ (ByteArray.empty ++ _) = _
  simp
theorem secF_ok {vs : List Val} {a : F4} (h : a.ok) (n : ByteArray) (t : F3) : (secF vs a n t).ok := by
  unfold secF
  split
  · exact ⟨insAllT_sorted h.1, insT_sorted h.2.1, h.2.2⟩
  · exact ⟨insAllT_sorted h.1, insT_sorted h.2.1, insAllT_sorted h.2.2⟩
theorem fl_rp' (vs : List Val) {s : ByteArray} (a : F3) (h : asc s) : fl vs s a = (rp s).map fun l => l.foldl (putP vs) a := fl_rp vs _ s a (Nat.lt_succ_self _) h
theorem al_rt (vs : List Val) : ∀ (f : Nat) (s : ByteArray) (a : F4), s.size < f → asc s → a.ok → al vs s a = (rt s).map fun l => l.foldl (putT vs) a
  | 0, s, _, h, _, _ => by omega
  | f + 1, s, a, h, ha, hok => by
    rw [al_eq, alS, rt_eq, rtS]
    by_cases h1 : at1 (isB 91) s < s.size
    · have eu : untilT s 91 = (s.extract 0 (at1 (isB 91) s), tail1 s (at1 (isB 91) s), true) := by rw [untilT, if_pos h1]
      have eh : headT s = s.extract 0 (at1 (isB 91) s) := by rw [headT, eu]; rfl
      have hr := asc_tail ha (at1 (isB 91) s)
      rw [eh, if_pos h1, fl_rp' vs f30 (asc_extract ha _)]
      cases rp (s.extract 0 (at1 (isB 91) s)) with
      | none => rfl
      | some l =>
        simp only [Option.map_some, Option.bind_some]
        rw [if_pos (by rw [eu])]
        obtain ⟨j1, j2⟩ := joinF_fold (vs := vs) hok l
        rw [j1]
        generalize hR : tail1 s (at1 (isB 91) s) = R at *
        have eb : bodyT s = untilT R 93 := by rw [bodyT, eu]
        by_cases h2 : at1 (isB 93) R < R.size ∧ at1 (isB 124) (R.extract 0 (at1 (isB 93) R)) < (R.extract 0 (at1 (isB 93) R)).size ∧ isWord ((R.extract 0 (at1 (isB 93) R)).extract 0 (at1 (isB 124) (R.extract 0 (at1 (isB 93) R)))) = true
        · have eb2 : bodyT s = (R.extract 0 (at1 (isB 93) R), tail1 R (at1 (isB 93) R), true) := by rw [eb, untilT, if_pos h2.1]
          have ec : barT s = ((R.extract 0 (at1 (isB 93) R)).extract 0 (at1 (isB 124) (R.extract 0 (at1 (isB 93) R))), tail1 (R.extract 0 (at1 (isB 93) R)) (at1 (isB 124) (R.extract 0 (at1 (isB 93) R))), true) := by rw [barT, eb2]; simp only; rw [untilT, if_pos h2.2.1]
          rw [if_pos h2, if_pos (by rw [eb2, ec]; exact ⟨rfl, rfl, h2.2.2⟩), eb2, ec]
          simp only []
          rw [fl_rp' vs f30 (asc_tail (asc_extract hr _) _)]
          cases rp (tail1 (R.extract 0 (at1 (isB 93) R)) (at1 (isB 124) (R.extract 0 (at1 (isB 93) R)))) with
          | none => rfl
          | some i =>
            simp only [Option.map_some, Option.bind_some]
            rw [al_rt vs f _ _ (by have := tail1_size s h1; rw [hR] at this; have := tail1_le R (at1 (isB 93) R); omega) (asc_tail hr _) (secF_ok j2 _ _), Option.map_map]
            congr 1
            funext t
            simp only [Function.comp, List.foldl_append, List.foldl_cons]
            rfl
        · rw [if_neg h2, if_neg ?_]
          · rfl
          · rw [eb, barT, eb]
            rintro ⟨g1, g2, g3⟩
            by_cases k1 : at1 (isB 93) R < R.size
            · have e2 : untilT R 93 = (R.extract 0 (at1 (isB 93) R), tail1 R (at1 (isB 93) R), true) := by rw [untilT, if_pos k1]
              rw [e2] at g2 g3
              simp only at g2 g3
              by_cases k2 : at1 (isB 124) (R.extract 0 (at1 (isB 93) R)) < (R.extract 0 (at1 (isB 93) R)).size
              · have e3 : untilT (R.extract 0 (at1 (isB 93) R)) 124 = ((R.extract 0 (at1 (isB 93) R)).extract 0 (at1 (isB 124) (R.extract 0 (at1 (isB 93) R))), tail1 (R.extract 0 (at1 (isB 93) R)) (at1 (isB 124) (R.extract 0 (at1 (isB 93) R))), true) := by rw [untilT, if_pos k2]
                rw [e3] at g3
                exact h2 ⟨k1, k2, g3⟩
              · rw [untilT, if_neg k2] at g2; cases g2
            · rw [untilT, if_neg k1] at g1; cases g1
    · have eu : untilT s 91 = (⟨#[]⟩, ⟨#[]⟩, false) := by rw [untilT, if_neg h1]
      have eh : headT s = s := by rw [headT, eu]; rfl
      rw [eh, if_neg h1, fl_rp' vs f30 ha]
      cases rp s with
      | none => rfl
      | some l =>
        simp only [Option.map_some, Option.bind_some]
        rw [if_neg (by rw [eu]; simp), (joinF_fold (vs := vs) hok l).1]
/-- the places of a part, those in sections that are accepted, too -/
def stepP (acc : ByteArray → Bool) (z : TP) : List ByteArray := if z.sec = true then (if acc z.name = true then z.inner.flatMap nameP else []) else nameP (z.text, z.name)
def fillZ (vs : List Val) (z : TP) : ByteArray := if z.sec = true then (if (textOf vs z.name).1 = ⟨#[]⟩ then ⟨#[]⟩ else catT (z.inner.map (pText vs))) else pText vs (z.text, z.name)
def sectN (z : TP) : List ByteArray := if z.sec = true then [z.name] else []
def accV (vs : List Val) (n : ByteArray) : Bool := !decide ((textOf vs n).1 = ⟨#[]⟩)
theorem fold_putT (vs : List Val) (l : List TP) (a : F4) (h : a.ok) : l.foldl (putT vs) a =
    (a.1 ++ catT (l.map (fillZ vs)), insAllT a.2.1 (l.flatMap (stepP fun _ => true)), insAllT a.2.2.1 (l.flatMap sectN), insAllT a.2.2.2 ((l.flatMap (stepP (accV vs))).filter (lacks vs))) := by
  induction l generalizing a with
  | nil => exact Prod.ext (by show a.1 = a.1 ++ ByteArray.empty; simp) rfl
  | cons z r ih =>
    have e : putT vs a z = (a.1 ++ fillZ vs z, insAllT a.2.1 (stepP (fun _ => true) z), insAllT a.2.2.1 (sectN z), insAllT a.2.2.2 ((stepP (accV vs) z).filter (lacks vs))) := by
      unfold putT fillZ stepP sectN accV
      by_cases hz : z.sec = true
      · simp only [hz, if_true]
        rw [fold_putP]
        unfold secF f30
        have e0 : (⟨#[]⟩ : ByteArray) ++ catT (z.inner.map (pText vs)) = catT (z.inner.map (pText vs)) := by show ByteArray.empty ++ _ = _; simp
        by_cases ht : (textOf vs z.name).1 = ⟨#[]⟩
        · simp only [ht, if_true, decide_true, Bool.not_true, Bool.false_eq_true, if_false, insAllT_all h.1]
          refine Prod.ext ?_ rfl
          show a.1 = a.1 ++ ByteArray.empty
          simp
        · simp only [ht, if_false, decide_false, Bool.not_false, if_true, insAllT_all h.1, insAllT_all h.2.2, e0]
          rfl
      · simp only [hz, if_false, Bool.false_eq_true]
        have := fold_putP vs [(z.text, z.name)] f30
        rw [List.foldl_cons, List.foldl_nil] at this
        rw [this]
        unfold joinF f30
        simp only [List.map_cons, List.map_nil, List.flatMap_cons, List.flatMap_nil, List.append_nil, insAllT_all h.1, insAllT_all h.2.2, catT_cons]
        refine Prod.ext ?_ rfl
        show a.1 ++ (ByteArray.empty ++ (pText vs (z.text, z.name) ++ ByteArray.empty)) = _
        simp
    rw [List.foldl_cons, ih _ (by rw [e]; exact ⟨insAllT_sorted h.1, insAllT_sorted h.2.1, insAllT_sorted h.2.2⟩), e]
    simp only [List.map_cons, catT_cons, List.flatMap_cons, List.filter_append, insAllT_app, ← ByteArray.append_assoc]
/-- what the reference tells of a template, by its parts -/
theorem al_all (vs : List Val) {s : ByteArray} (h : asc s) : al vs s f40 = (rt s).map fun l =>
    (catT (l.map (fillZ vs)), srtS (l.flatMap (stepP fun _ => true)), srtS (l.flatMap sectN), srtS ((l.flatMap (stepP (accV vs))).filter (lacks vs))) := by
  have hok : f40.ok := ⟨.nil, .nil, .nil⟩
  rw [al_rt vs _ s f40 (Nat.lt_succ_self _) h hok]
  congr 1
  funext l
  rw [fold_putT vs l f40 hok, srtS_ins, srtS_ins, srtS_ins]
  refine Prod.ext ?_ rfl
  show ByteArray.empty ++ _ = _
  simp

end Go.Proofs.Ytgbedilaiefcbaa
