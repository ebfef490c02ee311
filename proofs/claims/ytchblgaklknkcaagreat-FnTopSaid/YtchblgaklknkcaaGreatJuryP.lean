/-
  Panels, selections, juries and their records, in plain words. No condition beyond those written in each theorem.
-/
import Derived.Test.YtchblgaklknkcaaGreatPollP
namespace Go.Proofs.YtchblgaklknkcaaGreat
open Go.RowKit
set_option linter.unusedVariables false
set_option linter.unusedSimpArgs false
set_option linter.unusedSectionVars false
set_option maxRecDepth 4000
def hasS (gs : List ByteArray) (x : ByteArray) : Bool := gs.any fun y => decide (y = x)
theorem hasS_iff {l : List ByteArray} {x : ByteArray} : hasS l x = true ↔ x ∈ l := by
 simp only [hasS, List.any_eq_true, decide_eq_true_eq]
 exact ⟨fun ⟨y, h1, h2⟩ => h2 ▸ h1, fun h => ⟨x, h, rfl⟩⟩
theorem hasS_t {l : List ByteArray} {x : ByteArray} {k : Nat} (hk : k < l.length) (h : l[k] = x) : hasS l x = true := hasS_iff.2 (h ▸ List.getElem_mem hk)
theorem hasS_f {l : List ByteArray} {x : ByteArray} {n : Nat} (h : ∀ j (hj : j < l.length), j < n → l[j] ≠ x) (hn : l.length ≤ n) : hasS l x = false := by
 rw [Bool.eq_false_iff]; intro h'
 obtain ⟨j, hj, e⟩ := List.getElem_of_mem (hasS_iff.1 h')
 exact h j hj (by omega) e
def nxS (s : Int) : Int := s * 48271 % 2147483647
theorem nxS_le (s : Int) : 0 ≤ nxS s ∧ nxS s ≤ 2147483646 := by unfold nxS; omega
def plS (n i : Nat) (s : Int) : Nat := i + (nxS s * ((n : Int) - i) / 2147483647).toNat
theorem plS_nn {n i : Nat} {s : Int} (hi : i < n) : 0 ≤ nxS s * ((n : Int) - i) / 2147483647 ∧ nxS s * ((n : Int) - i) / 2147483647 < (n : Int) - i := by
 have h := nxS_le s
 have h1 : 0 ≤ nxS s * ((n : Int) - i) := Int.mul_nonneg h.1 (by omega)
 have h2 : nxS s * ((n : Int) - i) ≤ 2147483646 * ((n : Int) - i) := Int.mul_le_mul_of_nonneg_right h.2 (by omega)
 generalize nxS s * ((n : Int) - i) = t at *
 omega
theorem plS_lt {n i : Nat} {s : Int} (hi : i < n) : i ≤ plS n i s ∧ plS n i s < n := by
 have := plS_nn (s := s) hi
 unfold plS; omega
theorem plS_int {n i : Nat} {s : Int} (hi : i < n) : ((plS n i s : Nat) : Int) = i + nxS s * ((n : Int) - i) / 2147483647 := by
 have := plS_nn (s := s) hi
 unfold plS; omega
def atI (xs : List Int) (i : Nat) : Int := xs[i]?.getD 0
theorem atI_of {xs : List Int} {i : Nat} (h : i < xs.length) : atI xs i = xs[i] := by simp [atI, h]
def swapL (xs : List Int) (i k : Nat) : List Int := (xs.set i (atI xs k)).set k (atI xs i)
theorem swapL_length (xs : List Int) (i k : Nat) : (swapL xs i k).length = xs.length := by simp [swapL]
theorem swapL_perm {xs : List Int} {i k : Nat} (hi : i < xs.length) (hk : k < xs.length) : (swapL xs i k).Perm xs := by
 rw [swapL, atI_of hi, atI_of hk]; exact List.set_set_perm hi hk
def shG (n : Nat) : Nat → Nat → Int → List Int → List Int × Int
  | 0, _, s, l => (l, s)
  | g + 1, i, s, l => shG n g (i + 1) (nxS s) (swapL l i (plS n i s))
def upto (n : Nat) : List Int := (List.range n).map Int.ofNat
theorem upto_length (n : Nat) : (upto n).length = n := by simp [upto]
theorem upto_succ (n : Nat) : upto (n + 1) = upto n ++ [(n : Int)] := by simp [upto, List.range_succ]
def shF (s : Int) (n : Nat) : List Int × Int := shG n (n - 1) 0 s (upto n)
theorem shG_perm (n : Nat) : ∀ (g i : Nat) (s : Int) (l : List Int), l.length = n → i + g + 1 = n → (shG n g i s l).1.Perm l
  | 0, _, _, _, _, _ => .refl _
  | g + 1, i, s, l, hl, hi => by
    have hp := plS_lt (s := s) (show i < n by omega)
    exact (shG_perm n g (i + 1) (nxS s) _ (by rw [swapL_length]; exact hl) (by omega)).trans (swapL_perm (by omega) (by omega))
theorem shF_perm (s : Int) (n : Nat) : (shF s n).1.Perm (upto n) := by
 unfold shF
 by_cases h : n = 0
 · subst h; exact .refl _
 · exact shG_perm n (n - 1) 0 s _ (upto_length n) (by omega)
theorem shF_mem {s : Int} {n : Nat} {x : Int} (h : x ∈ (shF s n).1) : 0 ≤ x ∧ x < n := by
 have := (shF_perm s n).mem_iff.1 h
 simp only [upto, List.mem_map, List.mem_range] at this
 obtain ⟨i, hi, rfl⟩ := this
 show (0 : Int) ≤ (i : Int) ∧ (i : Int) < n
 omega
def pickL (ns ps : List Int) : List Int := ps.map fun p => atI ns p.toNat
theorem pickL_perm (ns : List Int) (s : Int) : (pickL ns (shF s ns.length).1).Perm ns := by
 have h := (shF_perm s ns.length).map (fun p : Int => atI ns p.toNat)
 refine h.trans ?_
 have e : (upto ns.length).map (fun p : Int => atI ns p.toNat) = ns := by
   apply List.ext_getElem
   · simp [upto]
   · intro i h1 h2
     simp [upto, atI, h2]
 rw [e]
theorem pickL_step {ns ps : List Int} {k : Nat} (h : k < ps.length) : pickL ns (ps.take (k + 1)) = pickL ns (ps.take k) ++ [atI ns ps[k].toNat] := by
 rw [List.take_succ_eq_append_getElem h, pickL, pickL, List.map_append]; rfl
def commit (s t : Int) : Int := ((s * 16807 + t) % 2147483647 * 65539 + s) % 2147483647
structure Pan where
  S : List Int
  W : List Int
  G : List Int
def seatedL (l : List Int) : List Int := l.filter fun x => decide (x ≠ 0)
theorem seatedL_step {l : List Int} {k : Nat} (h : k < l.length) : seatedL (l.take (k + 1)) = if l[k] ≠ 0 then seatedL (l.take k) ++ [l[k]] else seatedL (l.take k) := by
 rw [List.take_succ_eq_append_getElem h, seatedL, List.filter_append]
 by_cases h0 : l[k] = 0
 · rw [if_neg (by simp [h0])]; simp [h0, seatedL]
 · rw [if_pos h0]; simp [h0, seatedL]
theorem seatedL_le (l : List Int) : (seatedL l).length ≤ l.length := List.length_filter_le _ _
def dsP (l : List Int) (i : Nat) (x : Int) : Bool := inR 1 1000000 x && !hasI (l.take i) x
def dsN (l : List Int) : Bool := allB l.length (allI (dsP l) l)
theorem dsN_iff {l : List Int} : dsN l = true ↔ l.Nodup ∧ ∀ x ∈ l, 1 ≤ x ∧ x ≤ 1000000 := by
 rw [dsN, allB_iff]
 constructor
 · intro h
   have key : ∀ i (hi : i < l.length), (1 ≤ l[i] ∧ l[i] ≤ 1000000) ∧ l[i] ∉ l.take i := fun i hi => by
     have := h i hi
     rw [allI_of hi, dsP, Bool.and_eq_true, inR_iff, Bool.not_eq_true', Bool.eq_false_iff, ne_eq, hasI_iff] at this
     exact this
   refine ⟨?_, fun x hx => ?_⟩
   · rw [List.nodup_iff_pairwise_ne, List.pairwise_iff_getElem]
     intro i j hi hj hij he
     exact (key j hj).2 (he ▸ List.mem_take_iff_getElem.2 ⟨i, by omega, rfl⟩)
   · obtain ⟨i, hi, rfl⟩ := List.getElem_of_mem hx
     exact (key i hi).1
 · rintro ⟨hn, hr⟩ i hi
   rw [allI_of hi, dsP, Bool.and_eq_true, inR_iff, Bool.not_eq_true', Bool.eq_false_iff, ne_eq, hasI_iff]
   refine ⟨hr _ (List.getElem_mem hi), fun hm => ?_⟩
   obtain ⟨j, hj, e⟩ := List.mem_take_iff_getElem.1 hm
   rw [List.nodup_iff_pairwise_ne, List.pairwise_iff_getElem] at hn
   exact hn j i (by omega) hi (by omega) e
theorem dsN_perm {l m : List Int} (h : l.Perm m) : dsN l = dsN m := by
 rw [Bool.eq_iff_iff, dsN_iff, dsN_iff, h.nodup_iff]
 exact and_congr_right fun _ => ⟨fun k x hx => k x (h.mem_iff.2 hx), fun k x hx => k x (h.mem_iff.1 hx)⟩
theorem dsN_f {l : List Int} {k : Nat} (hk : k < l.length) (h : dsP l k l[k] = false) : dsN l = false := by
 rw [dsN, allB_false hk (by rw [allI_of hk]; exact h)]
def Pan.all (p : Pan) : List Int := seatedL p.S ++ (p.W ++ p.G)
def isPan (p : Pan) : Bool := !(hasI p.S 0 && decide (0 < p.W.length)) && (inR 1 12 p.S.length && (decide (p.all.length ≤ 60) && dsN p.all))
theorem isPan_iff {p : Pan} : isPan p = true ↔ (hasI p.S 0 = true → p.W = []) ∧ (1 ≤ p.S.length ∧ p.S.length ≤ 12) ∧ p.all.length ≤ 60 ∧ dsN p.all = true := by
 simp only [isPan, Bool.and_eq_true, decide_eq_true_eq, inR_iff, Bool.not_eq_true', Bool.and_eq_false_iff, decide_eq_false_iff_not]
 constructor
 · rintro ⟨h1, h2, h3, h4⟩
   refine ⟨fun h => ?_, by omega, h3, h4⟩
   rcases h1 with h1 | h1
   · rw [h1] at h; cases h
   · cases hw : p.W with
     | nil => rfl
     | cons a r => rw [hw] at h1; simp at h1
 · rintro ⟨h1, h2, h3, h4⟩
   refine ⟨?_, by omega, h3, h4⟩
   cases h : hasI p.S 0
   · exact .inl rfl
   · right; rw [h1 h]; simp
def noPan : Pan := ⟨[], [], []⟩
def emptyP (p : Pan) (k : Nat) : Pan := ⟨p.S.set k (p.W.head?.getD 0), p.W.drop 1, p.G ++ [atI p.S k]⟩
theorem emptyP_len (p : Pan) (k : Nat) : (emptyP p k).S.length = p.S.length := by simp [emptyP]
theorem seatedL_set : ∀ {l : List Int} {k : Nat} (_ : k < l.length) (_ : atI l k ≠ 0) (y : Int) (r : List Int), (seatedL (l.set k y) ++ ((if y = 0 then [] else []) ++ (r ++ [atI l k]))).Perm (seatedL l ++ (if y = 0 then r else y :: r))
  | x :: l, 0, _, h0, y, r => by
    have hx : x ≠ 0 := h0
    simp only [List.set_cons_zero, atI, List.getElem?_cons_zero, Option.getD_some, ite_self, List.nil_append]
    by_cases hy : y = 0
    · have e1 : seatedL (y :: l) = seatedL l := by simp [seatedL, hy]
      have e2 : seatedL (x :: l) = x :: seatedL l := by simp [seatedL, hx]
      rw [e1, e2, if_pos hy, ← List.append_assoc]
      exact (List.perm_append_singleton x _).trans (by simp)
    · have e1 : seatedL (y :: l) = y :: seatedL l := by simp [seatedL, hy]
      have e2 : seatedL (x :: l) = x :: seatedL l := by simp [seatedL, hx]
      rw [e1, e2, if_neg hy, ← List.append_assoc]
      refine (List.perm_append_singleton x _).trans ?_
      simp only [List.cons_append]
      refine List.Perm.cons x ?_
      exact List.perm_middle.symm
  | x :: l, k + 1, hk, h0, y, r => by
    have h := seatedL_set (l := l) (k := k) (by simpa using hk) (by simpa [atI] using h0) y r
    have e : atI (x :: l) (k + 1) = atI l k := by simp [atI]
    rw [e, List.set_cons_succ]
    by_cases hx : x = 0
    · have e1 : ∀ m, seatedL (x :: m) = seatedL m := fun m => by simp [seatedL, hx]
      rw [e1, e1]; exact h
    · have e1 : ∀ m, seatedL (x :: m) = x :: seatedL m := fun m => by simp [seatedL, hx]
      rw [e1, e1]; exact List.Perm.cons x h
theorem emptyP_perm {p : Pan} {k : Nat} (hk : k < p.S.length) (h0 : atI p.S k ≠ 0) (hw : ∀ x ∈ p.W, x ≠ 0) : (emptyP p k).all.Perm p.all := by
 unfold Pan.all emptyP
 cases hW : p.W with
 | nil =>
   have h := seatedL_set hk h0 0 p.G
   simpa using h
 | cons y r =>
   have hy : y ≠ 0 := hw y (by rw [hW]; exact List.mem_cons_self)
   have h := seatedL_set hk h0 y (r ++ p.G)
   simp only [List.head?_cons, Option.getD_some, List.drop_succ_cons, List.drop_zero]
   simpa [hy, List.append_assoc] using h
theorem isPan_ne {p : Pan} (h : isPan p = true) : ∀ x ∈ p.W, x ≠ 0 := fun x hx => by
  have := (dsN_iff.1 (isPan_iff.1 h).2.2.2).2 x (by simp [Pan.all, hx]); omega
theorem isPan_empty {p : Pan} {k : Nat} (h : isPan p = true) (hk : k < p.S.length) (h0 : atI p.S k ≠ 0) : isPan (emptyP p k) = true := by
 have hp := emptyP_perm hk h0 (isPan_ne h)
 obtain ⟨h1, h2, h3, h4⟩ := isPan_iff.1 h
 refine isPan_iff.2 ⟨fun hh => ?_, by rw [emptyP_len]; exact h2, by rw [hp.length_eq]; exact h3, by rw [dsN_perm hp]; exact h4⟩
 have hm := hasI_iff.1 hh
 simp only [emptyP] at hm ⊢
 rcases List.mem_or_eq_of_mem_set hm with hm | hm
 · rw [h1 (hasI_iff.2 hm)]; rfl
 · cases hW : p.W with
   | nil => rfl
   | cons y r =>
     rw [hW] at hm
     exact absurd hm.symm (isPan_ne h y (by rw [hW]; exact List.mem_cons_self))
def mkPan (l : List Int) (s : Nat) : Pan := ⟨l.take s ++ List.replicate (s - l.length) 0, l.drop s, []⟩
def makePanel (l : List Int) (s : Int) : Pan × Int := if inR 1 12 s = false then (noPan, 2) else if hasI l 0 = true ∨ isPan (mkPan l s.toNat) = false then (noPan, 1) else (mkPan l s.toNat, 0)
theorem mkPan_all {l : List Int} {s : Nat} (h0 : hasI l 0 = false) : (mkPan l s).all = l := by
 have hz : ∀ x ∈ l, x ≠ 0 := fun x hx h => by
   have : hasI l 0 = true := hasI_iff.2 (h ▸ hx)
   rw [this] at h0; cases h0
 have e1 : seatedL (List.replicate (s - l.length) 0) = [] := by
   rw [seatedL, List.filter_eq_nil_iff]; intro x hx
   rw [(List.mem_replicate.1 hx).2]; simp
 have e2 : seatedL (l.take s) = l.take s := by
   rw [seatedL, List.filter_eq_self]; intro x hx
   simpa using hz x (List.mem_of_mem_take hx)
 show seatedL (l.take s ++ List.replicate (s - l.length) 0) ++ (l.drop s ++ []) = l
 rw [seatedL, List.filter_append]
 show seatedL _ ++ seatedL _ ++ _ = _
 rw [e1, e2]; simp
theorem mkPan_is {l : List Int} {s : Nat} (hd : dsN l = true) (hl : l.length ≤ 60) (h1 : 1 ≤ s) (h2 : s ≤ 12) : hasI l 0 = false ∧ isPan (mkPan l s) = true := by
 have h0 : hasI l 0 = false := by
   rw [Bool.eq_false_iff]; intro h
   have := (dsN_iff.1 hd).2 0 (hasI_iff.1 h); omega
 refine ⟨h0, isPan_iff.2 ⟨fun h => ?_, ?_, ?_, ?_⟩⟩
 · have hm := hasI_iff.1 h
   simp only [mkPan] at hm ⊢
   rcases List.mem_append.1 hm with hm | hm
   · exact absurd (hasI_iff.2 (List.mem_of_mem_take hm)) (by rw [h0]; simp)
   · have := (List.mem_replicate.1 hm).1
     exact List.drop_of_length_le (by omega)
 · simp only [mkPan, List.length_append, List.length_take, List.length_replicate]; omega
 · rw [mkPan_all h0]; exact hl
 · rw [mkPan_all h0]; exact hd
def bad (b : Int → Bool) (x : Int) : Bool := decide (x ≠ 0) && b x
def meas (p : Pan) : Nat := p.W.length + (seatedL p.S).length
theorem meas_empty {p : Pan} {k : Nat} (hk : k < p.S.length) (h0 : atI p.S k ≠ 0) (hw : ∀ x ∈ p.W, x ≠ 0) : meas (emptyP p k) + 1 = meas p := by
 have h := (emptyP_perm hk h0 hw).length_eq
 simp only [Pan.all, List.length_append] at h
 have e : (emptyP p k).G.length = p.G.length + 1 := by simp [emptyP]
 unfold meas; omega
def clr (b : Int → Bool) : Nat → Pan → Pan
  | 0, p => p
  | g + 1, p => match p.S.findIdx? (bad b) with
    | none => p
    | some k => clr b g (emptyP p k)
theorem clr_stop {b : Int → Bool} {g : Nat} {p : Pan} (h : ∀ j (hj : j < p.S.length), bad b p.S[j] = false) : clr b g p = p := by
 have e : p.S.findIdx? (bad b) = none := List.findIdx?_eq_none_iff.2 fun x hx => by
   obtain ⟨j, hj, rfl⟩ := List.getElem_of_mem hx
   exact h j hj
 cases g with
 | zero => rfl
 | succ g => simp only [clr, e]
theorem clr_go {b : Int → Bool} {g k : Nat} {p : Pan} (hk : k < p.S.length) (hb : bad b p.S[k] = true) (h : ∀ j (hj : j < p.S.length), j < k → bad b p.S[j] = false) : clr b (g + 1) p = clr b g (emptyP p k) := by
 have e : p.S.findIdx? (bad b) = some k := List.findIdx?_eq_some_iff_getElem.2 ⟨hk, hb, fun j hj => by rw [h j (by omega) hj]; simp⟩
 simp only [clr, e]
theorem clr_isPan {b : Int → Bool} : ∀ {g : Nat} {p : Pan}, isPan p = true → isPan (clr b g p) = true ∧ (clr b g p).all.Perm p.all
  | 0, _, h => ⟨h, .refl _⟩
  | g + 1, p, h => by
    unfold clr
    split
    · exact ⟨h, .refl _⟩
    · rename_i k hk
      obtain ⟨h1, h2, _⟩ := List.findIdx?_eq_some_iff_getElem.1 hk
      simp only [bad, Bool.and_eq_true, decide_eq_true_eq] at h2
      have h0 : atI p.S k ≠ 0 := by rw [atI_of h1]; exact h2.1
      obtain ⟨h3, h4⟩ := clr_isPan (b := b) (g := g) (isPan_empty h h1 h0)
      exact ⟨h3, h4.trans (emptyP_perm h1 h0 (isPan_ne h))⟩
def clearP (b : Int → Bool) (p : Pan) : Pan := clr b (meas p) p
structure Sel where
  P : Pan
  L : List Int
  T : Int
  Q : Int
def overS (x : Sel) : Bool := decide (x.Q = 2) || decide (atI x.L 0 + atI x.L 1 = 0)
def areStr (l : List Int) : Bool := decide (l.length = 2) && (inR 0 10 (atI l 0) && inR 0 10 (atI l 1))
def isSel (x : Sel) : Bool := isPan x.P && (areStr x.L && (inR 0 1 x.T && inR 0 2 x.Q))
theorem isSel_iff {x : Sel} : isSel x = true ↔ isPan x.P = true ∧ areStr x.L = true ∧ (0 ≤ x.T ∧ x.T ≤ 1) ∧ (0 ≤ x.Q ∧ x.Q ≤ 2) := by simp [isSel, inR_iff]
theorem areStr_iff {l : List Int} : areStr l = true ↔ l.length = 2 ∧ (0 ≤ atI l 0 ∧ atI l 0 ≤ 10) ∧ (0 ≤ atI l 1 ∧ atI l 1 ≤ 10) := by simp [areStr, inR_iff]
def strCode (x : Sel) (m : Int) : Int := if overS x = true then 5 else if m < 0 ∨ (x.P.S.length : Int) ≤ m then 2 else if atI x.P.S m.toNat = 0 then 4 else if atI x.L x.T.toNat = 0 then 3 else 0
def strikeS (x : Sel) (m : Int) : Sel := ⟨emptyP x.P m.toNat, x.L.set x.T.toNat (atI x.L x.T.toNat - 1), 1 - x.T, 0⟩
def passCode (x : Sel) : Int := if overS x = true then 5 else 0
def passS (x : Sel) : Sel := ⟨x.P, x.L, 1 - x.T, x.Q + 1⟩
def moveCode (x : Sel) (m : Int) : Int := if m = -1 then passCode x else strCode x m
def moveS (x : Sel) (m : Int) : Sel := if m = -1 then passS x else strikeS x m
theorem strCode_zero {x : Sel} {m : Int} (h : strCode x m = 0) : overS x = false ∧ (0 ≤ m ∧ m < x.P.S.length) ∧ atI x.P.S m.toNat ≠ 0 ∧ atI x.L x.T.toNat ≠ 0 := by
 unfold strCode at h
 repeat' split at h
 all_goals first | (exfalso; omega) | skip
 rename_i h1 h2 h3 h4
 exact ⟨by simpa using h1, by omega, h3, h4⟩
theorem passCode_zero {x : Sel} (h : passCode x = 0) : overS x = false := by
 unfold passCode at h
 split at h
 · omega
 · simp_all
theorem atI_set_self {l : List Int} {k : Nat} {v : Int} (h : k < l.length) : atI (l.set k v) k = v := by simp [atI, h]
theorem atI_set_ne {l : List Int} {k j : Nat} {v : Int} (h : k ≠ j) : atI (l.set k v) j = atI l j := by simp [atI, h]
theorem isSel_strike {x : Sel} {m : Int} (h : isSel x = true) (hc : strCode x m = 0) : isSel (strikeS x m) = true ∧ (strikeS x m).P.all.Perm x.P.all := by
 obtain ⟨h1, h2, h3, h4⟩ := isSel_iff.1 h
 obtain ⟨c1, c2, c3, c4⟩ := strCode_zero hc
 obtain ⟨s1, s2, s3⟩ := areStr_iff.1 h2
 have hm : m.toNat < x.P.S.length := by omega
 refine ⟨isSel_iff.2 ⟨isPan_empty h1 hm c3, ?_, by simp only [strikeS]; omega, by simp only [strikeS]; omega⟩, emptyP_perm hm c3 (isPan_ne h1)⟩
 simp only [strikeS]
 rw [areStr_iff, List.length_set]
 refine ⟨s1, ?_⟩
 rcases (by omega : x.T = 0 ∨ x.T = 1) with e | e
 · rw [e] at c4 ⊢
   simp only [Int.toNat_zero] at c4 ⊢
   rw [atI_set_self (by omega), atI_set_ne (by decide)]
   omega
 · rw [e] at c4 ⊢
   simp only [Int.toNat_one] at c4 ⊢
   rw [atI_set_self (by omega), atI_set_ne (by decide)]
   omega
theorem isSel_pass {x : Sel} (h : isSel x = true) (hc : passCode x = 0) : isSel (passS x) = true := by
 obtain ⟨h1, h2, h3, h4⟩ := isSel_iff.1 h
 have h5 := passCode_zero hc
 simp only [overS, Bool.or_eq_false_iff, decide_eq_false_iff_not] at h5
 exact isSel_iff.2 ⟨h1, h2, by simp only [passS]; omega, by simp only [passS]; omega⟩
theorem isSel_move {x : Sel} {m : Int} (h : isSel x = true) (hc : moveCode x m = 0) : isSel (moveS x m) = true ∧ (moveS x m).P.all.Perm x.P.all := by
 unfold moveCode at hc
 unfold moveS
 split
 · rename_i e; rw [if_pos e] at hc; exact ⟨isSel_pass h hc, .refl _⟩
 · rename_i e; rw [if_neg e] at hc; exact isSel_strike h hc
def playS : List Int → Sel → Sel × Int
  | [], x => (x, 0)
  | m :: r, x => if moveCode x m ≠ 0 then (x, moveCode x m) else playS r (moveS x m)
theorem playS_is : ∀ (ms : List Int) {x : Sel}, isSel x = true → isSel (playS ms x).1 = true ∧ (playS ms x).1.P.all.Perm x.P.all
  | [], _, h => ⟨h, .refl _⟩
  | m :: r, x, h => by
    unfold playS
    split
    · exact ⟨h, .refl _⟩
    · rename_i hc
      obtain ⟨h1, h2⟩ := isSel_move h (by omega : moveCode x m = 0)
      obtain ⟨h3, h4⟩ := playS_is r h1
      exact ⟨h3, h4.trans h2⟩
structure Jur where
  S : List Int
  A : List Int
  L : List Int
def noJur : Jur := ⟨[], [], []⟩
def swear (p : Pan) (m a : Int) : Jur × Int :=
  if isPan p = false then (noJur, 1) else if inR 1 12 m = false ∨ inR 0 6 a = false then (noJur, 2) else if ((seatedL p.S).length : Int) < m + a then (noJur, 5)
  else (⟨(seatedL p.S).take m.toNat, ((seatedL p.S).drop m.toNat).take a.toNat, []⟩, 0)
def isJur (j : Jur) : Bool := !(hasI j.S 0 && decide (0 < j.A.length)) && (inR 1 12 j.S.length && (decide (j.A.length ≤ 6) && (decide (j.L.length ≤ 60) && dsN (seatedL j.S ++ (j.A ++ j.L)))))
theorem swear_is {p : Pan} {m a : Int} (h : (swear p m a).2 = 0) : isJur (swear p m a).1 = true ∧ (∀ x ∈ (swear p m a).1.S ++ (swear p m a).1.A, x ∈ p.all) ∧ ((swear p m a).1.S.length : Int) = m ∧ ((swear p m a).1.A.length : Int) = a := by
 unfold swear at h ⊢
 split at h
 · omega
 split at h
 · omega
 split at h
 · omega
 rename_i h1 h2 h3
 rw [if_neg h1, if_neg h2, if_neg h3]
 simp only [not_or, Bool.not_eq_false] at h1 h2
 have hm := inR_iff.1 h2.1
 have ha := inR_iff.1 h2.2
 obtain ⟨p1, p2, p3, p4⟩ := isPan_iff.1 h1
 have hd := dsN_iff.1 p4
 have hsub : ((seatedL p.S).take m.toNat ++ ((seatedL p.S).drop m.toNat).take a.toNat).Sublist p.all := by
   have e : (seatedL p.S).take m.toNat ++ ((seatedL p.S).drop m.toNat).take a.toNat = (seatedL p.S).take (m.toNat + a.toNat) := by
     rw [List.take_add]
   rw [e]
   exact (List.take_sublist _ _).trans (List.sublist_append_left _ _)
 have hne : ∀ x ∈ (seatedL p.S).take m.toNat, x ≠ 0 := fun x hx => by
   have := hd.2 x (hsub.subset (List.mem_append_left _ hx)); omega
 have hS : seatedL ((seatedL p.S).take m.toNat) = (seatedL p.S).take m.toNat := by
   rw [seatedL, List.filter_eq_self]; intro x hx; simpa using hne x hx
 have hz : hasI ((seatedL p.S).take m.toNat) 0 = false := by
   rw [Bool.eq_false_iff]; intro hh
   exact hne 0 (hasI_iff.1 hh) rfl
 have l1 : ((seatedL p.S).take m.toNat).length = m.toNat := by rw [List.length_take]; omega
 have l2 : (((seatedL p.S).drop m.toNat).take a.toNat).length = a.toNat := by rw [List.length_take, List.length_drop]; omega
 refine ⟨?_, fun x hx => hsub.subset hx, ?_, ?_⟩
 · simp only [isJur, hz, Bool.false_and, Bool.not_false, Bool.true_and, Bool.and_eq_true, decide_eq_true_eq, inR_iff, l1, l2, hS, List.length_nil]
   refine ⟨by omega, by omega, by omega, dsN_iff.2 ⟨?_, fun x hx => ?_⟩⟩
   · rw [List.append_nil]; exact hd.1.sublist hsub
   · rw [List.append_nil] at hx; exact hd.2 x (hsub.subset hx)
 · show (((seatedL p.S).take m.toNat).length : Int) = m
   rw [l1]; omega
 · show ((((seatedL p.S).drop m.toNat).take a.toNat).length : Int) = a
   rw [l2]; omega
structure Tie where
  Number : Int
  Party : ByteArray
  Kind : Int
  Fair : Bool
def sameTie (s t : Tie) : Bool := decide (s.Number = t.Number) && (decide (s.Party = t.Party) && decide (s.Kind = t.Kind))
def tieP (ts : List Tie) (i : Nat) (t : Tie) : Bool := inR 1 1000000 t.Number && (isWord t.Party && (inR 0 3 t.Kind && !(ts.take i).any (sameTie t)))
def areTies (ts : List Tie) : Bool := allB ts.length (allI (tieP ts) ts) && decide (ts.length ≤ 20)
def areCase (ts : List Tie) (ps : List ByteArray) : Bool := areTies ts && (decide (ps.length ≤ 6) && ps.all isWord)
def causeB (t : Tie) (ps : List ByteArray) : Bool := hasS ps t.Party && (decide (t.Kind ≠ 3) || !t.Fair)
def biasB (ts : List Tie) (ps : List ByteArray) (n : Int) : Bool := ts.any fun t => decide (t.Number = n) && causeB t ps
theorem bias_zero {ts : List Tie} {ps : List ByteArray} (h : areTies ts = true) : biasB ts ps 0 = false := by
 rw [Bool.eq_false_iff]; intro hh
 simp only [biasB, List.any_eq_true, Bool.and_eq_true, decide_eq_true_eq] at hh
 obtain ⟨t, ht, h0, _⟩ := hh
 obtain ⟨i, hi, rfl⟩ := List.getElem_of_mem ht
 simp only [areTies, Bool.and_eq_true] at h
 have := allB_iff.1 h.1 i hi
 rw [allI_of hi, tieP, Bool.and_eq_true, inR_iff] at this
 omega
theorem bad_bias {ts : List Tie} {ps : List ByteArray} (h : areTies ts = true) (x : Int) : bad (biasB ts ps) x = biasB ts ps x := by
 by_cases hx : x = 0
 · subst hx; rw [bias_zero h]; simp [bad, bias_zero h]
 · simp [bad, hx]
structure Rec where
  C : Int
  St : Int
  Sa : Int
  N : List Int
  Se : Int
  Sk : List Int
  Mv : List Int
  Me : Int
  Al : Int
def incP (l : List Int) (i : Nat) (x : Int) : Bool := inR 1 1000000 x && !(decide (0 < i) && decide (x ≤ atI l (i - 1)))
def incr (l : List Int) : Bool := allB l.length (allI (incP l) l)
def mvP (x : Int) : Bool := inR (-1) 11 x
def areMv (l : List Int) : Bool := l.all mvP
def isRec (r : Rec) : Bool := (inR 0 2147483646 r.C && (inR 1 2147483646 r.St && (inR 0 2147483646 r.Sa && ((decide (r.N.length ≤ 60) && incr r.N) && inR 1 12 r.Se)))) && (areStr r.Sk && (decide (r.Mv.length ≤ 40) && (areMv r.Mv && (inR 1 12 r.Me && inR 0 6 r.Al))))
theorem incr_dsN {l : List Int} (h : incr l = true) : dsN l = true := by
 rw [incr, allB_iff] at h
 have key : ∀ i (hi : i < l.length), (1 ≤ l[i] ∧ l[i] ≤ 1000000) ∧ (0 < i → atI l (i - 1) < l[i]) := fun i hi => by
   have := h i hi
   rw [allI_of hi, incP, Bool.and_eq_true, inR_iff, Bool.not_eq_true', Bool.and_eq_false_iff, decide_eq_false_iff_not, decide_eq_false_iff_not] at this
   exact ⟨this.1, fun h0 => by rcases this.2 with h | h <;> omega⟩
 have mono : ∀ j (hj : j < l.length) i (hi : i < l.length), i < j → l[i] < l[j] := by
   intro j
   induction j with
   | zero => intro _ i _ h; omega
   | succ j ih =>
     intro hj i hi hij
     have h1 := (key (j + 1) hj).2 (by omega)
     rw [Nat.add_sub_cancel, atI_of (by omega)] at h1
     rcases (by omega : i < j ∨ i = j) with h2 | h2
     · have := ih (by omega) i hi h2; omega
     · subst h2; exact h1
 refine dsN_iff.2 ⟨?_, fun x hx => ?_⟩
 · rw [List.nodup_iff_pairwise_ne, List.pairwise_iff_getElem]
   intro i j hi hj hij e
   have := mono j hj i hi hij
   omega
 · obtain ⟨i, hi, rfl⟩ := List.getElem_of_mem hx
   exact (key i hi).1
theorem isRec_nums {r : Rec} (h : isRec r = true) : r.N.length ≤ 60 ∧ dsN r.N = true ∧ (1 ≤ r.Se ∧ r.Se ≤ 12) ∧ (1 ≤ r.St ∧ r.St ≤ 2147483646) ∧ areStr r.Sk = true ∧ r.Mv.length ≤ 40 ∧ (1 ≤ r.Me ∧ r.Me ≤ 12) ∧ (0 ≤ r.Al ∧ r.Al ≤ 6) ∧ (0 ≤ r.Sa ∧ r.Sa ≤ 2147483646) := by
 simp only [isRec, Bool.and_eq_true, decide_eq_true_eq, inR_iff] at h
 obtain ⟨⟨_, a2, a3, ⟨a4, a5⟩, a6⟩, b1, b2, _, b4, b5⟩ := h
 exact ⟨a4, incr_dsN a5, a6, a2, b1, b2, b4, b5, a3⟩
def lstR (r : Rec) : List Int := pickL r.N (shF r.St r.N.length).1
theorem lstR_make {r : Rec} (h : isRec r = true) : hasI (lstR r) 0 = false ∧ isPan (mkPan (lstR r) r.Se.toNat) = true ∧ makePanel (lstR r) r.Se = (mkPan (lstR r) r.Se.toNat, 0) := by
 obtain ⟨h1, h2, h3, _⟩ := isRec_nums h
 have hp := pickL_perm r.N r.St
 have hm := mkPan_is (l := lstR r) (s := r.Se.toNat) (by rw [lstR, dsN_perm hp]; exact h2) (by rw [lstR, hp.length_eq]; exact h1) (by omega) (by omega)
 refine ⟨hm.1, hm.2, ?_⟩
 rw [makePanel, if_neg (by rw [inR_iff.2 h3]; simp), if_neg (by rw [hm.1, hm.2]; simp)]
def panR (r : Rec) (ts : List Tie) (ps : List ByteArray) : Pan := clearP (biasB ts ps) (mkPan (lstR r) r.Se.toNat)
theorem panR_is {r : Rec} {ts : List Tie} {ps : List ByteArray} (h : isRec r = true) : isPan (panR r ts ps) = true ∧ (panR r ts ps).all.Perm r.N := by
 obtain ⟨h0, h1, _⟩ := lstR_make h
 obtain ⟨h2, h3⟩ := clr_isPan (b := biasB ts ps) (g := meas (mkPan (lstR r) r.Se.toNat)) h1
 refine ⟨h2, h3.trans ?_⟩
 rw [mkPan_all h0]
 exact pickL_perm r.N r.St
def begR (r : Rec) (ts : List Tie) (ps : List ByteArray) : Sel := ⟨panR r ts ps, r.Sk, 0, 0⟩
theorem begR_is {r : Rec} {ts : List Tie} {ps : List ByteArray} (h : isRec r = true) : isSel (begR r ts ps) = true :=
  isSel_iff.2 ⟨(panR_is h).1, (isRec_nums h).2.2.2.2.1, by simp [begR], by simp [begR]⟩
def juryR (r : Rec) (ts : List Tie) (ps : List ByteArray) : Jur × Int :=
  if (playS r.Mv (begR r ts ps)).2 ≠ 0 then (noJur, 5) else if (swear (playS r.Mv (begR r ts ps)).1.P r.Me r.Al).2 ≠ 0 then (noJur, 4) else ((swear (playS r.Mv (begR r ts ps)).1.P r.Me r.Al).1, 0)
def recOk (r : Rec) (ts : List Tie) (ps : List ByteArray) : Bool := isRec r && areCase ts ps
def replayR (r : Rec) (ts : List Tie) (ps : List ByteArray) : Jur × Int := if recOk r ts ps = false then (noJur, 1) else juryR r ts ps
def honR (r : Rec) : Bool := decide (commit r.St r.Sa = r.C)
def isHonR (r : Rec) : Bool × Int := if isRec r = false then (false, 1) else (honR r, 0)
def trueR (r : Rec) (ts : List Tie) (ps : List ByteArray) (j : Jur) : Bool × Int :=
  if recOk r ts ps = false then (false, 1) else (honR r && (decide ((juryR r ts ps).2 = 0) && (eqL eqI j.S (juryR r ts ps).1.S && (eqL eqI j.A (juryR r ts ps).1.A && eqL eqI j.L (juryR r ts ps).1.L))), 0)
theorem replay_zero {r : Rec} {ts : List Tie} {ps : List ByteArray} (h : (replayR r ts ps).2 = 0) : recOk r ts ps = true ∧ isRec r = true ∧ juryR r ts ps = replayR r ts ps ∧ isJur (replayR r ts ps).1 = true ∧ (∀ x ∈ (replayR r ts ps).1.S ++ (replayR r ts ps).1.A, x ∈ r.N) ∧ ((replayR r ts ps).1.S.length : Int) = r.Me ∧ ((replayR r ts ps).1.A.length : Int) = r.Al := by
 unfold replayR at h ⊢
 split at h
 · omega
 · rename_i h1
   rw [if_neg h1]
   have h1' : recOk r ts ps = true := by simpa using h1
   have h2 : isRec r = true := by simp only [recOk, Bool.and_eq_true] at h1'; exact h1'.1
   have e : (swear (playS r.Mv (begR r ts ps)).1.P r.Me r.Al).2 = 0 ∧ juryR r ts ps = ((swear (playS r.Mv (begR r ts ps)).1.P r.Me r.Al).1, 0) := by
     unfold juryR at h ⊢
     split at h
     · omega
     split at h
     · omega
     · rename_i h3 h4; exact ⟨by omega, by rw [if_neg h3, if_neg h4]⟩
   obtain ⟨s1, s2, s3, s4⟩ := swear_is e.1
   have hp := (playS_is r.Mv (begR_is (ts := ts) (ps := ps) h2)).2.trans (panR_is (ts := ts) (ps := ps) h2).2
   refine ⟨h1', h2, rfl, ?_⟩
   rw [e.2]
   exact ⟨s1, fun x hx => hp.mem_iff.1 (s2 x hx), s3, s4⟩
theorem way_verdict {xs : List Question} {az : List Int} (hf : isForm xs = true) : ∀ (f i : Nat), i < xs.length → (i : Int) ∈ usedL xs → (wayG xs az f i).2 < 0 → (wayG xs az f i).2 ∈ usedL xs
  | 0, _, _, _, h => by simp [wayG] at h
  | f + 1, i, hi, hu, h => by
    unfold wayG at h ⊢
    split at h
    · rename_i a q ha hq
      have nx := isForm_next hf hi a
      have hq' : xs[i] = q := by rw [List.getElem?_eq_getElem hi] at hq; simpa using hq
      obtain ⟨u1, u2⟩ := used_next hf hi hu
      have un : follows xs[i] a ∈ usedL xs := by unfold follows; split; exact u1; exact u2
      rw [hq'] at nx un
      by_cases h1 : a < 0
      · rw [if_pos h1] at h; simp at h
      · rw [if_neg h1] at h ⊢
        by_cases h2 : follows q a < 0
        · rw [if_pos h2]; exact un
        · rw [if_neg h2] at h ⊢
          have e : (((follows q a).toNat : Nat) : Int) = follows q a := by omega
          exact way_verdict hf f _ (by omega) (by rw [e]; exact un) h
    · simp at h
theorem top_poll {xs : List Question} {nd : Int} {vs : List (List Int)} (h : (pollVerdict xs nd vs).2 = 0) : isForm xs = true ∧ (answersOf xs nd vs).2 = 0 ∧ verdictOf xs (answersOf xs nd vs).1 = ((pollVerdict xs nd vs).1, 0) ∧ (verdictsOf xs).2 = 0 ∧ hasI (verdictsOf xs).1 (pollVerdict xs nd vs).1 = true := by
 have hp : isPoll xs nd vs = true := by
   cases hh : isPoll xs nd vs with
   | true => rfl
   | false => rw [pollVerdict, if_pos hh] at h; simp at h
 have hf := isPoll_form hp
 have e1 : pollVerdict xs nd vs = verdictOf xs (ansOf xs nd vs) := by rw [pollVerdict, if_neg (by simp [hp])]
 have e2 : answersOf xs nd vs = (ansOf xs nd vs, 0) := by rw [answersOf, if_neg (by simp [hp])]
 rw [e1] at h ⊢
 rw [e2]
 rw [verdictOf_ans hf] at h ⊢
 have hl := isForm_len hf
 by_cases h0 : (wayF xs (ansOf xs nd vs)).2 = 0
 · rw [if_pos h0] at h; simp at h
 · rw [if_neg h0]
   have hw : (wayF xs (ansOf xs nd vs)).2 ≤ 0 := wayG_le xs (ansOf xs nd vs) xs.length 0
   have hu := way_verdict hf xs.length 0 (by omega) (usedT_mono (k := 0) (by simp [usedT]) _ (Nat.zero_le _)) (show (wayG xs (ansOf xs nd vs) xs.length 0).2 < 0 from by unfold wayF at h0 hw; omega)
   refine ⟨hf, rfl, rfl, ?_, ?_⟩
   · rw [verdictsOf, if_neg (by simp [hf])]
   · rw [verdictsOf, if_neg (by simp [hf]), hasI_iff]
     exact verdicts_mem.2 ⟨hu, by show (wayF xs (ansOf xs nd vs)).2 < 0; omega⟩
theorem mulb {a b : Int} (h1 : 0 ≤ a) (h2 : a ≤ 2147483646) (h3 : 0 ≤ b) (h4 : b ≤ 1000) : 0 ≤ a * b ∧ a * b ≤ 2147483646000 := by
 have h5 : a * b ≤ 2147483646 * b := Int.mul_le_mul_of_nonneg_right h2 h3
 have h6 := Int.mul_nonneg h1 h3
 omega
theorem incP_t {l : List Int} {k : Nat} {x : Int} (h : inR 1 1000000 x = true) (h2 : k = 0 ∨ atI l (k - 1) < x) : incP l k x = true := by
 rw [incP, h, Bool.true_and, Bool.not_eq_true', Bool.and_eq_false_iff, decide_eq_false_iff_not, decide_eq_false_iff_not]
 rcases h2 with h2 | h2
 · left; omega
 · right; omega
theorem incr_f {l : List Int} {k : Nat} (hk : k < l.length) (h : incP l k l[k] = false) : incr l = false := by
 rw [incr, allB_false hk (by rw [allI_of hk]; exact h)]
theorem incP_f1 {l : List Int} {k : Nat} {x : Int} (h : inR 1 1000000 x = false) : incP l k x = false := by rw [incP, h]; rfl
theorem incP_f2 {l : List Int} {k : Nat} {x : Int} (h : 0 < k) (h2 : x ≤ atI l (k - 1)) : incP l k x = false := by
 rw [incP, decide_eq_true h, decide_eq_true h2]; simp
theorem all_of {α : Type} {p : α → Bool} {xs : List α} {n : Nat} (h : ∀ j (hj : j < xs.length), j < n → p xs[j] = true) (hn : xs.length ≤ n) : xs.all p = true := by
 rw [List.all_eq_true]; intro x hx
 obtain ⟨j, hj, rfl⟩ := List.getElem_of_mem hx
 exact h j hj (by omega)
theorem all_f {α : Type} {p : α → Bool} {xs : List α} {k : Nat} (hk : k < xs.length) (h : p xs[k] = false) : xs.all p = false := by
 rw [Bool.eq_false_iff]; intro h2
 rw [List.all_eq_true] at h2
 have := h2 _ (List.getElem_mem hk)
 rw [h] at this; cases this
theorem pan_le {p : Pan} (h : isPan p = true) : p.S.length ≤ 12 ∧ p.W.length ≤ 60 ∧ p.G.length ≤ 60 ∧ (seatedL p.S).length ≤ 12 := by
 obtain ⟨_, h2, h3, _⟩ := isPan_iff.1 h
 have h4 := seatedL_le p.S
 simp only [Pan.all, List.length_append] at h3
 omega
theorem str_at {l : List Int} (h : areStr l = true) (k : Nat) : 0 ≤ atI l k ∧ atI l k ≤ 10 := by
 obtain ⟨h1, h2, h3⟩ := areStr_iff.1 h
 rcases (by omega : k = 0 ∨ k = 1 ∨ 2 ≤ k) with e | e | e
 · rw [e]; exact h2
 · rw [e]; exact h3
 · simp [atI, List.getElem?_eq_none (show l.length ≤ k by omega)]
end Go.Proofs.YtchblgaklknkcaaGreat
