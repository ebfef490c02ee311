/-
  Who sees what, in plain words. No condition beyond those written in each theorem.
-/
import Derived.Test.YtbihpggbabmebaaSeal3
import Derived.Test.YtbihpggbabmebaaSealF
namespace Go.Proofs.Ytbihpggbabmebaa
open Go.RowKit
set_option linter.unusedVariables false
set_option linter.unusedSimpArgs false
set_option linter.unusedSectionVars false
set_option maxRecDepth 4000

theorem findI_hit {α : Type} {f : α → Bool} {xs : List α} (h : 0 ≤ findI f xs) : ∃ hk : (findI f xs).toNat < xs.length, f xs[(findI f xs).toNat] = true := by
  unfold findI at *
  cases hq : xs.findIdx? f with
  | none => rw [hq] at h; simp at h
  | some i =>
    rw [List.findIdx?_eq_some_iff_getElem] at hq
    obtain ⟨h1, h2, _⟩ := hq
    exact ⟨by simpa using h1, by simpa using h2⟩
theorem role_idx {rs : List Role} (h : areRoles rs = true) {i : Nat} (hi : i < rs.length) : roleOf rs rs[i].Name = (i : Int) := by
  have := areRoles_at h hi
  simp only [roleP, Bool.and_eq_true, decide_eq_true_eq] at this
  exact this.2
theorem file_idx {fs : List File} (h : areFiles fs = true) {i : Nat} (hi : i < fs.length) : fileOf fs fs[i].Code = (i : Int) := by
  have := areFiles_at h hi
  simp only [fileP, Bool.and_eq_true, decide_eq_true_eq] at this
  exact this.2
theorem role_hit {rs : List Role} {name : ByteArray} (h : 0 ≤ roleOf rs name) : ∃ hk : (roleOf rs name).toNat < rs.length, rs[(roleOf rs name).toNat].Name = name := by
  obtain ⟨h1, h2⟩ := findI_hit h
  exact ⟨h1, of_decide_eq_true h2⟩
theorem seenBy_zero {rs : List Role} {fs : List File} {role : ByteArray} {day : Int} (h : (seenBy rs fs role day).2 = 0) :
    sealCode rs fs day = 0 ∧ 0 ≤ roleOf rs role ∧ seenBy rs fs role day = ((fs.filter fun f => seeP (getR rs (roleOf rs role)) f day).map (·.Code), 0) := by
  unfold seenBy at h ⊢
  by_cases h1 : sealCode rs fs day ≠ 0
  · rw [if_pos h1] at h; exact absurd h h1
  · rw [if_neg h1] at h ⊢
    by_cases h2 : roleOf rs role < 0
    · rw [if_pos h2] at h; simp at h
    · rw [if_neg h2]; exact ⟨by simpa using h1, by omega, rfl⟩
theorem seenBy_of {rs : List Role} {fs : List File} {role : ByteArray} {day : Int} (h : sealCode rs fs day = 0) (h2 : 0 ≤ roleOf rs role) :
    seenBy rs fs role day = ((fs.filter fun f => seeP (getR rs (roleOf rs role)) f day).map (·.Code), 0) := by
  rw [seenBy, if_neg (by simp [h]), if_neg (by omega)]
/-- a role is told for a file just if the file is told for the role -/
theorem who_seen {rs : List Role} {fs : List File} {role : ByteArray} {day : Int} (h : (seenBy rs fs role day).2 = 0) {i : Nat} (hi : i < fs.length) :
    (whoSees rs fs fs[i].Code day).2 = 0 ∧ hasS (whoSees rs fs fs[i].Code day).1 role = hasS (seenBy rs fs role day).1 fs[i].Code := by
  obtain ⟨hc, hr, e⟩ := seenBy_zero h
  obtain ⟨hR, hF, hD⟩ := sealCode_zero hc
  obtain ⟨hk, hn⟩ := role_hit hr
  have hfi := file_idx hF hi
  have hgF : getF fs (fileOf fs fs[i].Code) = fs[i] := by rw [hfi, getF_eq (by simpa using hi)]; simp
  have hgR : getR rs (roleOf rs role) = rs[(roleOf rs role).toNat] := getR_eq hk
  have ew : whoSees rs fs fs[i].Code day = ((rs.filter fun r => seeP r fs[i] day).map (·.Name), 0) := by
    rw [whoSees, if_neg (by simp [hc]), if_neg (by rw [hfi]; omega), hgF]
  rw [ew, e]
  refine ⟨rfl, ?_⟩
  rw [Bool.eq_iff_iff, hasS_iff, hasS_iff, hgR]
  simp only [List.mem_map, List.mem_filter]
  constructor
  · rintro ⟨r, ⟨hm, hs⟩, rfl⟩
    obtain ⟨j, hj, rfl⟩ := List.getElem_of_mem hm
    have hji := role_idx hR hj
    refine ⟨fs[i], ⟨List.getElem_mem hi, ?_⟩, rfl⟩
    simp only [hji, Int.toNat_natCast]; exact hs
  · rintro ⟨f, ⟨hm, hs⟩, he⟩
    obtain ⟨j, hj, rfl⟩ := List.getElem_of_mem hm
    have hji := file_idx hF hj
    rw [he, hfi] at hji
    have : i = j := by omega
    subst this
    exact ⟨_, ⟨List.getElem_mem hk, hs⟩, hn⟩
theorem reaches_iff {l o : Int} {gs os : List ByteArray} : reaches l gs o os = true ↔ (∀ g ∈ os, g ∈ gs) ∧ o ≤ l := by
  simp only [reaches, Bool.and_eq_true, decide_eq_true_eq]
  refine and_congr ⟨fun h g m => ?_, fun h => allB_iff.2 fun i hi => ?_⟩ Iff.rfl
  · obtain ⟨i, hi, rfl⟩ := List.getElem_of_mem m
    have := allB_iff.1 h i hi
    rw [allI_of hi] at this
    exact hasS_iff.1 this
  · rw [allI_of hi]; exact hasS_iff.2 (h _ (List.getElem_mem hi))
theorem isAbove_zero {rs : List Role} {a b : ByteArray} (h : (isAbove rs a b).2 = 0) (h1 : (isAbove rs a b).1 = true) :
    reaches (getR rs (roleOf rs a)).Level (getR rs (roleOf rs a)).Groups (getR rs (roleOf rs b)).Level (getR rs (roleOf rs b)).Groups = true := by
  unfold isAbove at h h1
  by_cases h2 : areRoles rs = false
  · rw [if_pos h2] at h; simp at h
  · rw [if_neg h2] at h h1
    by_cases h3 : roleOf rs a < 0 ∨ roleOf rs b < 0
    · rw [if_pos h3] at h; simp at h
    · rw [if_neg h3] at h1; exact h1
/-- a role that is above another one sees as much -/
theorem above_sees {rs : List Role} {fs : List File} {a b : ByteArray} {day : Int} (h : (isAbove rs a b).2 = 0) (h1 : (isAbove rs a b).1 = true) (ha : (seenBy rs fs a day).2 = 0) (hb : (seenBy rs fs b day).2 = 0) :
    ∀ c ∈ (seenBy rs fs b day).1, hasS (seenBy rs fs a day).1 c = true := by
  obtain ⟨_, _, ea⟩ := seenBy_zero ha
  obtain ⟨_, _, eb⟩ := seenBy_zero hb
  have hr := reaches_iff.1 (isAbove_zero h h1)
  rw [ea, eb]
  intro c hc
  rw [hasS_iff]
  simp only [List.mem_map, List.mem_filter] at hc ⊢
  obtain ⟨f, ⟨hm, hs⟩, rfl⟩ := hc
  refine ⟨f, ⟨hm, ?_⟩, rfl⟩
  unfold seeP at hs ⊢
  simp only [Bool.or_eq_true] at hs ⊢
  rcases hs with hs | hs
  · exact .inl hs
  · have h2 := reaches_iff.1 hs
    exact .inr (reaches_iff.2 ⟨fun g m => hr.1 g (h2.1 g m), by omega⟩)
/-- the first day is the first one -/
theorem first_may {rs : List Role} {fs : List File} {a b : ByteArray} {day : Int} (h : (maySee rs fs a b day).2 = 0) (h1 : (firstDay rs fs a b).2 = 0) (h2 : 0 < (firstDay rs fs a b).1) :
    (maySee rs fs a b day).1 = decide ((firstDay rs fs a b).1 ≤ day) := by
  unfold maySee at h ⊢
  by_cases g1 : sealCode rs fs day ≠ 0
  · rw [if_pos g1] at h; exact absurd h g1
  · rw [if_neg g1] at h ⊢
    by_cases g2 : roleOf rs a < 0 ∨ fileOf fs b < 0
    · rw [if_pos g2] at h; simp at h
    · rw [if_neg g2]
      unfold firstDay at h1 h2 ⊢
      by_cases g3 : sealCode rs fs 0 ≠ 0
      · rw [if_pos g3] at h1; exact absurd h1 g3
      · rw [if_neg g3, if_neg g2] at h1 h2 ⊢
        by_cases g4 : seeP (getR rs (roleOf rs a)) (getF fs (fileOf fs b)) 0 = true
        · rw [if_pos g4] at h2; simp at h2
        · rw [if_neg g4] at h1 h2 ⊢
          by_cases g5 : (getF fs (fileOf fs b)).Until = 20000
          · rw [if_pos g5] at h1; simp at h1
          · rw [if_neg g5]
            simp only [seeP, Bool.or_eq_true, not_or, Bool.not_eq_true] at g4
            simp only [seeP, g4.2, Bool.or_false]
            exact decide_eq_decide.2 (by omega)
theorem files_of {fs gs : List File} (h : areFiles fs = true) (hl : gs.length = fs.length) (hc : ∀ i (h1 : i < gs.length) (h2 : i < fs.length), gs[i].Code = fs[i].Code ∧ gs[i].Groups = fs[i].Groups ∧ inR 0 9 gs[i].Level = true ∧ inR 0 20000 gs[i].Until = true) : areFiles gs = true := by
  have hf : ∀ code, fileOf gs code = fileOf fs code := fun code => by
    have key : ∀ (gs fs : List File), gs.length = fs.length → (∀ i (h1 : i < gs.length) (h2 : i < fs.length), gs[i].Code = fs[i].Code) → gs.findIdx? (fun f => decide (f.Code = code)) = fs.findIdx? (fun f => decide (f.Code = code)) := by
      intro gs
      induction gs with
      | nil => intro fs hl _; cases fs with
        | nil => rfl
        | cons _ _ => simp at hl
      | cons g r ih =>
        intro fs hl hc
        cases fs with
        | nil => simp at hl
        | cons f s =>
          have h0 := hc 0 (by simp) (by simp)
          simp only [List.getElem_cons_zero] at h0
          simp only [List.findIdx?_cons, h0]
          rw [ih s (by simpa using hl) (fun i h1 h2 => hc (i + 1) (by simpa using h1) (by simpa using h2))]
    rw [fileOf, fileOf, findI, findI, key gs fs hl (fun i h1 h2 => (hc i h1 h2).1)]
  have hat := fun {i : Nat} (hi : i < fs.length) => areFiles_at h hi
  simp only [areFiles, Bool.and_eq_true, decide_eq_true_eq] at h ⊢
  refine ⟨allB_iff.2 fun i hi => ?_, by omega⟩
  rw [allI_of hi]
  have h1 := hat (by omega : i < fs.length)
  obtain ⟨c1, c2, c3, c4⟩ := hc i hi (by omega)
  simp only [fileP, Bool.and_eq_true, decide_eq_true_eq] at h1 ⊢
  rw [hf, c1, c2]
  exact ⟨⟨⟨⟨h1.1.1.1.1, c3⟩, h1.1.1.2⟩, c4⟩, h1.2⟩
theorem sealFile_zero {fs : List File} {file : ByteArray} {level till : Int} (h : (sealFile fs file level till).2 = 0) :
    areFiles fs = true ∧ inR 0 9 level = true ∧ inR 0 20000 till = true ∧ (fileOf fs file).toNat < fs.length ∧ sealFile fs file level till = (sealL fs (fileOf fs file).toNat level till, 0) := by
  unfold sealFile at h ⊢
  by_cases h1 : areFiles fs = false
  · rw [if_pos h1] at h; simp at h
  · rw [if_neg h1] at h ⊢
    by_cases h2 : inR 0 9 level = false ∨ inR 0 20000 till = false
    · rw [if_pos h2] at h; simp at h
    · rw [if_neg h2] at h ⊢
      by_cases h3 : fileOf fs file < 0
      · rw [if_pos h3] at h; simp at h
      · rw [if_neg h3]
        simp only [not_or, Bool.not_eq_false] at h1 h2
        have := fileOf_lt fs file
        exact ⟨h1, h2.1, h2.2, by omega, rfl⟩
/-- sealing lets nobody see more -/
theorem seal_sees {rs : List Role} {fs : List File} {file nm : ByteArray} {level till day : Int} (h : (sealFile fs file level till).2 = 0) (hs : (seenBy rs fs nm day).2 = 0) :
    (seenBy rs (sealFile fs file level till).1 nm day).2 = 0 ∧ ∀ c ∈ (seenBy rs (sealFile fs file level till).1 nm day).1, hasS (seenBy rs fs nm day).1 c = true := by
  obtain ⟨hF, hl, ht, hk, e⟩ := sealFile_zero h
  obtain ⟨hc, hr, es⟩ := seenBy_zero hs
  obtain ⟨hR, _, hD⟩ := sealCode_zero hc
  rw [e]
  simp only
  generalize hkk : (fileOf fs file).toNat = k at *
  have hl1 := inR_iff.1 hl
  have ht1 := inR_iff.1 ht
  have hat : ∀ i (h1 : i < (sealL fs k level till).length) (h2 : i < fs.length), (sealL fs k level till)[i] = if k = i then sealF fs[i] level till else fs[i] := fun i h1 h2 => by
    simp only [sealL_at hk, List.getElem_set]
    split
    · rename_i e; subst e; rfl
    · rfl
  have hF2 : areFiles (sealL fs k level till) = true := files_of hF (sealL_length _ _ _ _) fun i h1 h2 => by
    have hp := areFiles_at hF h2
    simp only [fileP, Bool.and_eq_true] at hp
    have hq1 := inR_iff.1 hp.1.1.1.2
    have hq2 := inR_iff.1 hp.1.2
    rw [hat i h1 h2]
    split
    · refine ⟨rfl, rfl, inR_iff.2 ?_, inR_iff.2 ?_⟩ <;> simp only [sealF] <;> omega
    · exact ⟨rfl, rfl, inR_iff.2 hq1, inR_iff.2 hq2⟩
  have hc2 : sealCode rs (sealL fs k level till) day = 0 := by
    rw [sealCode, if_neg (by simp [hR, hF2]), if_neg (by simp [hD])]
  rw [seenBy_of hc2 hr, es]
  refine ⟨rfl, fun c hm => ?_⟩
  rw [hasS_iff]
  simp only [List.mem_map, List.mem_filter] at hm ⊢
  obtain ⟨f, ⟨hm, hp⟩, rfl⟩ := hm
  obtain ⟨i, hi, rfl⟩ := List.getElem_of_mem hm
  have hi2 : i < fs.length := by rw [sealL_length] at hi; exact hi
  rw [hat i hi hi2] at hp ⊢
  refine ⟨fs[i], ⟨List.getElem_mem hi2, ?_⟩, by split <;> rfl⟩
  split at hp
  · unfold seeP at hp ⊢
    simp only [Bool.or_eq_true, decide_eq_true_eq] at hp ⊢
    rcases hp with hp | hp
    · simp only [sealF] at hp; left; omega
    · have := reaches_iff.1 hp
      simp only [sealF] at this
      exact .inr (reaches_iff.2 ⟨this.1, by omega⟩)
  · exact hp

end Go.Proofs.Ytbihpggbabmebaa
