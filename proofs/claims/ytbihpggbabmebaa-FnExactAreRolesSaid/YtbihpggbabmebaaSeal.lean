/-
  Roles, files, and who may see what. No condition beyond those written in each theorem.
-/
import Derived.Test.YtbihpggbabmebaaRolF
namespace Go.Proofs.Ytbihpggbabmebaa
open Go.RowKit
set_option linter.unusedVariables false
set_option linter.unusedSimpArgs false
set_option linter.unusedSectionVars false
set_option maxRecDepth 4000


def getB (gs : List ByteArray) (j : Nat) : ByteArray := gs[j]?.getD ⟨#[]⟩
theorem getB_at {gs : List ByteArray} {j : Nat} (h : j < gs.length) : getB gs j = gs[j] := by simp [getB, h]
def grpP (gs : List ByteArray) (i : Nat) (g : ByteArray) : Bool := isWord g && (decide (i = 0) || slt (getB gs (i - 1)) g)
def areGroups (gs : List ByteArray) : Bool := allB gs.length (allI (grpP gs) gs) && decide (gs.length ≤ 6)
theorem groups_f {gs : List ByteArray} {i : Nat} (h : i < gs.length) (h2 : grpP gs i gs[i] = false) : areGroups gs = false := by
  rw [areGroups, allB_false h (by rw [allI_of h]; exact h2)]; rfl
def roleOf (rs : List Role) (name : ByteArray) : Int := findI (fun r => decide (r.Name = name)) rs
def fileOf (fs : List File) (code : ByteArray) : Int := findI (fun f => decide (f.Code = code)) fs
theorem roleOf_lt (rs : List Role) (name : ByteArray) : -1 ≤ roleOf rs name ∧ roleOf rs name < rs.length := findI_lt
theorem fileOf_lt (fs : List File) (code : ByteArray) : -1 ≤ fileOf fs code ∧ fileOf fs code < fs.length := findI_lt
def roleP (rs : List Role) (i : Nat) (r : Role) : Bool := isWord r.Name && inR 0 9 r.Level && areGroups r.Groups && decide (roleOf rs r.Name = (i : Int))
def areRoles (rs : List Role) : Bool := allB rs.length (allI (roleP rs) rs) && decide (rs.length ≤ 8)
theorem roles_f {rs : List Role} {i : Nat} (h : i < rs.length) (h2 : roleP rs i rs[i] = false) : areRoles rs = false := by
  rw [areRoles, allB_false h (by rw [allI_of h]; exact h2)]; rfl
def fileP (fs : List File) (i : Nat) (f : File) : Bool := isWord f.Code && inR 0 9 f.Level && areGroups f.Groups && inR 0 20000 f.Until && decide (fileOf fs f.Code = (i : Int))
def areFiles (fs : List File) : Bool := allB fs.length (allI (fileP fs) fs) && decide (fs.length ≤ 12)
theorem files_f {fs : List File} {i : Nat} (h : i < fs.length) (h2 : fileP fs i fs[i] = false) : areFiles fs = false := by
  rw [areFiles, allB_false h (by rw [allI_of h]; exact h2)]; rfl
theorem areRoles_len {rs : List Role} (h : areRoles rs = true) : rs.length ≤ 8 := by
  simp only [areRoles, Bool.and_eq_true, decide_eq_true_eq] at h; exact h.2
theorem areFiles_len {fs : List File} (h : areFiles fs = true) : fs.length ≤ 12 := by
  simp only [areFiles, Bool.and_eq_true, decide_eq_true_eq] at h; exact h.2
theorem areFiles_at {fs : List File} (h : areFiles fs = true) {i : Nat} (hi : i < fs.length) : fileP fs i fs[i] = true := by
  simp only [areFiles, Bool.and_eq_true] at h
  have := allB_iff.1 h.1 i hi
  rwa [allI_of hi] at this
theorem areRoles_at {rs : List Role} (h : areRoles rs = true) {i : Nat} (hi : i < rs.length) : roleP rs i rs[i] = true := by
  simp only [areRoles, Bool.and_eq_true] at h
  have := allB_iff.1 h.1 i hi
  rwa [allI_of hi] at this
theorem file_until {fs : List File} (h : areFiles fs = true) {i : Nat} (hi : i < fs.length) : 0 ≤ fs[i].Until ∧ fs[i].Until ≤ 20000 := by
  have := areFiles_at h hi
  simp only [fileP, Bool.and_eq_true] at this
  exact inR_iff.1 this.1.2
def hasS (gs : List ByteArray) (x : ByteArray) : Bool := gs.any fun y => decide (y = x)
theorem hasS_iff {l : List ByteArray} {x : ByteArray} : hasS l x = true ↔ x ∈ l := by
  simp only [hasS, List.any_eq_true, decide_eq_true_eq]
  exact ⟨fun ⟨y, h1, h2⟩ => h2 ▸ h1, fun h => ⟨x, h, rfl⟩⟩
theorem hasS_t {l : List ByteArray} {x : ByteArray} {k : Nat} (hk : k < l.length) (h : l[k] = x) : hasS l x = true := hasS_iff.2 (h ▸ List.getElem_mem hk)
theorem hasS_f {l : List ByteArray} {x : ByteArray} {n : Nat} (h : ∀ j (hj : j < l.length), j < n → l[j] ≠ x) (hn : l.length ≤ n) : hasS l x = false := by
  rw [Bool.eq_false_iff]; intro h'
  obtain ⟨j, hj, e⟩ := List.getElem_of_mem (hasS_iff.1 h')
  exact h j hj (by omega) e
def reaches (l : Int) (gs : List ByteArray) (o : Int) (os : List ByteArray) : Bool := allB os.length (allI (fun _ g => hasS gs g) os) && decide (o ≤ l)
def seeP (r : Role) (f : File) (day : Int) : Bool := decide (f.Until < day) || reaches r.Level r.Groups f.Level f.Groups
def sealCode (rs : List Role) (fs : List File) (day : Int) : Int := if areRoles rs = false ∨ areFiles fs = false then 1 else if inR 0 20000 day = false then 2 else 0
theorem sealCode_zero {rs : List Role} {fs : List File} {day : Int} (h : sealCode rs fs day = 0) : areRoles rs = true ∧ areFiles fs = true ∧ inR 0 20000 day = true := by
  unfold sealCode at h
  split at h
  · cases h
  · rename_i h1
    split at h
    · cases h
    · rename_i h2; simp only [not_or, Bool.not_eq_false] at h1 h2; exact ⟨h1.1, h1.2, h2⟩
def dR : Role := ⟨⟨#[]⟩, 0, []⟩
def dF : File := ⟨⟨#[]⟩, 0, [], 0⟩
def getR (rs : List Role) (i : Int) : Role := rs[i.toNat]?.getD dR
def getF (fs : List File) (i : Int) : File := fs[i.toNat]?.getD dF
theorem getR_eq {rs : List Role} {i : Int} (h : i.toNat < rs.length) : getR rs i = rs[i.toNat] := by simp [getR, h]
theorem getF_eq {fs : List File} {i : Int} (h : i.toNat < fs.length) : getF fs i = fs[i.toNat] := by simp [getF, h]
def maySee (rs : List Role) (fs : List File) (role file : ByteArray) (day : Int) : Bool × Int :=
  if sealCode rs fs day ≠ 0 then (false, sealCode rs fs day) else if roleOf rs role < 0 ∨ fileOf fs file < 0 then (false, 4) else (seeP (getR rs (roleOf rs role)) (getF fs (fileOf fs file)) day, 0)
def isAbove (rs : List Role) (a b : ByteArray) : Bool × Int :=
  if areRoles rs = false then (false, 1) else if roleOf rs a < 0 ∨ roleOf rs b < 0 then (false, 4) else (reaches (getR rs (roleOf rs a)).Level (getR rs (roleOf rs a)).Groups (getR rs (roleOf rs b)).Level (getR rs (roleOf rs b)).Groups, 0)
def firstDay (rs : List Role) (fs : List File) (role file : ByteArray) : Int × Int :=
  if sealCode rs fs 0 ≠ 0 then (0, sealCode rs fs 0) else if roleOf rs role < 0 ∨ fileOf fs file < 0 then (0, 4) else if seeP (getR rs (roleOf rs role)) (getF fs (fileOf fs file)) 0 = true then (0, 0) else if (getF fs (fileOf fs file)).Until = 20000 then (0, 5) else ((getF fs (fileOf fs file)).Until + 1, 0)
def seenBy (rs : List Role) (fs : List File) (role : ByteArray) (day : Int) : List ByteArray × Int :=
  if sealCode rs fs day ≠ 0 then ([], sealCode rs fs day) else if roleOf rs role < 0 then ([], 4) else ((fs.filter fun f => seeP (getR rs (roleOf rs role)) f day).map (·.Code), 0)
def whoSees (rs : List Role) (fs : List File) (file : ByteArray) (day : Int) : List ByteArray × Int :=
  if sealCode rs fs day ≠ 0 then ([], sealCode rs fs day) else if fileOf fs file < 0 then ([], 4) else ((rs.filter fun r => seeP r (getF fs (fileOf fs file)) day).map (·.Name), 0)
theorem seenBy_len (rs : List Role) (fs : List File) (role : ByteArray) (day : Int) : (seenBy rs fs role day).1.length ≤ 12 := by
  unfold seenBy; split
  · simp
  · rename_i h
    have h1 := areFiles_len (sealCode_zero (by omega : sealCode rs fs day = 0)).2.1
    split
    · simp
    · simp only [List.length_map]; exact Nat.le_trans (List.length_filter_le _ _) h1
theorem whoSees_len (rs : List Role) (fs : List File) (file : ByteArray) (day : Int) : (whoSees rs fs file day).1.length ≤ 8 := by
  unfold whoSees; split
  · simp
  · rename_i h
    have h1 := areRoles_len (sealCode_zero (by omega : sealCode rs fs day = 0)).1
    split
    · simp
    · simp only [List.length_map]; exact Nat.le_trans (List.length_filter_le _ _) h1
theorem filt_step {α β : Type} {f : α → Bool} {g : α → β} {xs : List α} {ys : List β} {k : Nat} (hk : k < xs.length) (h : ys = ((xs.take k).filter f).map g) :
    (f xs[k] = true → ys ++ [g xs[k]] = ((xs.take (k + 1)).filter f).map g) ∧ (f xs[k] = false → ys = ((xs.take (k + 1)).filter f).map g) := by
  subst h
  rw [List.take_succ_eq_append_getElem hk, List.filter_append, List.map_append]
  exact ⟨fun h => by simp [h], fun h => by simp [h]⟩
theorem filt_len {α β : Type} {f : α → Bool} {g : α → β} {xs : List α} {ys : List β} {k : Nat} (h : ys = ((xs.take k).filter f).map g) : ys.length ≤ k := by
  subst h
  rw [List.length_map]
  exact Nat.le_trans (List.length_filter_le _ _) (by simp; omega)


set_option maxHeartbeats 400000 in
theorem hasS_ok (p : Option Addr) (n c : Nat) (xs : List ByteArray) (x : ByteArray) (w : World) (H : Sl strc 1 w p n c xs) : Ret Try.prog 98 [.slice p n c, .string x] w (Pv w (.bool (hasS xs x))) := by
  refine ret_of_run (N := 17) Try.func98 rfl rfl rfl ?_
  have hn := H.len
  have hn6 := H.n64
  have E : Ext w w := Ext.refl w
  refine run_seq ?_
  refine run_region ?_
  refine ov (xassign rfl) rfl rfl rfl ?_
  refine ops_nil ?_
  refine run_seq ?_
  refine run_seq ?_
  refine run_region ?_
  refine ov (xmove rfl) rfl rfl rfl ?_
  refine ov (xlen Try.underlying49 rfl) rfl rfl rfl ?_
  refine ov (xmove rfl) rfl rfl rfl ?_
  refine ops_nil ?_
  refine run_block ?_
  refine run_loop (ι := Nat × World) (fun x_ => match x_ with | (k, wr) => (Ext w wr) ∧ (w.heap.size ≤ wr.heap.size) ∧ (k ≤ n) ∧ (∀ j (hj : j < xs.length), j < k → xs[j] ≠ x)) (fun x_ => match x_ with | (k, wr) => [(1, .string x), (7, .slice p n c), (8, .int .i64 (n : Int)), (9, .int .i64 (k : Int))]) (fun x_ => match x_ with | (k, wr) => wr) (fun x_ => match x_ with | (k, wr) => n - k) ?_ (0, w) (⟨E, Nat.le_refl _, by omega, fun j hj h => absurd h (Nat.not_lt_zero j)⟩) ⟨rfl, rfl, rfl, rfl, trivial⟩ rfl
  intro i_ hI_ hback2
  obtain ⟨k, wr⟩ := i_
  obtain ⟨E, lz_wr, hk, ha⟩ := hI_
  try dsimp only
  have zr := E.size
  refine run_seq ?_
  refine run_region ?_
  refine ov (xlss rfl rfl _ rfl) rfl rfl rfl ?_
  refine ods (fun c10 => ?_) (fun c10 => ?_)
  ·
    refine ops_nil ?_
    refine run_seq ?_
    refine run_cond_t rfl ?_
    refine run_skip ?_
    refine run_seq ?_
    refine run_block ?_
    refine run_seq ?_
    refine run_region ?_
    have h11 := (H.ext E).at (i := k) (by omega)
    refine ov (xindexN (i := k) Try.underlying49 Try.sizeOf9 rfl rfl rfl ((H.ext E).p (i := k) (by omega)) (by have := (H.ext E).len; omega)) rfl rfl rfl ?_
    refine ov (v := .string xs[k]) (xloadz Try.isAgg9 rfl (h11) rfl) rfl rfl rfl ?_
    refine ov (xassign rfl) rfl rfl rfl ?_
    refine ops_nil ?_
    refine run_seq ?_
    refine run_region ?_
    refine ov (xmove rfl) rfl rfl rfl ?_
    refine ov (xmove rfl) rfl rfl rfl ?_
    refine ov (xseql rfl rfl _ rfl) rfl rfl rfl ?_
    refine ods (fun c15 => ?_) (fun c15 => ?_)
    ·
      refine ops_nil ?_
      refine run_cond_t rfl ?_
      refine run_seq ?_
      refine run_region ?_
      refine ov (xassign rfl) rfl rfl rfl ?_
      refine ops_nil ?_
      refine run_ret Try.func98 (res1 rfl rfl) ?_
      exact ⟨_, rfl, by rw [hasS_t (k := k) (by omega) c15.symm], E⟩
    ·
      refine ops_nil ?_
      refine run_cond_f rfl ?_
      refine run_skip ?_
      refine run_inBlock ?_
      refine run_region ?_
      refine ov (xadd rfl rfl (by unfold I64; omega)) rfl rfl rfl ?_
      refine ov (xmove rfl) rfl rfl rfl ?_
      refine ops_nil ?_
      refine run_sub ?_ (hback2 (k + 1, wr) (⟨E, by omega, by omega, below_succ (q := fun y => y ≠ x) ha (fun _ => fun h => c15 h.symm)⟩) (by first | omega | (dsimp only; omega)))
      exact ⟨rfl, rfl, rfl, rfl, trivial⟩
  ·
    refine ops_nil ?_
    refine run_seq ?_
    refine run_cond_f rfl ?_
    refine run_exit rfl ?_
    refine run_seq ?_
    refine run_region ?_
    refine ov (xassign rfl) rfl rfl rfl ?_
    refine ops_nil ?_
    refine run_ret Try.func98 (res1 rfl rfl) ?_
    exact ⟨_, rfl, by rw [hasS_f ha (by omega)], E⟩

set_option maxHeartbeats 400000 in
theorem l13Word_ok (p : Option Addr) (n c : Nat) (xs : List ByteArray) (x : ByteArray) (w : World) (H : Sl strc 1 w p n c xs) : Ret Try.prog 97 [.slice p n c, .string x] w (Pv w (.bool (hasS xs x))) := by
  refine ret_of_run (N := 18) Try.func97 rfl rfl rfl ?_
  have hn := H.len
  have hn6 := H.n64
  have E : Ext w w := Ext.refl w
  refine run_seq ?_
  refine run_region ?_
  refine ov (xassign rfl) rfl rfl rfl ?_
  refine ops_nil ?_
  refine run_seq ?_
  refine run_seq ?_
  refine run_region ?_
  refine ov (xassign rfl) rfl rfl rfl ?_
  refine ops_nil ?_
  refine run_block ?_
  refine run_loop (ι := Nat × World) (fun x_ => match x_ with | (k, wr) => (Ext w wr) ∧ (w.heap.size ≤ wr.heap.size) ∧ (k ≤ n) ∧ (∀ j (hj : j < xs.length), j < k → xs[j] ≠ x)) (fun x_ => match x_ with | (k, wr) => [(0, .slice p n c), (1, .string x), (5, .int .i64 (k : Int))]) (fun x_ => match x_ with | (k, wr) => wr) (fun x_ => match x_ with | (k, wr) => n - k) ?_ (0, w) (⟨E, Nat.le_refl _, by omega, fun j hj h => absurd h (Nat.not_lt_zero j)⟩) ⟨rfl, rfl, rfl, trivial⟩ rfl
  intro i_ hI_ hback2
  obtain ⟨k, wr⟩ := i_
  obtain ⟨E, lz_wr, hk, ha⟩ := hI_
  try dsimp only
  have zr := E.size
  refine run_seq ?_
  refine run_seq ?_
  refine run_region ?_
  refine ov (xmove rfl) rfl rfl rfl ?_
  refine ov (xmove rfl) rfl rfl rfl ?_
  refine ov (xlen Try.underlying49 rfl) rfl rfl rfl ?_
  refine ov (xlss rfl rfl _ rfl) rfl rfl rfl ?_
  refine ods (fun c9 => ?_) (fun c9 => ?_)
  ·
    refine ops_nil ?_
    refine run_cond_t rfl ?_
    refine run_skip ?_
    refine run_seq ?_
    refine run_block ?_
    refine run_seq ?_
    refine run_region ?_
    refine ov (xmove rfl) rfl rfl rfl ?_
    refine ov (xmove rfl) rfl rfl rfl ?_
    have h14 := (H.ext E).at (i := k) (by omega)
    refine ov (xindexN (i := k) Try.underlying49 Try.sizeOf9 rfl rfl rfl ((H.ext E).p (i := k) (by omega)) (by have := (H.ext E).len; omega)) rfl rfl rfl ?_
    refine ov (v := .string xs[k]) (xloadz Try.isAgg9 rfl (h14) rfl) rfl rfl rfl ?_
    refine ov (xmove rfl) rfl rfl rfl ?_
    refine ov (xseql rfl rfl _ rfl) rfl rfl rfl ?_
    refine ods (fun c17 => ?_) (fun c17 => ?_)
    ·
      refine ops_nil ?_
      refine run_cond_t rfl ?_
      refine run_seq ?_
      refine run_region ?_
      refine ov (xassign rfl) rfl rfl rfl ?_
      refine ops_nil ?_
      refine run_ret Try.func97 (res1 rfl rfl) ?_
      exact ⟨_, rfl, by rw [hasS_t (k := k) (by omega) c17], E⟩
    ·
      refine ops_nil ?_
      refine run_cond_f rfl ?_
      refine run_skip ?_
      refine run_inBlock ?_
      refine run_region ?_
      refine ov (xmove rfl) rfl rfl rfl ?_
      refine ov (xadd rfl rfl (by unfold I64; omega)) rfl rfl rfl ?_
      refine ov (xassign rfl) rfl rfl rfl ?_
      refine ops_nil ?_
      refine run_sub ?_ (hback2 (k + 1, wr) (⟨E, by omega, by omega, below_succ (q := fun y => y ≠ x) ha (fun _ => c17)⟩) (by first | omega | (dsimp only; omega)))
      exact ⟨rfl, rfl, rfl, trivial⟩
  ·
    refine ops_nil ?_
    refine run_cond_f rfl ?_
    refine run_exit rfl ?_
    refine run_seq ?_
    refine run_region ?_
    refine ov (xassign rfl) rfl rfl rfl ?_
    refine ops_nil ?_
    refine run_ret Try.func97 (res1 rfl rfl) ?_
    exact ⟨_, rfl, by rw [hasS_f ha (by omega)], E⟩

set_option maxHeartbeats 400000 in
theorem areGroups_ok (p : Option Addr) (n c : Nat) (gs : List ByteArray) (w : World) (H : Sl strc 1 w p n c gs) (hx : ∀ y ∈ gs, y.size ≤ 9223372036854775807) : Ret Try.prog 61 [.slice p n c] w (Pv w (.bool (areGroups gs))) := by
  refine ret_of_run (N := 32) Try.func61 rfl rfl rfl ?_
  have hn := H.len
  have hn6 := H.n64
  have E : Ext w w := Ext.refl w
  refine run_seq ?_
  refine run_region ?_
  refine ov (xassign rfl) rfl rfl rfl ?_
  refine ops_nil ?_
  refine run_seq ?_
  refine run_seq ?_
  refine run_region ?_
  refine ov (xmove rfl) rfl rfl rfl ?_
  refine ov (xlen Try.underlying49 rfl) rfl rfl rfl ?_
  refine ov (xmove rfl) rfl rfl rfl ?_
  refine ops_nil ?_
  refine run_block ?_
  refine run_loop (ι := Nat × World) (fun x_ => match x_ with | (k, wr) => (Ext w wr) ∧ (w.heap.size ≤ wr.heap.size) ∧ (k ≤ n) ∧ (allB k (allI (grpP gs) gs) = true)) (fun x_ => match x_ with | (k, wr) => [(0, .slice p n c), (5, .slice p n c), (6, .int .i64 (n : Int)), (7, .int .i64 (k : Int))]) (fun x_ => match x_ with | (k, wr) => wr) (fun x_ => match x_ with | (k, wr) => n - k) ?_ (0, w) (⟨E, Nat.le_refl _, by omega, allB_zero⟩) ⟨rfl, rfl, rfl, rfl, trivial⟩ rfl
  intro i_ hI_ hback2
  obtain ⟨k, wr⟩ := i_
  obtain ⟨E, lz_wr, hk, ha⟩ := hI_
  try dsimp only
  have zr := E.size
  have hgs := fun h : k < gs.length => hx gs[k] (List.getElem_mem h)
  refine run_seq ?_
  refine run_region ?_
  refine ov (xlss rfl rfl _ rfl) rfl rfl rfl ?_
  refine ods (fun c8 => ?_) (fun c8 => ?_)
  ·
    refine ops_nil ?_
    refine run_seq ?_
    refine run_cond_t rfl ?_
    refine run_skip ?_
    refine run_seq ?_
    refine run_block ?_
    refine run_seq ?_
    refine run_region ?_
    refine ov (xmove rfl) rfl rfl rfl ?_
    have h10 := (H.ext E).at (i := k) (by omega)
    refine ov (xindexN (i := k) Try.underlying49 Try.sizeOf9 rfl rfl rfl ((H.ext E).p (i := k) (by omega)) (by have := (H.ext E).len; omega)) rfl rfl rfl ?_
    refine ov (v := .string gs[k]) (xloadz Try.isAgg9 rfl (h10) rfl) rfl rfl rfl ?_
    refine ov (xassign rfl) rfl rfl rfl ?_
    refine ov (xassign rfl) rfl rfl rfl ?_
    refine ops_nil ?_
    refine run_seq ?_
    refine run_region ?_
    refine ov (xmove rfl) rfl rfl rfl ?_
    have hgk := hgs (by omega)
    refine oc (xcall Try.call59 rfl) rfl rfl rfl (IsWord_ok (gs[k]) _ (by first | assumption | omega)) ?_
    rintro _ w_ ⟨rfl, hw_⟩
    replace hw_ := hw_.symm
    subst hw_
    refine obs (fun c13 => ?_) (fun c13 => ?_)
    ·
      refine ov (xnot rfl) rfl rfl rfl ?_
      refine ov (xmove rfl) rfl rfl rfl ?_
      refine ov (xmove rfl) rfl rfl rfl ?_
      refine ov (xgtr rfl rfl _ rfl) rfl rfl rfl ?_
      refine ods (fun c17 => ?_) (fun c17 => ?_)
      ·
        refine ov (xmove rfl) rfl rfl rfl ?_
        refine ov (xmove rfl) rfl rfl rfl ?_
        refine ov (xmove rfl) rfl rfl rfl ?_
        refine ov (xsub rfl rfl (by unfold I64; omega)) rfl rfl rfl ?_
        have h22 := (H.ext E).at (i := k - 1) (by omega)
        refine ov (xindexN (i := k - 1) Try.underlying49 Try.sizeOf9 rfl rfl (by omega) ((H.ext E).p (i := k - 1) (by omega)) (by have := (H.ext E).len; omega)) rfl rfl rfl ?_
        refine ov (v := .string gs[k - 1]) (xloadz Try.isAgg9 rfl (h22) rfl) rfl rfl rfl ?_
        refine ov (xmove rfl) rfl rfl rfl ?_
        refine ov (xsgeq rfl rfl _ rfl) rfl rfl rfl ?_
        refine obs (fun c25 => ?_) (fun c25 => ?_)
        ·
          refine ov (xpick_t rfl rfl) rfl rfl rfl ?_
          refine ov (xpick_f rfl rfl) rfl rfl rfl ?_
          refine ops_nil ?_
          refine run_cond_t rfl ?_
          refine run_seq ?_
          refine run_region ?_
          refine ov (xassign rfl) rfl rfl rfl ?_
          refine ops_nil ?_
          refine run_ret Try.func61 (res1 rfl rfl) ?_
          exact ⟨_, rfl, by rw [groups_f (i := k) (by omega) (by rw [grpP, getB_at (by omega)]; simp_all; omega)], E⟩
        ·
          refine ov (xpick_t rfl rfl) rfl rfl rfl ?_
          refine ov (xpick_f rfl rfl) rfl rfl rfl ?_
          refine ops_nil ?_
          refine run_cond_f rfl ?_
          refine run_skip ?_
          refine run_inBlock ?_
          refine run_region ?_
          refine ov (xadd rfl rfl (by unfold I64; omega)) rfl rfl rfl ?_
          refine ov (xmove rfl) rfl rfl rfl ?_
          refine ops_nil ?_
          refine run_sub ?_ (hback2 (k + 1, wr) (⟨E, by omega, by omega, allB_succ ha (by rw [allI_of (by omega), grpP, c13]; rw [getB_at (by omega)]; simp_all)⟩) (by first | omega | (dsimp only; omega)))
          exact ⟨rfl, rfl, rfl, rfl, trivial⟩
      ·
        refine ov (xmove rfl) rfl rfl rfl ?_
        refine og rfl rfl rfl ?_
        refine og rfl rfl rfl ?_
        refine og rfl rfl rfl ?_
        refine og rfl rfl rfl ?_
        refine og rfl rfl rfl ?_
        refine og rfl rfl rfl ?_
        refine og rfl rfl rfl ?_
        refine ov (xpick_f rfl rfl) rfl rfl rfl ?_
        refine ov (xpick_f rfl rfl) rfl rfl rfl ?_
        refine ops_nil ?_
        refine run_cond_f rfl ?_
        refine run_skip ?_
        refine run_inBlock ?_
        refine run_region ?_
        refine ov (xadd rfl rfl (by unfold I64; omega)) rfl rfl rfl ?_
        refine ov (xmove rfl) rfl rfl rfl ?_
        refine ops_nil ?_
        refine run_sub ?_ (hback2 (k + 1, wr) (⟨E, by omega, by omega, allB_succ ha (by rw [allI_of (by omega), grpP, c13]; simp; left; omega)⟩) (by first | omega | (dsimp only; omega)))
        exact ⟨rfl, rfl, rfl, rfl, trivial⟩
    ·
      refine ov (xnot rfl) rfl rfl rfl ?_
      refine ov (xmove rfl) rfl rfl rfl ?_
      refine og rfl rfl rfl ?_
      refine og rfl rfl rfl ?_
      refine og rfl rfl rfl ?_
      refine og rfl rfl rfl ?_
      refine og rfl rfl rfl ?_
      refine og rfl rfl rfl ?_
      refine og rfl rfl rfl ?_
      refine og rfl rfl rfl ?_
      refine og rfl rfl rfl ?_
      refine og rfl rfl rfl ?_
      refine og rfl rfl rfl ?_
      refine ov (xpick_t rfl rfl) rfl rfl rfl ?_
      refine ops_nil ?_
      refine run_cond_t rfl ?_
      refine run_seq ?_
      refine run_region ?_
      refine ov (xassign rfl) rfl rfl rfl ?_
      refine ops_nil ?_
      refine run_ret Try.func61 (res1 rfl rfl) ?_
      exact ⟨_, rfl, by rw [groups_f (i := k) (by omega) (by rw [grpP, c13]; rfl)], E⟩
  ·
    refine ops_nil ?_
    refine run_seq ?_
    refine run_cond_f rfl ?_
    refine run_exit rfl ?_
    refine run_seq ?_
    refine run_region ?_
    refine ov (xmove rfl) rfl rfl rfl ?_
    refine ov (xlen Try.underlying49 rfl) rfl rfl rfl ?_
    refine oc (xcall Try.call63 rfl) rfl rfl rfl (few_ok ((n : Int)) (6) _) ?_
    rintro _ w_ ⟨rfl, hw_⟩
    replace hw_ := hw_.symm
    subst hw_
    refine ov (xassign rfl) rfl rfl rfl ?_
    refine ops_nil ?_
    refine run_ret Try.func61 (res1 rfl rfl) ?_
    obtain rfl : k = n := by omega
    exact ⟨_, rfl, by rw [areGroups, ← hn, ha, Bool.true_and]; exact congrArg Value.bool (decide_eq_decide.2 (by omega)), E⟩

set_option maxHeartbeats 400000 in
theorem l24Groups_ok (p : Option Addr) (n c : Nat) (gs : List ByteArray) (w : World) (H : Sl strc 1 w p n c gs) (hx : ∀ y ∈ gs, y.size ≤ 9223372036854775807) : Ret Try.prog 56 [.slice p n c] w (Pv w (.bool (areGroups gs))) := by
  refine ret_of_run (N := 35) Try.func56 rfl rfl rfl ?_
  have hn := H.len
  have hn6 := H.n64
  have E : Ext w w := Ext.refl w
  refine run_seq ?_
  refine run_region ?_
  refine ov (xassign rfl) rfl rfl rfl ?_
  refine ops_nil ?_
  refine run_seq ?_
  refine run_seq ?_
  refine run_region ?_
  refine ov (xassign rfl) rfl rfl rfl ?_
  refine ops_nil ?_
  refine run_block ?_
  refine run_loop (ι := Nat × World) (fun x_ => match x_ with | (k, wr) => (Ext w wr) ∧ (w.heap.size ≤ wr.heap.size) ∧ (k ≤ n) ∧ (allB k (allI (grpP gs) gs) = true)) (fun x_ => match x_ with | (k, wr) => [(0, .slice p n c), (3, .int .i64 (k : Int))]) (fun x_ => match x_ with | (k, wr) => wr) (fun x_ => match x_ with | (k, wr) => n - k) ?_ (0, w) (⟨E, Nat.le_refl _, by omega, allB_zero⟩) ⟨rfl, rfl, trivial⟩ rfl
  intro i_ hI_ hback2
  obtain ⟨k, wr⟩ := i_
  obtain ⟨E, lz_wr, hk, ha⟩ := hI_
  try dsimp only
  have zr := E.size
  have hgs := fun h : k < gs.length => hx gs[k] (List.getElem_mem h)
  refine run_seq ?_
  refine run_seq ?_
  refine run_region ?_
  refine ov (xmove rfl) rfl rfl rfl ?_
  refine ov (xmove rfl) rfl rfl rfl ?_
  refine ov (xlen Try.underlying49 rfl) rfl rfl rfl ?_
  refine ov (xlss rfl rfl _ rfl) rfl rfl rfl ?_
  refine ods (fun c7 => ?_) (fun c7 => ?_)
  ·
    refine ops_nil ?_
    refine run_cond_t rfl ?_
    refine run_skip ?_
    refine run_seq ?_
    refine run_block ?_
    refine run_seq ?_
    refine run_draw (by kernel_rfl) (by kernel_rfl) ?_
    refine qv (fun w' x_ => xmove rfl) rfl rfl rfl ?_
    refine qv (fun w' x_ => xmove rfl) rfl rfl rfl ?_
    have h12 := (H.ext E).at (i := k) (by omega)
    refine qv (fun w' x_ => xindexN (i := k) Try.underlying49 Try.sizeOf9 rfl rfl rfl ((H.ext E).p (i := k) (by omega)) (by have := (H.ext E).len; omega)) rfl rfl rfl ?_
    refine qv (v := .string gs[k]) (fun w' x_ => xloadz Try.isAgg9 rfl ((h12).ext x_) rfl) rfl rfl rfl ?_
    have hgk := hgs (by omega)
    have t14 := fun (w' : World) (x_ : Ext wr w') => Ret.toq (w := w') (sIsWord_ok (gs[k]) _ (by first | assumption | omega))
    refine qc (fun w' => xcall Try.call54 rfl) rfl rfl rfl t14 ?_
    clear t14
    refine qbs (fun c14 => ?_) (fun c14 => ?_)
    ·
      refine qv (fun w' x_ => xnot rfl) rfl rfl rfl ?_
      refine qv (fun w' x_ => xmove rfl) rfl rfl rfl ?_
      refine qv (fun w' x_ => xmove rfl) rfl rfl rfl ?_
      refine qv (fun w' x_ => xgtr rfl rfl _ rfl) rfl rfl rfl ?_
      refine qds (fun c18 => ?_) (fun c18 => ?_)
      ·
        refine qv (fun w' x_ => xmove rfl) rfl rfl rfl ?_
        refine qv (fun w' x_ => xmove rfl) rfl rfl rfl ?_
        refine qv (fun w' x_ => xmove rfl) rfl rfl rfl ?_
        refine qv (fun w' x_ => xsub rfl rfl (by unfold I64; omega)) rfl rfl rfl ?_
        have h23 := (H.ext E).at (i := k - 1) (by omega)
        refine qv (fun w' x_ => xindexN (i := k - 1) Try.underlying49 Try.sizeOf9 rfl rfl (by omega) ((H.ext E).p (i := k - 1) (by omega)) (by have := (H.ext E).len; omega)) rfl rfl rfl ?_
        refine qv (v := .string gs[k - 1]) (fun w' x_ => xloadz Try.isAgg9 rfl ((h23).ext x_) rfl) rfl rfl rfl ?_
        refine qv (fun w' x_ => xmove rfl) rfl rfl rfl ?_
        refine qv (fun w' x_ => xmove rfl) rfl rfl rfl ?_
        have h27 := (H.ext E).at (i := k) (by omega)
        refine qv (fun w' x_ => xindexN (i := k) Try.underlying49 Try.sizeOf9 rfl rfl rfl ((H.ext E).p (i := k) (by omega)) (by have := (H.ext E).len; omega)) rfl rfl rfl ?_
        refine qv (v := .string gs[k]) (fun w' x_ => xloadz Try.isAgg9 rfl ((h27).ext x_) rfl) rfl rfl rfl ?_
        refine qv (fun w' x_ => xsgeq rfl rfl _ rfl) rfl rfl rfl ?_
        refine qbs (fun c29 => ?_) (fun c29 => ?_)
        ·
          refine qv (fun w' x_ => xpick_t rfl rfl) rfl rfl rfl ?_
          refine qv (fun w' x_ => xpick_f rfl rfl) rfl rfl rfl ?_
          refine q_nil ?_
          intro w1 e1
          have z1 := e1.size
          have E := E.trans e1
          refine run_cond_t rfl ?_
          refine run_seq ?_
          refine run_region ?_
          refine ov (xassign rfl) rfl rfl rfl ?_
          refine ops_nil ?_
          refine run_ret Try.func56 (res1 rfl rfl) ?_
          exact ⟨_, rfl, by rw [groups_f (i := k) (by omega) (by rw [grpP, getB_at (by omega)]; simp_all; omega)], E⟩
        ·
          refine qv (fun w' x_ => xpick_t rfl rfl) rfl rfl rfl ?_
          refine qv (fun w' x_ => xpick_f rfl rfl) rfl rfl rfl ?_
          refine q_nil ?_
          intro w1 e1
          have z1 := e1.size
          have E := E.trans e1
          refine run_cond_f rfl ?_
          refine run_skip ?_
          refine run_inBlock ?_
          refine run_region ?_
          refine ov (xmove rfl) rfl rfl rfl ?_
          refine ov (xadd rfl rfl (by unfold I64; omega)) rfl rfl rfl ?_
          refine ov (xassign rfl) rfl rfl rfl ?_
          refine ops_nil ?_
          refine run_sub ?_ (hback2 (k + 1, w1) (⟨E, by omega, by omega, allB_succ ha (by rw [allI_of (by omega), grpP, c14]; rw [getB_at (by omega)]; simp_all)⟩) (by first | omega | (dsimp only; omega)))
          exact ⟨rfl, rfl, trivial⟩
      ·
        refine qv (fun w' x_ => xmove rfl) rfl rfl rfl ?_
        refine qg rfl rfl rfl ?_
        refine qg rfl rfl rfl ?_
        refine qg rfl rfl rfl ?_
        refine qg rfl rfl rfl ?_
        refine qg rfl rfl rfl ?_
        refine qg rfl rfl rfl ?_
        refine qg rfl rfl rfl ?_
        refine qg rfl rfl rfl ?_
        refine qg rfl rfl rfl ?_
        refine qg rfl rfl rfl ?_
        refine qv (fun w' x_ => xpick_f rfl rfl) rfl rfl rfl ?_
        refine qv (fun w' x_ => xpick_f rfl rfl) rfl rfl rfl ?_
        refine q_nil ?_
        intro w1 e1
        have z1 := e1.size
        have E := E.trans e1
        refine run_cond_f rfl ?_
        refine run_skip ?_
        refine run_inBlock ?_
        refine run_region ?_
        refine ov (xmove rfl) rfl rfl rfl ?_
        refine ov (xadd rfl rfl (by unfold I64; omega)) rfl rfl rfl ?_
        refine ov (xassign rfl) rfl rfl rfl ?_
        refine ops_nil ?_
        refine run_sub ?_ (hback2 (k + 1, w1) (⟨E, by omega, by omega, allB_succ ha (by rw [allI_of (by omega), grpP, c14]; simp; left; omega)⟩) (by first | omega | (dsimp only; omega)))
        exact ⟨rfl, rfl, trivial⟩
    ·
      refine qv (fun w' x_ => xnot rfl) rfl rfl rfl ?_
      refine qv (fun w' x_ => xmove rfl) rfl rfl rfl ?_
      refine qg rfl rfl rfl ?_
      refine qg rfl rfl rfl ?_
      refine qg rfl rfl rfl ?_
      refine qg rfl rfl rfl ?_
      refine qg rfl rfl rfl ?_
      refine qg rfl rfl rfl ?_
      refine qg rfl rfl rfl ?_
      refine qg rfl rfl rfl ?_
      refine qg rfl rfl rfl ?_
      refine qg rfl rfl rfl ?_
      refine qg rfl rfl rfl ?_
      refine qg rfl rfl rfl ?_
      refine qg rfl rfl rfl ?_
      refine qg rfl rfl rfl ?_
      refine qv (fun w' x_ => xpick_t rfl rfl) rfl rfl rfl ?_
      refine q_nil ?_
      intro w1 e1
      have z1 := e1.size
      have E := E.trans e1
      refine run_cond_t rfl ?_
      refine run_seq ?_
      refine run_region ?_
      refine ov (xassign rfl) rfl rfl rfl ?_
      refine ops_nil ?_
      refine run_ret Try.func56 (res1 rfl rfl) ?_
      exact ⟨_, rfl, by rw [groups_f (i := k) (by omega) (by rw [grpP, c14]; rfl)], E⟩
  ·
    refine ops_nil ?_
    refine run_cond_f rfl ?_
    refine run_exit rfl ?_
    refine run_seq ?_
    refine run_region ?_
    refine ov (xmove rfl) rfl rfl rfl ?_
    refine ov (xlen Try.underlying49 rfl) rfl rfl rfl ?_
    refine ov (xleq rfl rfl _ rfl) rfl rfl rfl ?_
    refine ov (xassign rfl) rfl rfl rfl ?_
    refine ops_nil ?_
    refine run_ret Try.func56 (res1 rfl rfl) ?_
    obtain rfl : k = n := by omega
    exact ⟨_, rfl, by rw [areGroups, ← hn, ha, Bool.true_and]; exact congrArg Value.bool (decide_eq_decide.2 (by omega)), E⟩

set_option maxHeartbeats 400000 in
theorem IndexFuncRole_ok (p : Option Addr) (n c : Nat) (xs : List Role) (hd : Nat → Hd) (w : World) (H : NS cellsRoleS 3 innRoleS strc 1 w p n c xs hd) (g : FuncId) (caps : List Value) (f : Role → Bool) (hg : ∀ args w, (callFunc g args).run Try.prog w = .ok (.enter g args) w) (hf : ∀ (w' : World), Ext w w' → ∀ i (hi : i < xs.length), Ret Try.prog g ([.agg #[.string xs[i].Name, .int .i64 xs[i].Level, .slice (hd i).p (hd i).n (hd i).c]] ++ caps) w' (Pv w' (.bool (f xs[i])))) : Ret Try.prog 93 [.slice p n c, .func (.func g) #[] caps.toArray] w (Pv w (.int .i64 (findI f xs))) := by
  refine ret_of_run (N := 19) Try.func93 rfl rfl rfl ?_
  have hn := H.len
  have hn6 := H.n64
  have E : Ext w w := Ext.refl w
  refine run_seq ?_
  refine run_region ?_
  refine ov (xassign rfl) rfl rfl rfl ?_
  refine ops_nil ?_
  refine run_seq ?_
  refine run_seq ?_
  refine run_region ?_
  refine ov (xmove rfl) rfl rfl rfl ?_
  refine ov (xlen Try.underlying25 rfl) rfl rfl rfl ?_
  refine ov (xmove rfl) rfl rfl rfl ?_
  refine ops_nil ?_
  refine run_block ?_
  refine run_loop (ι := Nat × World) (fun x_ => match x_ with | (k, wr) => (Ext w wr) ∧ (w.heap.size ≤ wr.heap.size) ∧ (k ≤ n) ∧ (∀ j (hj : j < xs.length), j < k → f xs[j] = false)) (fun x_ => match x_ with | (k, wr) => [(0, .slice p n c), (1, .func (.func g) #[] caps.toArray), (7, .int .i64 (n : Int)), (8, .int .i64 (k : Int))]) (fun x_ => match x_ with | (k, wr) => wr) (fun x_ => match x_ with | (k, wr) => n - k) ?_ (0, w) (⟨E, Nat.le_refl _, by omega, fun j hj h => absurd h (Nat.not_lt_zero j)⟩) ⟨rfl, rfl, rfl, rfl, trivial⟩ rfl
  intro i_ hI_ hback2
  obtain ⟨k, wr⟩ := i_
  obtain ⟨E, lz_wr, hk, ha⟩ := hI_
  try dsimp only
  have zr := E.size
  refine run_seq ?_
  refine run_region ?_
  refine ov (xlss rfl rfl _ rfl) rfl rfl rfl ?_
  refine ods (fun c9 => ?_) (fun c9 => ?_)
  ·
    refine ops_nil ?_
    refine run_seq ?_
    refine run_cond_t rfl ?_
    refine run_skip ?_
    refine run_seq ?_
    refine run_block ?_
    refine run_seq ?_
    refine run_region ?_
    refine ov (xmove rfl) rfl rfl rfl ?_
    refine ov (xassign rfl) rfl rfl rfl ?_
    refine ops_nil ?_
    refine run_seq ?_
    refine run_region ?_
    refine ov (xmove rfl) rfl rfl rfl ?_
    refine ov (xmove rfl) rfl rfl rfl ?_
    refine ov (xmove rfl) rfl rfl rfl ?_
    have h14 := (H.ext E).at (i := k) (by omega)
    refine ov (xindexN (i := k) Try.underlying25 Try.sizeOf71 rfl rfl rfl ((H.ext E).p (i := k) (by omega)) (by have := (H.ext E).len; omega)) rfl rfl rfl ?_
    refine ov (v := .agg #[.string xs[k].Name, .int .i64 xs[k].Level, .slice (hd k).p (hd k).n (hd k).c]) (xloadN Try.isAgg71 Try.sizeOf71 rfl (h14) rfl) rfl rfl rfl ?_
    refine oc (xcallv rfl hg rfl) rfl rfl rfl (hf _ E k (by omega)) ?_
    rintro _ w1 ⟨rfl, e1⟩
    have z1 := e1.size
    have E := E.trans e1
    refine obs (fun c16 => ?_) (fun c16 => ?_)
    ·
      refine ops_nil ?_
      refine run_cond_t rfl ?_
      refine run_seq ?_
      refine run_region ?_
      refine ov (xmove rfl) rfl rfl rfl ?_
      refine ov (xassign rfl) rfl rfl rfl ?_
      refine ops_nil ?_
      refine run_ret Try.func93 (res1 rfl rfl) ?_
      exact ⟨_, rfl, by rw [findI_at (k := k) (by omega) (by assumption) ha], E⟩
    ·
      refine ops_nil ?_
      refine run_cond_f rfl ?_
      refine run_skip ?_
      refine run_inBlock ?_
      refine run_region ?_
      refine ov (xadd rfl rfl (by unfold I64; omega)) rfl rfl rfl ?_
      refine ov (xmove rfl) rfl rfl rfl ?_
      refine ops_nil ?_
      refine run_sub ?_ (hback2 (k + 1, w1) (⟨E, by omega, by omega, below_succ (q := fun x => f x = false) ha (fun _ => by assumption)⟩) (by first | omega | (dsimp only; omega)))
      exact ⟨rfl, rfl, rfl, rfl, trivial⟩
  ·
    refine ops_nil ?_
    refine run_seq ?_
    refine run_cond_f rfl ?_
    refine run_exit rfl ?_
    refine run_seq ?_
    refine run_region ?_
    refine ov (xassign rfl) rfl rfl rfl ?_
    refine ops_nil ?_
    refine run_ret Try.func93 (res1 rfl rfl) ?_
    exact ⟨_, rfl, by rw [findI_none (fun j hj => ha j hj (by omega))], E⟩

set_option maxHeartbeats 400000 in
theorem roleOf1_ok (r : Role) (h : Hd) (name : ByteArray) (b : Nat) (w : World) (O : Own w b [.string name] 9) : Ret Try.prog 94 [.agg #[.string r.Name, .int .i64 r.Level, .slice h.p h.n h.c], .pointer (some ⟨b, 0, none⟩)] w (Pv w (.bool (decide (r.Name = name)))) := by
  refine ret_of_run (N := 8) Try.func94 rfl rfl rfl ?_
  have E : Ext w w := Ext.refl w
  refine run_seq ?_
  refine run_region ?_
  refine obox rfl rfl rfl ?_
  intro b1 w1 e1 hb1 hz1 O1
  have E := E.trans e1
  replace O := O.ext e1
  replace O1 : Own w1 b1 [.string r.Name, .int .i64 r.Level, .slice h.p h.n h.c] 71 := O1
  refine ov (xassign rfl) rfl rfl rfl ?_
  refine ops_nil ?_
  refine run_seq ?_
  refine run_region ?_
  refine ov (xfieldAddr fo71f0 rfl) rfl rfl rfl ?_
  refine ov (v := .string r.Name) (xload1 Try.isAgg9 rfl (O1.cells) rfl) rfl rfl rfl ?_
  refine ov (v := .string name) (xloadz Try.isAgg9 rfl (O.cells) rfl) rfl rfl rfl ?_
  refine ov (xseql rfl rfl _ rfl) rfl rfl rfl ?_
  refine ov (xassign rfl) rfl rfl rfl ?_
  refine ops_nil ?_
  refine run_ret Try.func94 (res1 rfl rfl) ?_
  exact ⟨_, rfl, rfl, E⟩

set_option maxHeartbeats 400000 in
theorem roleOf_ok (p : Option Addr) (n c : Nat) (xs : List Role) (name : ByteArray) (w : World) (H0 : SnRoleS w p n c xs) : Ret Try.prog 62 [.slice p n c, .string name] w (Pv w (.int .i64 (roleOf xs name))) := by
  refine ret_of_run (N := 8) Try.func62 rfl rfl rfl ?_
  obtain ⟨hd, H⟩ := H0
  have hn := H.len
  have hn6 := H.n64
  have E : Ext w w := Ext.refl w
  refine run_seq ?_
  refine run_region ?_
  refine obox rfl rfl rfl ?_
  intro b1 w1 e1 hb1 hz1 O1
  have E := E.trans e1
  replace O1 : Own w1 b1 [.string name] 9 := O1
  refine ov (xassign rfl) rfl rfl rfl ?_
  refine ops_nil ?_
  refine run_seq ?_
  refine run_region ?_
  refine ov (xmove rfl) rfl rfl rfl ?_
  refine ov (xmakeFunc rfl rfl) rfl rfl rfl ?_
  refine oc (xcall Try.call93 rfl) rfl rfl rfl (IndexFuncRole_ok _ _ _ _ _ _ (H.ext E) 94 [.pointer (some ⟨b1, 0, none⟩)] (fun r : Role => decide (r.Name = name)) Try.call94 (fun w2 x2 i2 hi2 => roleOf1_ok _ _ _ _ _ (O1.ext x2))) ?_
  rintro _ w2 ⟨rfl, e2⟩
  have z2 := e2.size
  have E := E.trans e2
  replace O1 := O1.ext e2
  refine ov (xassign rfl) rfl rfl rfl ?_
  refine ops_nil ?_
  refine run_ret Try.func62 (res1 rfl rfl) ?_
  exact ⟨_, rfl, rfl, E⟩

set_option maxHeartbeats 400000 in
theorem l24Role_ok (p : Option Addr) (n c : Nat) (xs : List Role) (name : ByteArray) (w : World) (H0 : SnRoleS w p n c xs) : Ret Try.prog 57 [.slice p n c, .string name] w (Pv w (.int .i64 (roleOf xs name))) := by
  refine ret_of_run (N := 20) Try.func57 rfl rfl rfl ?_
  obtain ⟨hd, H⟩ := H0
  have hn := H.len
  have hn6 := H.n64
  have E : Ext w w := Ext.refl w
  refine run_seq ?_
  refine run_region ?_
  refine ov (xassign rfl) rfl rfl rfl ?_
  refine ops_nil ?_
  refine run_seq ?_
  refine run_seq ?_
  refine run_region ?_
  refine ov (xassign rfl) rfl rfl rfl ?_
  refine ops_nil ?_
  refine run_block ?_
  refine run_loop (ι := Nat × World) (fun x_ => match x_ with | (k, wr) => (Ext w wr) ∧ (w.heap.size ≤ wr.heap.size) ∧ (k ≤ n) ∧ (∀ j (hj : j < xs.length), j < k → (fun r : Role => decide (r.Name = name)) xs[j] = false)) (fun x_ => match x_ with | (k, wr) => [(0, .slice p n c), (1, .string name), (5, .int .i64 (k : Int))]) (fun x_ => match x_ with | (k, wr) => wr) (fun x_ => match x_ with | (k, wr) => n - k) ?_ (0, w) (⟨E, Nat.le_refl _, by omega, fun j hj h => absurd h (Nat.not_lt_zero j)⟩) ⟨rfl, rfl, rfl, trivial⟩ rfl
  intro i_ hI_ hback2
  obtain ⟨k, wr⟩ := i_
  obtain ⟨E, lz_wr, hk, ha⟩ := hI_
  try dsimp only
  have zr := E.size
  refine run_seq ?_
  refine run_seq ?_
  refine run_region ?_
  refine ov (xmove rfl) rfl rfl rfl ?_
  refine ov (xmove rfl) rfl rfl rfl ?_
  refine ov (xlen Try.underlying25 rfl) rfl rfl rfl ?_
  refine ov (xlss rfl rfl _ rfl) rfl rfl rfl ?_
  refine ods (fun c9 => ?_) (fun c9 => ?_)
  ·
    refine ops_nil ?_
    refine run_cond_t rfl ?_
    refine run_skip ?_
    refine run_seq ?_
    refine run_block ?_
    refine run_seq ?_
    refine run_region ?_
    refine ov (xmove rfl) rfl rfl rfl ?_
    refine ov (xmove rfl) rfl rfl rfl ?_
    have h14 := (H.ext E).at (i := k) (by omega)
    refine ov (xindexN (i := k) Try.underlying25 Try.sizeOf71 rfl rfl rfl ((H.ext E).p (i := k) (by omega)) (by have := (H.ext E).len; omega)) rfl rfl rfl ?_
    refine ov (xfieldAddr fo71f0 rfl) rfl rfl rfl ?_
    refine ov (v := .string xs[k].Name) (xload1 Try.isAgg9 rfl (h14) rfl) rfl rfl rfl ?_
    refine ov (xmove rfl) rfl rfl rfl ?_
    refine ov (xseql rfl rfl _ rfl) rfl rfl rfl ?_
    refine ods (fun c18 => ?_) (fun c18 => ?_)
    ·
      refine ops_nil ?_
      refine run_cond_t rfl ?_
      refine run_seq ?_
      refine run_region ?_
      refine ov (xmove rfl) rfl rfl rfl ?_
      refine ov (xassign rfl) rfl rfl rfl ?_
      refine ops_nil ?_
      refine run_ret Try.func57 (res1 rfl rfl) ?_
      exact ⟨_, rfl, by rw [roleOf, findI_at (f := fun r : Role => decide (r.Name = name)) (k := k) (by omega) (decide_eq_true c18) ha], E⟩
    ·
      refine ops_nil ?_
      refine run_cond_f rfl ?_
      refine run_skip ?_
      refine run_inBlock ?_
      refine run_region ?_
      refine ov (xmove rfl) rfl rfl rfl ?_
      refine ov (xadd rfl rfl (by unfold I64; omega)) rfl rfl rfl ?_
      refine ov (xassign rfl) rfl rfl rfl ?_
      refine ops_nil ?_
      refine run_sub ?_ (hback2 (k + 1, wr) (⟨E, by omega, by omega, below_succ (q := fun x => (fun r : Role => decide (r.Name = name)) x = false) ha (fun _ => decide_eq_false c18)⟩) (by first | omega | (dsimp only; omega)))
      exact ⟨rfl, rfl, rfl, trivial⟩
  ·
    refine ops_nil ?_
    refine run_cond_f rfl ?_
    refine run_exit rfl ?_
    refine run_seq ?_
    refine run_region ?_
    refine ov (xassign rfl) rfl rfl rfl ?_
    refine ops_nil ?_
    refine run_ret Try.func57 (res1 rfl rfl) ?_
    exact ⟨_, rfl, by rw [roleOf, findI_none (fun j hj => ha j hj (by omega))], E⟩

set_option maxHeartbeats 400000 in
theorem IndexFuncFile_ok (p : Option Addr) (n c : Nat) (xs : List File) (hd : Nat → Hd) (w : World) (H : NS cellsFileS 4 innFileS strc 1 w p n c xs hd) (g : FuncId) (caps : List Value) (f : File → Bool) (hg : ∀ args w, (callFunc g args).run Try.prog w = .ok (.enter g args) w) (hf : ∀ (w' : World), Ext w w' → ∀ i (hi : i < xs.length), Ret Try.prog g ([.agg #[.string xs[i].Code, .int .i64 xs[i].Level, .slice (hd i).p (hd i).n (hd i).c, .int .i64 xs[i].Until]] ++ caps) w' (Pv w' (.bool (f xs[i])))) : Ret Try.prog 95 [.slice p n c, .func (.func g) #[] caps.toArray] w (Pv w (.int .i64 (findI f xs))) := by
  refine ret_of_run (N := 19) Try.func95 rfl rfl rfl ?_
  have hn := H.len
  have hn6 := H.n64
  have E : Ext w w := Ext.refl w
  refine run_seq ?_
  refine run_region ?_
  refine ov (xassign rfl) rfl rfl rfl ?_
  refine ops_nil ?_
  refine run_seq ?_
  refine run_seq ?_
  refine run_region ?_
  refine ov (xmove rfl) rfl rfl rfl ?_
  refine ov (xlen Try.underlying32 rfl) rfl rfl rfl ?_
  refine ov (xmove rfl) rfl rfl rfl ?_
  refine ops_nil ?_
  refine run_block ?_
  refine run_loop (ι := Nat × World) (fun x_ => match x_ with | (k, wr) => (Ext w wr) ∧ (w.heap.size ≤ wr.heap.size) ∧ (k ≤ n) ∧ (∀ j (hj : j < xs.length), j < k → f xs[j] = false)) (fun x_ => match x_ with | (k, wr) => [(0, .slice p n c), (1, .func (.func g) #[] caps.toArray), (7, .int .i64 (n : Int)), (8, .int .i64 (k : Int))]) (fun x_ => match x_ with | (k, wr) => wr) (fun x_ => match x_ with | (k, wr) => n - k) ?_ (0, w) (⟨E, Nat.le_refl _, by omega, fun j hj h => absurd h (Nat.not_lt_zero j)⟩) ⟨rfl, rfl, rfl, rfl, trivial⟩ rfl
  intro i_ hI_ hback2
  obtain ⟨k, wr⟩ := i_
  obtain ⟨E, lz_wr, hk, ha⟩ := hI_
  try dsimp only
  have zr := E.size
  refine run_seq ?_
  refine run_region ?_
  refine ov (xlss rfl rfl _ rfl) rfl rfl rfl ?_
  refine ods (fun c9 => ?_) (fun c9 => ?_)
  ·
    refine ops_nil ?_
    refine run_seq ?_
    refine run_cond_t rfl ?_
    refine run_skip ?_
    refine run_seq ?_
    refine run_block ?_
    refine run_seq ?_
    refine run_region ?_
    refine ov (xmove rfl) rfl rfl rfl ?_
    refine ov (xassign rfl) rfl rfl rfl ?_
    refine ops_nil ?_
    refine run_seq ?_
    refine run_region ?_
    refine ov (xmove rfl) rfl rfl rfl ?_
    refine ov (xmove rfl) rfl rfl rfl ?_
    refine ov (xmove rfl) rfl rfl rfl ?_
    have h14 := (H.ext E).at (i := k) (by omega)
    refine ov (xindexN (i := k) Try.underlying32 Try.sizeOf54 rfl rfl rfl ((H.ext E).p (i := k) (by omega)) (by have := (H.ext E).len; omega)) rfl rfl rfl ?_
    refine ov (v := .agg #[.string xs[k].Code, .int .i64 xs[k].Level, .slice (hd k).p (hd k).n (hd k).c, .int .i64 xs[k].Until]) (xloadN Try.isAgg54 Try.sizeOf54 rfl (h14) rfl) rfl rfl rfl ?_
    refine oc (xcallv rfl hg rfl) rfl rfl rfl (hf _ E k (by omega)) ?_
    rintro _ w1 ⟨rfl, e1⟩
    have z1 := e1.size
    have E := E.trans e1
    refine obs (fun c16 => ?_) (fun c16 => ?_)
    ·
      refine ops_nil ?_
      refine run_cond_t rfl ?_
      refine run_seq ?_
      refine run_region ?_
      refine ov (xmove rfl) rfl rfl rfl ?_
      refine ov (xassign rfl) rfl rfl rfl ?_
      refine ops_nil ?_
      refine run_ret Try.func95 (res1 rfl rfl) ?_
      exact ⟨_, rfl, by rw [findI_at (k := k) (by omega) (by assumption) ha], E⟩
    ·
      refine ops_nil ?_
      refine run_cond_f rfl ?_
      refine run_skip ?_
      refine run_inBlock ?_
      refine run_region ?_
      refine ov (xadd rfl rfl (by unfold I64; omega)) rfl rfl rfl ?_
      refine ov (xmove rfl) rfl rfl rfl ?_
      refine ops_nil ?_
      refine run_sub ?_ (hback2 (k + 1, w1) (⟨E, by omega, by omega, below_succ (q := fun x => f x = false) ha (fun _ => by assumption)⟩) (by first | omega | (dsimp only; omega)))
      exact ⟨rfl, rfl, rfl, rfl, trivial⟩
  ·
    refine ops_nil ?_
    refine run_seq ?_
    refine run_cond_f rfl ?_
    refine run_exit rfl ?_
    refine run_seq ?_
    refine run_region ?_
    refine ov (xassign rfl) rfl rfl rfl ?_
    refine ops_nil ?_
    refine run_ret Try.func95 (res1 rfl rfl) ?_
    exact ⟨_, rfl, by rw [findI_none (fun j hj => ha j hj (by omega))], E⟩

set_option maxHeartbeats 400000 in
theorem fileOf1_ok (r : File) (h : Hd) (name : ByteArray) (b : Nat) (w : World) (O : Own w b [.string name] 9) : Ret Try.prog 96 [.agg #[.string r.Code, .int .i64 r.Level, .slice h.p h.n h.c, .int .i64 r.Until], .pointer (some ⟨b, 0, none⟩)] w (Pv w (.bool (decide (r.Code = name)))) := by
  refine ret_of_run (N := 8) Try.func96 rfl rfl rfl ?_
  have E : Ext w w := Ext.refl w
  refine run_seq ?_
  refine run_region ?_
  refine obox rfl rfl rfl ?_
  intro b1 w1 e1 hb1 hz1 O1
  have E := E.trans e1
  replace O := O.ext e1
  replace O1 : Own w1 b1 [.string r.Code, .int .i64 r.Level, .slice h.p h.n h.c, .int .i64 r.Until] 54 := O1
  refine ov (xassign rfl) rfl rfl rfl ?_
  refine ops_nil ?_
  refine run_seq ?_
  refine run_region ?_
  refine ov (xfieldAddr fo54f0 rfl) rfl rfl rfl ?_
  refine ov (v := .string r.Code) (xload1 Try.isAgg9 rfl (O1.cells) rfl) rfl rfl rfl ?_
  refine ov (v := .string name) (xloadz Try.isAgg9 rfl (O.cells) rfl) rfl rfl rfl ?_
  refine ov (xseql rfl rfl _ rfl) rfl rfl rfl ?_
  refine ov (xassign rfl) rfl rfl rfl ?_
  refine ops_nil ?_
  refine run_ret Try.func96 (res1 rfl rfl) ?_
  exact ⟨_, rfl, rfl, E⟩

set_option maxHeartbeats 400000 in
theorem fileOf_ok (p : Option Addr) (n c : Nat) (xs : List File) (name : ByteArray) (w : World) (H0 : SnFileS w p n c xs) : Ret Try.prog 70 [.slice p n c, .string name] w (Pv w (.int .i64 (fileOf xs name))) := by
  refine ret_of_run (N := 8) Try.func70 rfl rfl rfl ?_
  obtain ⟨hd, H⟩ := H0
  have hn := H.len
  have hn6 := H.n64
  have E : Ext w w := Ext.refl w
  refine run_seq ?_
  refine run_region ?_
  refine obox rfl rfl rfl ?_
  intro b1 w1 e1 hb1 hz1 O1
  have E := E.trans e1
  replace O1 : Own w1 b1 [.string name] 9 := O1
  refine ov (xassign rfl) rfl rfl rfl ?_
  refine ops_nil ?_
  refine run_seq ?_
  refine run_region ?_
  refine ov (xmove rfl) rfl rfl rfl ?_
  refine ov (xmakeFunc rfl rfl) rfl rfl rfl ?_
  refine oc (xcall Try.call95 rfl) rfl rfl rfl (IndexFuncFile_ok _ _ _ _ _ _ (H.ext E) 96 [.pointer (some ⟨b1, 0, none⟩)] (fun r : File => decide (r.Code = name)) Try.call96 (fun w2 x2 i2 hi2 => fileOf1_ok _ _ _ _ _ (O1.ext x2))) ?_
  rintro _ w2 ⟨rfl, e2⟩
  have z2 := e2.size
  have E := E.trans e2
  replace O1 := O1.ext e2
  refine ov (xassign rfl) rfl rfl rfl ?_
  refine ops_nil ?_
  refine run_ret Try.func70 (res1 rfl rfl) ?_
  exact ⟨_, rfl, rfl, E⟩

set_option maxHeartbeats 400000 in
theorem l24File_ok (p : Option Addr) (n c : Nat) (xs : List File) (name : ByteArray) (w : World) (H0 : SnFileS w p n c xs) : Ret Try.prog 67 [.slice p n c, .string name] w (Pv w (.int .i64 (fileOf xs name))) := by
  refine ret_of_run (N := 20) Try.func67 rfl rfl rfl ?_
  obtain ⟨hd, H⟩ := H0
  have hn := H.len
  have hn6 := H.n64
  have E : Ext w w := Ext.refl w
  refine run_seq ?_
  refine run_region ?_
  refine ov (xassign rfl) rfl rfl rfl ?_
  refine ops_nil ?_
  refine run_seq ?_
  refine run_seq ?_
  refine run_region ?_
  refine ov (xassign rfl) rfl rfl rfl ?_
  refine ops_nil ?_
  refine run_block ?_
  refine run_loop (ι := Nat × World) (fun x_ => match x_ with | (k, wr) => (Ext w wr) ∧ (w.heap.size ≤ wr.heap.size) ∧ (k ≤ n) ∧ (∀ j (hj : j < xs.length), j < k → (fun r : File => decide (r.Code = name)) xs[j] = false)) (fun x_ => match x_ with | (k, wr) => [(0, .slice p n c), (1, .string name), (5, .int .i64 (k : Int))]) (fun x_ => match x_ with | (k, wr) => wr) (fun x_ => match x_ with | (k, wr) => n - k) ?_ (0, w) (⟨E, Nat.le_refl _, by omega, fun j hj h => absurd h (Nat.not_lt_zero j)⟩) ⟨rfl, rfl, rfl, trivial⟩ rfl
  intro i_ hI_ hback2
  obtain ⟨k, wr⟩ := i_
  obtain ⟨E, lz_wr, hk, ha⟩ := hI_
  try dsimp only
  have zr := E.size
  refine run_seq ?_
  refine run_seq ?_
  refine run_region ?_
  refine ov (xmove rfl) rfl rfl rfl ?_
  refine ov (xmove rfl) rfl rfl rfl ?_
  refine ov (xlen Try.underlying32 rfl) rfl rfl rfl ?_
  refine ov (xlss rfl rfl _ rfl) rfl rfl rfl ?_
  refine ods (fun c9 => ?_) (fun c9 => ?_)
  ·
    refine ops_nil ?_
    refine run_cond_t rfl ?_
    refine run_skip ?_
    refine run_seq ?_
    refine run_block ?_
    refine run_seq ?_
    refine run_region ?_
    refine ov (xmove rfl) rfl rfl rfl ?_
    refine ov (xmove rfl) rfl rfl rfl ?_
    have h14 := (H.ext E).at (i := k) (by omega)
    refine ov (xindexN (i := k) Try.underlying32 Try.sizeOf54 rfl rfl rfl ((H.ext E).p (i := k) (by omega)) (by have := (H.ext E).len; omega)) rfl rfl rfl ?_
    refine ov (xfieldAddr fo54f0 rfl) rfl rfl rfl ?_
    refine ov (v := .string xs[k].Code) (xload1 Try.isAgg9 rfl (h14) rfl) rfl rfl rfl ?_
    refine ov (xmove rfl) rfl rfl rfl ?_
    refine ov (xseql rfl rfl _ rfl) rfl rfl rfl ?_
    refine ods (fun c18 => ?_) (fun c18 => ?_)
    ·
      refine ops_nil ?_
      refine run_cond_t rfl ?_
      refine run_seq ?_
      refine run_region ?_
      refine ov (xmove rfl) rfl rfl rfl ?_
      refine ov (xassign rfl) rfl rfl rfl ?_
      refine ops_nil ?_
      refine run_ret Try.func67 (res1 rfl rfl) ?_
      exact ⟨_, rfl, by rw [fileOf, findI_at (f := fun r : File => decide (r.Code = name)) (k := k) (by omega) (decide_eq_true c18) ha], E⟩
    ·
      refine ops_nil ?_
      refine run_cond_f rfl ?_
      refine run_skip ?_
      refine run_inBlock ?_
      refine run_region ?_
      refine ov (xmove rfl) rfl rfl rfl ?_
      refine ov (xadd rfl rfl (by unfold I64; omega)) rfl rfl rfl ?_
      refine ov (xassign rfl) rfl rfl rfl ?_
      refine ops_nil ?_
      refine run_sub ?_ (hback2 (k + 1, wr) (⟨E, by omega, by omega, below_succ (q := fun x => (fun r : File => decide (r.Code = name)) x = false) ha (fun _ => decide_eq_false c18)⟩) (by first | omega | (dsimp only; omega)))
      exact ⟨rfl, rfl, rfl, trivial⟩
  ·
    refine ops_nil ?_
    refine run_cond_f rfl ?_
    refine run_exit rfl ?_
    refine run_seq ?_
    refine run_region ?_
    refine ov (xassign rfl) rfl rfl rfl ?_
    refine ops_nil ?_
    refine run_ret Try.func67 (res1 rfl rfl) ?_
    exact ⟨_, rfl, by rw [fileOf, findI_none (fun j hj => ha j hj (by omega))], E⟩

set_option maxHeartbeats 400000 in
theorem isLevel_ok (n : Int) (w : World) : Ret Try.prog 60 [.int .i64 n] w (Ps w (.bool (inR 0 9 n))) := by
  refine ret_of_run (N := 5) Try.func60 rfl rfl rfl ?_
  have E : Ext w w := Ext.refl w
  refine run_seq ?_
  refine run_region ?_
  refine ov (xassign rfl) rfl rfl rfl ?_
  refine ops_nil ?_
  refine run_seq ?_
  refine run_region ?_
  refine ov (xmove rfl) rfl rfl rfl ?_
  refine oc (xcall Try.call92 rfl) rfl rfl rfl (within_ok (n) (0) (9) _) ?_
  rintro _ w_ ⟨rfl, hw_⟩
  replace hw_ := hw_.symm
  subst hw_
  refine ov (xassign rfl) rfl rfl rfl ?_
  refine ops_nil ?_
  refine run_ret Try.func60 (res1 rfl rfl) ?_
  exact ⟨_, rfl, rfl, rfl⟩

set_option maxHeartbeats 1000000 in
theorem AreRoles_ok (p : Option Addr) (n c : Nat) (xs : List Role) (w : World) (H0 : SnRoleS w p n c xs) (hx : ∀ x ∈ xs, x.ok) : Ret Try.prog 17 [.slice p n c] w (Pv w (.bool (areRoles xs))) := by
  refine ret_of_run (N := 40) Try.func17 rfl rfl rfl ?_
  obtain ⟨hd, H⟩ := H0
  have hn := H.len
  have hn6 := H.n64
  have E : Ext w w := Ext.refl w
  refine run_seq ?_
  refine run_region ?_
  refine ov (xassign rfl) rfl rfl rfl ?_
  refine ops_nil ?_
  refine run_seq ?_
  refine run_seq ?_
  refine run_region ?_
  refine ov (xmove rfl) rfl rfl rfl ?_
  refine ov (xlen Try.underlying25 rfl) rfl rfl rfl ?_
  refine ov (xmove rfl) rfl rfl rfl ?_
  refine ops_nil ?_
  refine run_block ?_
  refine run_loop (ι := Nat × World) (fun x_ => match x_ with | (i, wr) => (Ext w wr) ∧ (w.heap.size ≤ wr.heap.size) ∧ (i ≤ n) ∧ (allB i (allI (roleP xs) xs) = true)) (fun x_ => match x_ with | (i, wr) => [(0, .slice p n c), (5, .slice p n c), (6, .int .i64 (n : Int)), (7, .int .i64 (i : Int))]) (fun x_ => match x_ with | (i, wr) => wr) (fun x_ => match x_ with | (i, wr) => n - i) ?_ (0, w) (⟨E, Nat.le_refl _, by omega, allB_zero⟩) ⟨rfl, rfl, rfl, rfl, trivial⟩ rfl
  intro i_ hI_ hback2
  obtain ⟨i, wr⟩ := i_
  obtain ⟨E, lz_wr, hi, ha⟩ := hI_
  try dsimp only
  have zr := E.size
  refine run_seq ?_
  refine run_region ?_
  refine ov (xlss rfl rfl _ rfl) rfl rfl rfl ?_
  refine ods (fun c8 => ?_) (fun c8 => ?_)
  ·
    refine ops_nil ?_
    refine run_seq ?_
    refine run_cond_t rfl ?_
    refine run_skip ?_
    refine run_seq ?_
    refine run_block ?_
    refine run_seq ?_
    refine run_region ?_
    refine ov (xmove rfl) rfl rfl rfl ?_
    have h10 := (H.ext E).at (i := i) (by omega)
    refine ov (xindexN (i := i) Try.underlying25 Try.sizeOf71 rfl rfl rfl ((H.ext E).p (i := i) (by omega)) (by have := (H.ext E).len; omega)) rfl rfl rfl ?_
    refine ov (v := .agg #[.string xs[i].Name, .int .i64 xs[i].Level, .slice (hd i).p (hd i).n (hd i).c]) (xloadN Try.isAgg71 Try.sizeOf71 rfl (h10) rfl) rfl rfl rfl ?_
    refine oalloc Try.zeroValue71 rfl rfl ?_
    intro b1 w1 e1 hb1 hz1 O1
    have E := E.trans e1
    replace O1 : Own w1 b1 [.string ⟨#[]⟩, .int .i64 0, .slice none 0 0] 71 := O1
    refine ov (xassign rfl) rfl rfl rfl ?_
    refine ostoreN (vs := _) Try.sizeOf71 rfl rfl O1 rfl (by simp) (by simp [Value.oneCell']) rfl ?_
    intro w2 on2 O2
    have hz2 := on2.size
    have E := on2.ext E (by omega)
    replace O2 : Own w2 b1 [.string xs[i].Name, .int .i64 xs[i].Level, .slice (hd i).p (hd i).n (hd i).c] 71 := O2
    refine ops_nil ?_
    refine run_seq ?_
    refine run_region ?_
    refine ov (xfieldAddr fo71f0 rfl) rfl rfl rfl ?_
    refine ov (v := .string xs[i].Name) (xload1 Try.isAgg9 rfl (O2.cells) rfl) rfl rfl rfl ?_
    have hok := hx _ (List.getElem_mem (by omega : i < xs.length))
    unfold Role.ok at hok
    obtain ⟨ho1, ho2, ho3⟩ := hok
    refine oc (xcall Try.call59 rfl) rfl rfl rfl (IsWord_ok (xs[i].Name) _ (by first | assumption | omega)) ?_
    rintro _ w_ ⟨rfl, hw_⟩
    replace hw_ := hw_.symm
    subst hw_
    refine obs (fun c14 => ?_) (fun c14 => ?_)
    ·
      refine ov (xnot rfl) rfl rfl rfl ?_
      refine ov (xmove rfl) rfl rfl rfl ?_
      refine ov (xfieldAddr fo71f1 rfl) rfl rfl rfl ?_
      refine ov (v := .int .i64 xs[i].Level) (xload1 Try.isAgg2 rfl (O2.cells) rfl) rfl rfl rfl ?_
      refine oc (xcall Try.call60 rfl) rfl rfl rfl (isLevel_ok (xs[i].Level) _) ?_
      rintro _ w_ ⟨rfl, hw_⟩
      replace hw_ := hw_.symm
      subst hw_
      refine obs (fun c19 => ?_) (fun c19 => ?_)
      ·
        refine ov (xnot rfl) rfl rfl rfl ?_
        refine ov (xpick_f rfl rfl) rfl rfl rfl ?_
        refine ov (xmove rfl) rfl rfl rfl ?_
        refine ov (xfieldAddr fo71f2 rfl) rfl rfl rfl ?_
        refine ov (v := .slice (hd i).p (hd i).n (hd i).c) (xload1 Try.isAgg49 rfl (O2.cells) rfl) rfl rfl rfl ?_
        refine oc (xcall Try.call61 rfl) rfl rfl rfl (areGroups_ok _ _ _ xs[i].Groups _ ((H.inner (i := i) (by omega)).ext E) (by assumption)) ?_
        rintro _ w3 ⟨rfl, e3⟩
        have z3 := e3.size
        have E := E.trans e3
        replace O2 := O2.ext e3
        refine obs (fun c25 => ?_) (fun c25 => ?_)
        ·
          refine ov (xnot rfl) rfl rfl rfl ?_
          refine ov (xpick_f rfl rfl) rfl rfl rfl ?_
          refine ov (xmove rfl) rfl rfl rfl ?_
          refine ov (xmove rfl) rfl rfl rfl ?_
          refine ov (xfieldAddr fo71f0 rfl) rfl rfl rfl ?_
          refine ov (v := .string xs[i].Name) (xload1 Try.isAgg9 rfl (O2.cells) rfl) rfl rfl rfl ?_
          refine oc (xcall Try.call62 rfl) rfl rfl rfl (roleOf_ok _ _ _ _ (xs[i].Name) _ (H.ext E).sn) ?_
          rintro _ w4 ⟨rfl, e4⟩
          have z4 := e4.size
          have E := E.trans e4
          replace O2 := O2.ext e4
          refine ov (xmove rfl) rfl rfl rfl ?_
          refine ov (xneq rfl rfl _ rfl) rfl rfl rfl ?_
          refine ods (fun c34 => ?_) (fun c34 => ?_)
          ·
            refine ov (xpick_f rfl rfl) rfl rfl rfl ?_
            refine ops_nil ?_
            refine run_cond_t rfl ?_
            refine run_seq ?_
            refine run_region ?_
            refine ov (xassign rfl) rfl rfl rfl ?_
            refine ops_nil ?_
            refine run_ret Try.func17 (res1 rfl rfl) ?_
            exact ⟨_, rfl, by rw [roles_f (i := i) (by omega) (by simp only [roleP, Bool.and_eq_false_iff, decide_eq_false_iff_not]; exact .inr (by omega))], E⟩
          ·
            refine ov (xpick_f rfl rfl) rfl rfl rfl ?_
            refine ops_nil ?_
            refine run_cond_f rfl ?_
            refine run_skip ?_
            refine run_inBlock ?_
            refine run_region ?_
            refine ov (xadd rfl rfl (by unfold I64; omega)) rfl rfl rfl ?_
            refine ov (xmove rfl) rfl rfl rfl ?_
            refine ops_nil ?_
            refine run_sub ?_ (hback2 (i + 1, w4) (⟨E, by omega, by omega, allB_succ ha (by rw [allI_of (by omega)]; simp only [roleP, c14, c19, c25, Bool.true_and, Bool.and_true, decide_eq_true_eq]; omega)⟩) (by first | omega | (dsimp only; omega)))
            exact ⟨rfl, rfl, rfl, rfl, trivial⟩
        ·
          refine ov (xnot rfl) rfl rfl rfl ?_
          refine ov (xpick_f rfl rfl) rfl rfl rfl ?_
          refine ov (xmove rfl) rfl rfl rfl ?_
          refine og rfl rfl rfl ?_
          refine og rfl rfl rfl ?_
          refine og rfl rfl rfl ?_
          refine og rfl rfl rfl ?_
          refine og rfl rfl rfl ?_
          refine og rfl rfl rfl ?_
          refine ov (xpick_t rfl rfl) rfl rfl rfl ?_
          refine ops_nil ?_
          refine run_cond_t rfl ?_
          refine run_seq ?_
          refine run_region ?_
          refine ov (xassign rfl) rfl rfl rfl ?_
          refine ops_nil ?_
          refine run_ret Try.func17 (res1 rfl rfl) ?_
          exact ⟨_, rfl, by rw [roles_f (i := i) (by omega) (by simp [roleP, c25])], E⟩
      ·
        refine ov (xnot rfl) rfl rfl rfl ?_
        refine ov (xpick_f rfl rfl) rfl rfl rfl ?_
        refine ov (xmove rfl) rfl rfl rfl ?_
        refine og rfl rfl rfl ?_
        refine og rfl rfl rfl ?_
        refine og rfl rfl rfl ?_
        refine og rfl rfl rfl ?_
        refine ov (xpick_t rfl rfl) rfl rfl rfl ?_
        refine ov (xmove rfl) rfl rfl rfl ?_
        refine og rfl rfl rfl ?_
        refine og rfl rfl rfl ?_
        refine og rfl rfl rfl ?_
        refine og rfl rfl rfl ?_
        refine og rfl rfl rfl ?_
        refine og rfl rfl rfl ?_
        refine ov (xpick_t rfl rfl) rfl rfl rfl ?_
        refine ops_nil ?_
        refine run_cond_t rfl ?_
        refine run_seq ?_
        refine run_region ?_
        refine ov (xassign rfl) rfl rfl rfl ?_
        refine ops_nil ?_
        refine run_ret Try.func17 (res1 rfl rfl) ?_
        exact ⟨_, rfl, by rw [roles_f (i := i) (by omega) (by simp [roleP, c19])], E⟩
    ·
      refine ov (xnot rfl) rfl rfl rfl ?_
      refine ov (xmove rfl) rfl rfl rfl ?_
      refine og rfl rfl rfl ?_
      refine og rfl rfl rfl ?_
      refine og rfl rfl rfl ?_
      refine og rfl rfl rfl ?_
      refine ov (xpick_t rfl rfl) rfl rfl rfl ?_
      refine ov (xmove rfl) rfl rfl rfl ?_
      refine og rfl rfl rfl ?_
      refine og rfl rfl rfl ?_
      refine og rfl rfl rfl ?_
      refine og rfl rfl rfl ?_
      refine ov (xpick_t rfl rfl) rfl rfl rfl ?_
      refine ov (xmove rfl) rfl rfl rfl ?_
      refine og rfl rfl rfl ?_
      refine og rfl rfl rfl ?_
      refine og rfl rfl rfl ?_
      refine og rfl rfl rfl ?_
      refine og rfl rfl rfl ?_
      refine og rfl rfl rfl ?_
      refine ov (xpick_t rfl rfl) rfl rfl rfl ?_
      refine ops_nil ?_
      refine run_cond_t rfl ?_
      refine run_seq ?_
      refine run_region ?_
      refine ov (xassign rfl) rfl rfl rfl ?_
      refine ops_nil ?_
      refine run_ret Try.func17 (res1 rfl rfl) ?_
      exact ⟨_, rfl, by rw [roles_f (i := i) (by omega) (by simp [roleP, c14])], E⟩
  ·
    refine ops_nil ?_
    refine run_seq ?_
    refine run_cond_f rfl ?_
    refine run_exit rfl ?_
    refine run_seq ?_
    refine run_region ?_
    refine ov (xmove rfl) rfl rfl rfl ?_
    refine ov (xlen Try.underlying25 rfl) rfl rfl rfl ?_
    refine oc (xcall Try.call63 rfl) rfl rfl rfl (few_ok ((n : Int)) (8) _) ?_
    rintro _ w_ ⟨rfl, hw_⟩
    replace hw_ := hw_.symm
    subst hw_
    refine ov (xassign rfl) rfl rfl rfl ?_
    refine ops_nil ?_
    refine run_ret Try.func17 (res1 rfl rfl) ?_
    obtain rfl : i = n := by omega
    exact ⟨_, rfl, by rw [areRoles, ← hn, ha, Bool.true_and]; exact congrArg Value.bool (decide_eq_decide.2 (by omega)), E⟩

set_option maxHeartbeats 1000000 in
theorem sAreRoles_ok (p : Option Addr) (n c : Nat) (xs : List Role) (w : World) (H0 : SnRoleS w p n c xs) (hx : ∀ x ∈ xs, x.ok) : Ret Try.prog 15 [.slice p n c] w (Pv w (.bool (areRoles xs))) := by
  refine ret_of_run (N := 42) Try.func15 rfl rfl rfl ?_
  obtain ⟨hd, H⟩ := H0
  have hn := H.len
  have hn6 := H.n64
  have E : Ext w w := Ext.refl w
  refine run_seq ?_
  refine run_region ?_
  refine ov (xassign rfl) rfl rfl rfl ?_
  refine ops_nil ?_
  refine run_seq ?_
  refine run_seq ?_
  refine run_region ?_
  refine ov (xassign rfl) rfl rfl rfl ?_
  refine ops_nil ?_
  refine run_block ?_
  refine run_loop (ι := Nat × World) (fun x_ => match x_ with | (i, wr) => (Ext w wr) ∧ (w.heap.size ≤ wr.heap.size) ∧ (i ≤ n) ∧ (allB i (allI (roleP xs) xs) = true)) (fun x_ => match x_ with | (i, wr) => [(0, .slice p n c), (3, .int .i64 (i : Int))]) (fun x_ => match x_ with | (i, wr) => wr) (fun x_ => match x_ with | (i, wr) => n - i) ?_ (0, w) (⟨E, Nat.le_refl _, by omega, allB_zero⟩) ⟨rfl, rfl, trivial⟩ rfl
  intro i_ hI_ hback2
  obtain ⟨i, wr⟩ := i_
  obtain ⟨E, lz_wr, hi, ha⟩ := hI_
  try dsimp only
  have zr := E.size
  refine run_seq ?_
  refine run_seq ?_
  refine run_region ?_
  refine ov (xmove rfl) rfl rfl rfl ?_
  refine ov (xmove rfl) rfl rfl rfl ?_
  refine ov (xlen Try.underlying25 rfl) rfl rfl rfl ?_
  refine ov (xlss rfl rfl _ rfl) rfl rfl rfl ?_
  refine ods (fun c8 => ?_) (fun c8 => ?_)
  ·
    refine ops_nil ?_
    refine run_cond_t rfl ?_
    refine run_skip ?_
    refine run_seq ?_
    refine run_block ?_
    refine run_seq ?_
    refine run_region ?_
    refine ov (xmove rfl) rfl rfl rfl ?_
    refine ov (xmove rfl) rfl rfl rfl ?_
    have h13 := (H.ext E).at (i := i) (by omega)
    refine ov (xindexN (i := i) Try.underlying25 Try.sizeOf71 rfl rfl rfl ((H.ext E).p (i := i) (by omega)) (by have := (H.ext E).len; omega)) rfl rfl rfl ?_
    refine ov (v := .agg #[.string xs[i].Name, .int .i64 xs[i].Level, .slice (hd i).p (hd i).n (hd i).c]) (xloadN Try.isAgg71 Try.sizeOf71 rfl (h13) rfl) rfl rfl rfl ?_
    refine oalloc Try.zeroValue71 rfl rfl ?_
    intro b1 w1 e1 hb1 hz1 O1
    have E := E.trans e1
    replace O1 : Own w1 b1 [.string ⟨#[]⟩, .int .i64 0, .slice none 0 0] 71 := O1
    refine ostoreN (vs := _) Try.sizeOf71 rfl rfl O1 rfl (by simp) (by simp [Value.oneCell']) rfl ?_
    intro w2 on2 O2
    have hz2 := on2.size
    have E := on2.ext E (by omega)
    replace O2 : Own w2 b1 [.string xs[i].Name, .int .i64 xs[i].Level, .slice (hd i).p (hd i).n (hd i).c] 71 := O2
    refine ops_nil ?_
    refine run_seq ?_
    refine run_region ?_
    refine ov (xfieldAddr fo71f0 rfl) rfl rfl rfl ?_
    refine ov (v := .string xs[i].Name) (xload1 Try.isAgg9 rfl (O2.cells) rfl) rfl rfl rfl ?_
    have hok := hx _ (List.getElem_mem (by omega : i < xs.length))
    unfold Role.ok at hok
    obtain ⟨ho1, ho2, ho3⟩ := hok
    refine oc (xcall Try.call54 rfl) rfl rfl rfl (sIsWord_ok (xs[i].Name) _ (by first | assumption | omega)) ?_
    rintro _ w_ ⟨rfl, hw_⟩
    replace hw_ := hw_.symm
    subst hw_
    refine obs (fun c17 => ?_) (fun c17 => ?_)
    ·
      refine ov (xnot rfl) rfl rfl rfl ?_
      refine ov (xmove rfl) rfl rfl rfl ?_
      refine ov (xfieldAddr fo71f1 rfl) rfl rfl rfl ?_
      refine ov (v := .int .i64 xs[i].Level) (xload1 Try.isAgg2 rfl (O2.cells) rfl) rfl rfl rfl ?_
      refine oc (xcall Try.call55 rfl) rfl rfl rfl (l01In_ok (xs[i].Level) (0) (9) _) ?_
      rintro _ w_ ⟨rfl, hw_⟩
      replace hw_ := hw_.symm
      subst hw_
      refine obs (fun c22 => ?_) (fun c22 => ?_)
      ·
        refine ov (xnot rfl) rfl rfl rfl ?_
        refine ov (xpick_f rfl rfl) rfl rfl rfl ?_
        refine ov (xmove rfl) rfl rfl rfl ?_
        refine ov (xfieldAddr fo71f2 rfl) rfl rfl rfl ?_
        refine ov (v := .slice (hd i).p (hd i).n (hd i).c) (xload1 Try.isAgg49 rfl (O2.cells) rfl) rfl rfl rfl ?_
        refine oc (xcall Try.call56 rfl) rfl rfl rfl (l24Groups_ok _ _ _ xs[i].Groups _ ((H.inner (i := i) (by omega)).ext E) (by assumption)) ?_
        rintro _ w3 ⟨rfl, e3⟩
        have z3 := e3.size
        have E := E.trans e3
        replace O2 := O2.ext e3
        refine obs (fun c28 => ?_) (fun c28 => ?_)
        ·
          refine ov (xnot rfl) rfl rfl rfl ?_
          refine ov (xpick_f rfl rfl) rfl rfl rfl ?_
          refine ov (xmove rfl) rfl rfl rfl ?_
          refine ov (xmove rfl) rfl rfl rfl ?_
          refine ov (xfieldAddr fo71f0 rfl) rfl rfl rfl ?_
          refine ov (v := .string xs[i].Name) (xload1 Try.isAgg9 rfl (O2.cells) rfl) rfl rfl rfl ?_
          refine oc (xcall Try.call57 rfl) rfl rfl rfl (l24Role_ok _ _ _ _ (xs[i].Name) _ (H.ext E).sn) ?_
          rintro _ w4 ⟨rfl, e4⟩
          have z4 := e4.size
          have E := E.trans e4
          replace O2 := O2.ext e4
          refine ov (xmove rfl) rfl rfl rfl ?_
          refine ov (xneq rfl rfl _ rfl) rfl rfl rfl ?_
          refine ods (fun c37 => ?_) (fun c37 => ?_)
          ·
            refine ov (xpick_f rfl rfl) rfl rfl rfl ?_
            refine ops_nil ?_
            refine run_cond_t rfl ?_
            refine run_seq ?_
            refine run_region ?_
            refine ov (xassign rfl) rfl rfl rfl ?_
            refine ops_nil ?_
            refine run_ret Try.func15 (res1 rfl rfl) ?_
            exact ⟨_, rfl, by rw [roles_f (i := i) (by omega) (by simp only [roleP, Bool.and_eq_false_iff, decide_eq_false_iff_not]; exact .inr (by omega))], E⟩
          ·
            refine ov (xpick_f rfl rfl) rfl rfl rfl ?_
            refine ops_nil ?_
            refine run_cond_f rfl ?_
            refine run_skip ?_
            refine run_inBlock ?_
            refine run_region ?_
            refine ov (xmove rfl) rfl rfl rfl ?_
            refine ov (xadd rfl rfl (by unfold I64; omega)) rfl rfl rfl ?_
            refine ov (xassign rfl) rfl rfl rfl ?_
            refine ops_nil ?_
            refine run_sub ?_ (hback2 (i + 1, w4) (⟨E, by omega, by omega, allB_succ ha (by rw [allI_of (by omega)]; simp only [roleP, c17, c22, c28, Bool.true_and, Bool.and_true, decide_eq_true_eq]; omega)⟩) (by first | omega | (dsimp only; omega)))
            exact ⟨rfl, rfl, trivial⟩
        ·
          refine ov (xnot rfl) rfl rfl rfl ?_
          refine ov (xpick_f rfl rfl) rfl rfl rfl ?_
          refine ov (xmove rfl) rfl rfl rfl ?_
          refine og rfl rfl rfl ?_
          refine og rfl rfl rfl ?_
          refine og rfl rfl rfl ?_
          refine og rfl rfl rfl ?_
          refine og rfl rfl rfl ?_
          refine og rfl rfl rfl ?_
          refine ov (xpick_t rfl rfl) rfl rfl rfl ?_
          refine ops_nil ?_
          refine run_cond_t rfl ?_
          refine run_seq ?_
          refine run_region ?_
          refine ov (xassign rfl) rfl rfl rfl ?_
          refine ops_nil ?_
          refine run_ret Try.func15 (res1 rfl rfl) ?_
          exact ⟨_, rfl, by rw [roles_f (i := i) (by omega) (by simp [roleP, c28])], E⟩
      ·
        refine ov (xnot rfl) rfl rfl rfl ?_
        refine ov (xpick_f rfl rfl) rfl rfl rfl ?_
        refine ov (xmove rfl) rfl rfl rfl ?_
        refine og rfl rfl rfl ?_
        refine og rfl rfl rfl ?_
        refine og rfl rfl rfl ?_
        refine og rfl rfl rfl ?_
        refine ov (xpick_t rfl rfl) rfl rfl rfl ?_
        refine ov (xmove rfl) rfl rfl rfl ?_
        refine og rfl rfl rfl ?_
        refine og rfl rfl rfl ?_
        refine og rfl rfl rfl ?_
        refine og rfl rfl rfl ?_
        refine og rfl rfl rfl ?_
        refine og rfl rfl rfl ?_
        refine ov (xpick_t rfl rfl) rfl rfl rfl ?_
        refine ops_nil ?_
        refine run_cond_t rfl ?_
        refine run_seq ?_
        refine run_region ?_
        refine ov (xassign rfl) rfl rfl rfl ?_
        refine ops_nil ?_
        refine run_ret Try.func15 (res1 rfl rfl) ?_
        exact ⟨_, rfl, by rw [roles_f (i := i) (by omega) (by simp [roleP, c22])], E⟩
    ·
      refine ov (xnot rfl) rfl rfl rfl ?_
      refine ov (xmove rfl) rfl rfl rfl ?_
      refine og rfl rfl rfl ?_
      refine og rfl rfl rfl ?_
      refine og rfl rfl rfl ?_
      refine og rfl rfl rfl ?_
      refine ov (xpick_t rfl rfl) rfl rfl rfl ?_
      refine ov (xmove rfl) rfl rfl rfl ?_
      refine og rfl rfl rfl ?_
      refine og rfl rfl rfl ?_
      refine og rfl rfl rfl ?_
      refine og rfl rfl rfl ?_
      refine ov (xpick_t rfl rfl) rfl rfl rfl ?_
      refine ov (xmove rfl) rfl rfl rfl ?_
      refine og rfl rfl rfl ?_
      refine og rfl rfl rfl ?_
      refine og rfl rfl rfl ?_
      refine og rfl rfl rfl ?_
      refine og rfl rfl rfl ?_
      refine og rfl rfl rfl ?_
      refine ov (xpick_t rfl rfl) rfl rfl rfl ?_
      refine ops_nil ?_
      refine run_cond_t rfl ?_
      refine run_seq ?_
      refine run_region ?_
      refine ov (xassign rfl) rfl rfl rfl ?_
      refine ops_nil ?_
      refine run_ret Try.func15 (res1 rfl rfl) ?_
      exact ⟨_, rfl, by rw [roles_f (i := i) (by omega) (by simp [roleP, c17])], E⟩
  ·
    refine ops_nil ?_
    refine run_cond_f rfl ?_
    refine run_exit rfl ?_
    refine run_seq ?_
    refine run_region ?_
    refine ov (xmove rfl) rfl rfl rfl ?_
    refine ov (xlen Try.underlying25 rfl) rfl rfl rfl ?_
    refine ov (xleq rfl rfl _ rfl) rfl rfl rfl ?_
    refine ov (xassign rfl) rfl rfl rfl ?_
    refine ops_nil ?_
    refine run_ret Try.func15 (res1 rfl rfl) ?_
    obtain rfl : i = n := by omega
    exact ⟨_, rfl, by rw [areRoles, ← hn, ha, Bool.true_and]; exact congrArg Value.bool (decide_eq_decide.2 (by omega)), E⟩

set_option maxHeartbeats 1000000 in
theorem AreFiles_ok (p : Option Addr) (n c : Nat) (xs : List File) (w : World) (H0 : SnFileS w p n c xs) (hx : ∀ x ∈ xs, x.ok) : Ret Try.prog 22 [.slice p n c] w (Pv w (.bool (areFiles xs))) := by
  refine ret_of_run (N := 46) Try.func22 rfl rfl rfl ?_
  obtain ⟨hd, H⟩ := H0
  have hn := H.len
  have hn6 := H.n64
  have E : Ext w w := Ext.refl w
  refine run_seq ?_
  refine run_region ?_
  refine ov (xassign rfl) rfl rfl rfl ?_
  refine ops_nil ?_
  refine run_seq ?_
  refine run_seq ?_
  refine run_region ?_
  refine ov (xmove rfl) rfl rfl rfl ?_
  refine ov (xlen Try.underlying32 rfl) rfl rfl rfl ?_
  refine ov (xmove rfl) rfl rfl rfl ?_
  refine ops_nil ?_
  refine run_block ?_
  refine run_loop (ι := Nat × World) (fun x_ => match x_ with | (i, wr) => (Ext w wr) ∧ (w.heap.size ≤ wr.heap.size) ∧ (i ≤ n) ∧ (allB i (allI (fileP xs) xs) = true)) (fun x_ => match x_ with | (i, wr) => [(0, .slice p n c), (5, .slice p n c), (6, .int .i64 (n : Int)), (7, .int .i64 (i : Int))]) (fun x_ => match x_ with | (i, wr) => wr) (fun x_ => match x_ with | (i, wr) => n - i) ?_ (0, w) (⟨E, Nat.le_refl _, by omega, allB_zero⟩) ⟨rfl, rfl, rfl, rfl, trivial⟩ rfl
  intro i_ hI_ hback2
  obtain ⟨i, wr⟩ := i_
  obtain ⟨E, lz_wr, hi, ha⟩ := hI_
  try dsimp only
  have zr := E.size
  refine run_seq ?_
  refine run_region ?_
  refine ov (xlss rfl rfl _ rfl) rfl rfl rfl ?_
  refine ods (fun c8 => ?_) (fun c8 => ?_)
  ·
    refine ops_nil ?_
    refine run_seq ?_
    refine run_cond_t rfl ?_
    refine run_skip ?_
    refine run_seq ?_
    refine run_block ?_
    refine run_seq ?_
    refine run_region ?_
    refine ov (xmove rfl) rfl rfl rfl ?_
    have h10 := (H.ext E).at (i := i) (by omega)
    refine ov (xindexN (i := i) Try.underlying32 Try.sizeOf54 rfl rfl rfl ((H.ext E).p (i := i) (by omega)) (by have := (H.ext E).len; omega)) rfl rfl rfl ?_
    refine ov (v := .agg #[.string xs[i].Code, .int .i64 xs[i].Level, .slice (hd i).p (hd i).n (hd i).c, .int .i64 xs[i].Until]) (xloadN Try.isAgg54 Try.sizeOf54 rfl (h10) rfl) rfl rfl rfl ?_
    refine oalloc Try.zeroValue54 rfl rfl ?_
    intro b1 w1 e1 hb1 hz1 O1
    have E := E.trans e1
    replace O1 : Own w1 b1 [.string ⟨#[]⟩, .int .i64 0, .slice none 0 0, .int .i64 0] 54 := O1
    refine ov (xassign rfl) rfl rfl rfl ?_
    refine ostoreN (vs := _) Try.sizeOf54 rfl rfl O1 rfl (by simp) (by simp [Value.oneCell']) rfl ?_
    intro w2 on2 O2
    have hz2 := on2.size
    have E := on2.ext E (by omega)
    replace O2 : Own w2 b1 [.string xs[i].Code, .int .i64 xs[i].Level, .slice (hd i).p (hd i).n (hd i).c, .int .i64 xs[i].Until] 54 := O2
    refine ops_nil ?_
    refine run_seq ?_
    refine run_region ?_
    refine ov (xfieldAddr fo54f0 rfl) rfl rfl rfl ?_
    refine ov (v := .string xs[i].Code) (xload1 Try.isAgg9 rfl (O2.cells) rfl) rfl rfl rfl ?_
    have hok := hx _ (List.getElem_mem (by omega : i < xs.length))
    unfold File.ok at hok
    obtain ⟨ho1, ho2, ho3, ho4⟩ := hok
    refine oc (xcall Try.call59 rfl) rfl rfl rfl (IsWord_ok (xs[i].Code) _ (by first | assumption | omega)) ?_
    rintro _ w_ ⟨rfl, hw_⟩
    replace hw_ := hw_.symm
    subst hw_
    refine obs (fun c14 => ?_) (fun c14 => ?_)
    ·
      refine ov (xnot rfl) rfl rfl rfl ?_
      refine ov (xmove rfl) rfl rfl rfl ?_
      refine ov (xfieldAddr fo54f1 rfl) rfl rfl rfl ?_
      refine ov (v := .int .i64 xs[i].Level) (xload1 Try.isAgg2 rfl (O2.cells) rfl) rfl rfl rfl ?_
      refine oc (xcall Try.call60 rfl) rfl rfl rfl (isLevel_ok (xs[i].Level) _) ?_
      rintro _ w_ ⟨rfl, hw_⟩
      replace hw_ := hw_.symm
      subst hw_
      refine obs (fun c19 => ?_) (fun c19 => ?_)
      ·
        refine ov (xnot rfl) rfl rfl rfl ?_
        refine ov (xpick_f rfl rfl) rfl rfl rfl ?_
        refine ov (xmove rfl) rfl rfl rfl ?_
        refine ov (xfieldAddr fo54f2 rfl) rfl rfl rfl ?_
        refine ov (v := .slice (hd i).p (hd i).n (hd i).c) (xload1 Try.isAgg49 rfl (O2.cells) rfl) rfl rfl rfl ?_
        refine oc (xcall Try.call61 rfl) rfl rfl rfl (areGroups_ok _ _ _ xs[i].Groups _ ((H.inner (i := i) (by omega)).ext E) (by assumption)) ?_
        rintro _ w3 ⟨rfl, e3⟩
        have z3 := e3.size
        have E := E.trans e3
        replace O2 := O2.ext e3
        refine obs (fun c25 => ?_) (fun c25 => ?_)
        ·
          refine ov (xnot rfl) rfl rfl rfl ?_
          refine ov (xpick_f rfl rfl) rfl rfl rfl ?_
          refine ov (xmove rfl) rfl rfl rfl ?_
          refine ov (xfieldAddr fo54f3 rfl) rfl rfl rfl ?_
          refine ov (v := .int .i64 xs[i].Until) (xload1 Try.isAgg2 rfl (O2.cells) rfl) rfl rfl rfl ?_
          refine oc (xcall Try.call69 rfl) rfl rfl rfl (isDay_ok (xs[i].Until) _) ?_
          rintro _ w_ ⟨rfl, hw_⟩
          replace hw_ := hw_.symm
          subst hw_
          refine obs (fun c31 => ?_) (fun c31 => ?_)
          ·
            refine ov (xnot rfl) rfl rfl rfl ?_
            refine ov (xpick_f rfl rfl) rfl rfl rfl ?_
            refine ov (xmove rfl) rfl rfl rfl ?_
            refine ov (xmove rfl) rfl rfl rfl ?_
            refine ov (xfieldAddr fo54f0 rfl) rfl rfl rfl ?_
            refine ov (v := .string xs[i].Code) (xload1 Try.isAgg9 rfl (O2.cells) rfl) rfl rfl rfl ?_
            refine oc (xcall Try.call70 rfl) rfl rfl rfl (fileOf_ok _ _ _ _ (xs[i].Code) _ (H.ext E).sn) ?_
            rintro _ w4 ⟨rfl, e4⟩
            have z4 := e4.size
            have E := E.trans e4
            replace O2 := O2.ext e4
            refine ov (xmove rfl) rfl rfl rfl ?_
            refine ov (xneq rfl rfl _ rfl) rfl rfl rfl ?_
            refine ods (fun c40 => ?_) (fun c40 => ?_)
            ·
              refine ov (xpick_f rfl rfl) rfl rfl rfl ?_
              refine ops_nil ?_
              refine run_cond_t rfl ?_
              refine run_seq ?_
              refine run_region ?_
              refine ov (xassign rfl) rfl rfl rfl ?_
              refine ops_nil ?_
              refine run_ret Try.func22 (res1 rfl rfl) ?_
              exact ⟨_, rfl, by rw [files_f (i := i) (by omega) (by simp only [fileP, Bool.and_eq_false_iff, decide_eq_false_iff_not]; exact .inr (by omega))], E⟩
            ·
              refine ov (xpick_f rfl rfl) rfl rfl rfl ?_
              refine ops_nil ?_
              refine run_cond_f rfl ?_
              refine run_skip ?_
              refine run_inBlock ?_
              refine run_region ?_
              refine ov (xadd rfl rfl (by unfold I64; omega)) rfl rfl rfl ?_
              refine ov (xmove rfl) rfl rfl rfl ?_
              refine ops_nil ?_
              refine run_sub ?_ (hback2 (i + 1, w4) (⟨E, by omega, by omega, allB_succ ha (by rw [allI_of (by omega)]; simp only [fileP, c14, c19, c25, c31, Bool.true_and, Bool.and_true, decide_eq_true_eq]; omega)⟩) (by first | omega | (dsimp only; omega)))
              exact ⟨rfl, rfl, rfl, rfl, trivial⟩
          ·
            refine ov (xnot rfl) rfl rfl rfl ?_
            refine ov (xpick_f rfl rfl) rfl rfl rfl ?_
            refine ov (xmove rfl) rfl rfl rfl ?_
            refine og rfl rfl rfl ?_
            refine og rfl rfl rfl ?_
            refine og rfl rfl rfl ?_
            refine og rfl rfl rfl ?_
            refine og rfl rfl rfl ?_
            refine og rfl rfl rfl ?_
            refine ov (xpick_t rfl rfl) rfl rfl rfl ?_
            refine ops_nil ?_
            refine run_cond_t rfl ?_
            refine run_seq ?_
            refine run_region ?_
            refine ov (xassign rfl) rfl rfl rfl ?_
            refine ops_nil ?_
            refine run_ret Try.func22 (res1 rfl rfl) ?_
            exact ⟨_, rfl, by rw [files_f (i := i) (by omega) (by simp [fileP, c31])], E⟩
        ·
          refine ov (xnot rfl) rfl rfl rfl ?_
          refine ov (xpick_f rfl rfl) rfl rfl rfl ?_
          refine ov (xmove rfl) rfl rfl rfl ?_
          refine og rfl rfl rfl ?_
          refine og rfl rfl rfl ?_
          refine og rfl rfl rfl ?_
          refine og rfl rfl rfl ?_
          refine ov (xpick_t rfl rfl) rfl rfl rfl ?_
          refine ov (xmove rfl) rfl rfl rfl ?_
          refine og rfl rfl rfl ?_
          refine og rfl rfl rfl ?_
          refine og rfl rfl rfl ?_
          refine og rfl rfl rfl ?_
          refine og rfl rfl rfl ?_
          refine og rfl rfl rfl ?_
          refine ov (xpick_t rfl rfl) rfl rfl rfl ?_
          refine ops_nil ?_
          refine run_cond_t rfl ?_
          refine run_seq ?_
          refine run_region ?_
          refine ov (xassign rfl) rfl rfl rfl ?_
          refine ops_nil ?_
          refine run_ret Try.func22 (res1 rfl rfl) ?_
          exact ⟨_, rfl, by rw [files_f (i := i) (by omega) (by simp [fileP, c25])], E⟩
      ·
        refine ov (xnot rfl) rfl rfl rfl ?_
        refine ov (xpick_f rfl rfl) rfl rfl rfl ?_
        refine ov (xmove rfl) rfl rfl rfl ?_
        refine og rfl rfl rfl ?_
        refine og rfl rfl rfl ?_
        refine og rfl rfl rfl ?_
        refine og rfl rfl rfl ?_
        refine ov (xpick_t rfl rfl) rfl rfl rfl ?_
        refine ov (xmove rfl) rfl rfl rfl ?_
        refine og rfl rfl rfl ?_
        refine og rfl rfl rfl ?_
        refine og rfl rfl rfl ?_
        refine og rfl rfl rfl ?_
        refine ov (xpick_t rfl rfl) rfl rfl rfl ?_
        refine ov (xmove rfl) rfl rfl rfl ?_
        refine og rfl rfl rfl ?_
        refine og rfl rfl rfl ?_
        refine og rfl rfl rfl ?_
        refine og rfl rfl rfl ?_
        refine og rfl rfl rfl ?_
        refine og rfl rfl rfl ?_
        refine ov (xpick_t rfl rfl) rfl rfl rfl ?_
        refine ops_nil ?_
        refine run_cond_t rfl ?_
        refine run_seq ?_
        refine run_region ?_
        refine ov (xassign rfl) rfl rfl rfl ?_
        refine ops_nil ?_
        refine run_ret Try.func22 (res1 rfl rfl) ?_
        exact ⟨_, rfl, by rw [files_f (i := i) (by omega) (by simp [fileP, c19])], E⟩
    ·
      refine ov (xnot rfl) rfl rfl rfl ?_
      refine ov (xmove rfl) rfl rfl rfl ?_
      refine og rfl rfl rfl ?_
      refine og rfl rfl rfl ?_
      refine og rfl rfl rfl ?_
      refine og rfl rfl rfl ?_
      refine ov (xpick_t rfl rfl) rfl rfl rfl ?_
      refine ov (xmove rfl) rfl rfl rfl ?_
      refine og rfl rfl rfl ?_
      refine og rfl rfl rfl ?_
      refine og rfl rfl rfl ?_
      refine og rfl rfl rfl ?_
      refine ov (xpick_t rfl rfl) rfl rfl rfl ?_
      refine ov (xmove rfl) rfl rfl rfl ?_
      refine og rfl rfl rfl ?_
      refine og rfl rfl rfl ?_
      refine og rfl rfl rfl ?_
      refine og rfl rfl rfl ?_
      refine ov (xpick_t rfl rfl) rfl rfl rfl ?_
      refine ov (xmove rfl) rfl rfl rfl ?_
      refine og rfl rfl rfl ?_
      refine og rfl rfl rfl ?_
      refine og rfl rfl rfl ?_
      refine og rfl rfl rfl ?_
      refine og rfl rfl rfl ?_
      refine og rfl rfl rfl ?_
      refine ov (xpick_t rfl rfl) rfl rfl rfl ?_
      refine ops_nil ?_
      refine run_cond_t rfl ?_
      refine run_seq ?_
      refine run_region ?_
      refine ov (xassign rfl) rfl rfl rfl ?_
      refine ops_nil ?_
      refine run_ret Try.func22 (res1 rfl rfl) ?_
      exact ⟨_, rfl, by rw [files_f (i := i) (by omega) (by simp [fileP, c14])], E⟩
  ·
    refine ops_nil ?_
    refine run_seq ?_
    refine run_cond_f rfl ?_
    refine run_exit rfl ?_
    refine run_seq ?_
    refine run_region ?_
    refine ov (xmove rfl) rfl rfl rfl ?_
    refine ov (xlen Try.underlying32 rfl) rfl rfl rfl ?_
    refine oc (xcall Try.call63 rfl) rfl rfl rfl (few_ok ((n : Int)) (12) _) ?_
    rintro _ w_ ⟨rfl, hw_⟩
    replace hw_ := hw_.symm
    subst hw_
    refine ov (xassign rfl) rfl rfl rfl ?_
    refine ops_nil ?_
    refine run_ret Try.func22 (res1 rfl rfl) ?_
    obtain rfl : i = n := by omega
    exact ⟨_, rfl, by rw [areFiles, ← hn, ha, Bool.true_and]; exact congrArg Value.bool (decide_eq_decide.2 (by omega)), E⟩

set_option maxHeartbeats 1000000 in
theorem sAreFiles_ok (p : Option Addr) (n c : Nat) (xs : List File) (w : World) (H0 : SnFileS w p n c xs) (hx : ∀ x ∈ xs, x.ok) : Ret Try.prog 20 [.slice p n c] w (Pv w (.bool (areFiles xs))) := by
  refine ret_of_run (N := 48) Try.func20 rfl rfl rfl ?_
  obtain ⟨hd, H⟩ := H0
  have hn := H.len
  have hn6 := H.n64
  have E : Ext w w := Ext.refl w
  refine run_seq ?_
  refine run_region ?_
  refine ov (xassign rfl) rfl rfl rfl ?_
  refine ops_nil ?_
  refine run_seq ?_
  refine run_seq ?_
  refine run_region ?_
  refine ov (xassign rfl) rfl rfl rfl ?_
  refine ops_nil ?_
  refine run_block ?_
  refine run_loop (ι := Nat × World) (fun x_ => match x_ with | (i, wr) => (Ext w wr) ∧ (w.heap.size ≤ wr.heap.size) ∧ (i ≤ n) ∧ (allB i (allI (fileP xs) xs) = true)) (fun x_ => match x_ with | (i, wr) => [(0, .slice p n c), (3, .int .i64 (i : Int))]) (fun x_ => match x_ with | (i, wr) => wr) (fun x_ => match x_ with | (i, wr) => n - i) ?_ (0, w) (⟨E, Nat.le_refl _, by omega, allB_zero⟩) ⟨rfl, rfl, trivial⟩ rfl
  intro i_ hI_ hback2
  obtain ⟨i, wr⟩ := i_
  obtain ⟨E, lz_wr, hi, ha⟩ := hI_
  try dsimp only
  have zr := E.size
  refine run_seq ?_
  refine run_seq ?_
  refine run_region ?_
  refine ov (xmove rfl) rfl rfl rfl ?_
  refine ov (xmove rfl) rfl rfl rfl ?_
  refine ov (xlen Try.underlying32 rfl) rfl rfl rfl ?_
  refine ov (xlss rfl rfl _ rfl) rfl rfl rfl ?_
  refine ods (fun c8 => ?_) (fun c8 => ?_)
  ·
    refine ops_nil ?_
    refine run_cond_t rfl ?_
    refine run_skip ?_
    refine run_seq ?_
    refine run_block ?_
    refine run_seq ?_
    refine run_region ?_
    refine ov (xmove rfl) rfl rfl rfl ?_
    refine ov (xmove rfl) rfl rfl rfl ?_
    have h13 := (H.ext E).at (i := i) (by omega)
    refine ov (xindexN (i := i) Try.underlying32 Try.sizeOf54 rfl rfl rfl ((H.ext E).p (i := i) (by omega)) (by have := (H.ext E).len; omega)) rfl rfl rfl ?_
    refine ov (v := .agg #[.string xs[i].Code, .int .i64 xs[i].Level, .slice (hd i).p (hd i).n (hd i).c, .int .i64 xs[i].Until]) (xloadN Try.isAgg54 Try.sizeOf54 rfl (h13) rfl) rfl rfl rfl ?_
    refine oalloc Try.zeroValue54 rfl rfl ?_
    intro b1 w1 e1 hb1 hz1 O1
    have E := E.trans e1
    replace O1 : Own w1 b1 [.string ⟨#[]⟩, .int .i64 0, .slice none 0 0, .int .i64 0] 54 := O1
    refine ostoreN (vs := _) Try.sizeOf54 rfl rfl O1 rfl (by simp) (by simp [Value.oneCell']) rfl ?_
    intro w2 on2 O2
    have hz2 := on2.size
    have E := on2.ext E (by omega)
    replace O2 : Own w2 b1 [.string xs[i].Code, .int .i64 xs[i].Level, .slice (hd i).p (hd i).n (hd i).c, .int .i64 xs[i].Until] 54 := O2
    refine ops_nil ?_
    refine run_seq ?_
    refine run_region ?_
    refine ov (xfieldAddr fo54f0 rfl) rfl rfl rfl ?_
    refine ov (v := .string xs[i].Code) (xload1 Try.isAgg9 rfl (O2.cells) rfl) rfl rfl rfl ?_
    have hok := hx _ (List.getElem_mem (by omega : i < xs.length))
    unfold File.ok at hok
    obtain ⟨ho1, ho2, ho3, ho4⟩ := hok
    refine oc (xcall Try.call54 rfl) rfl rfl rfl (sIsWord_ok (xs[i].Code) _ (by first | assumption | omega)) ?_
    rintro _ w_ ⟨rfl, hw_⟩
    replace hw_ := hw_.symm
    subst hw_
    refine obs (fun c17 => ?_) (fun c17 => ?_)
    ·
      refine ov (xnot rfl) rfl rfl rfl ?_
      refine ov (xmove rfl) rfl rfl rfl ?_
      refine ov (xfieldAddr fo54f1 rfl) rfl rfl rfl ?_
      refine ov (v := .int .i64 xs[i].Level) (xload1 Try.isAgg2 rfl (O2.cells) rfl) rfl rfl rfl ?_
      refine oc (xcall Try.call55 rfl) rfl rfl rfl (l01In_ok (xs[i].Level) (0) (9) _) ?_
      rintro _ w_ ⟨rfl, hw_⟩
      replace hw_ := hw_.symm
      subst hw_
      refine obs (fun c22 => ?_) (fun c22 => ?_)
      ·
        refine ov (xnot rfl) rfl rfl rfl ?_
        refine ov (xpick_f rfl rfl) rfl rfl rfl ?_
        refine ov (xmove rfl) rfl rfl rfl ?_
        refine ov (xfieldAddr fo54f2 rfl) rfl rfl rfl ?_
        refine ov (v := .slice (hd i).p (hd i).n (hd i).c) (xload1 Try.isAgg49 rfl (O2.cells) rfl) rfl rfl rfl ?_
        refine oc (xcall Try.call56 rfl) rfl rfl rfl (l24Groups_ok _ _ _ xs[i].Groups _ ((H.inner (i := i) (by omega)).ext E) (by assumption)) ?_
        rintro _ w3 ⟨rfl, e3⟩
        have z3 := e3.size
        have E := E.trans e3
        replace O2 := O2.ext e3
        refine obs (fun c28 => ?_) (fun c28 => ?_)
        ·
          refine ov (xnot rfl) rfl rfl rfl ?_
          refine ov (xpick_f rfl rfl) rfl rfl rfl ?_
          refine ov (xmove rfl) rfl rfl rfl ?_
          refine ov (xfieldAddr fo54f3 rfl) rfl rfl rfl ?_
          refine ov (v := .int .i64 xs[i].Until) (xload1 Try.isAgg2 rfl (O2.cells) rfl) rfl rfl rfl ?_
          refine oc (xcall Try.call66 rfl) rfl rfl rfl (l02Is_ok (xs[i].Until) _) ?_
          rintro _ w_ ⟨rfl, hw_⟩
          replace hw_ := hw_.symm
          subst hw_
          refine obs (fun c34 => ?_) (fun c34 => ?_)
          ·
            refine ov (xnot rfl) rfl rfl rfl ?_
            refine ov (xpick_f rfl rfl) rfl rfl rfl ?_
            refine ov (xmove rfl) rfl rfl rfl ?_
            refine ov (xmove rfl) rfl rfl rfl ?_
            refine ov (xfieldAddr fo54f0 rfl) rfl rfl rfl ?_
            refine ov (v := .string xs[i].Code) (xload1 Try.isAgg9 rfl (O2.cells) rfl) rfl rfl rfl ?_
            refine oc (xcall Try.call67 rfl) rfl rfl rfl (l24File_ok _ _ _ _ (xs[i].Code) _ (H.ext E).sn) ?_
            rintro _ w4 ⟨rfl, e4⟩
            have z4 := e4.size
            have E := E.trans e4
            replace O2 := O2.ext e4
            refine ov (xmove rfl) rfl rfl rfl ?_
            refine ov (xneq rfl rfl _ rfl) rfl rfl rfl ?_
            refine ods (fun c43 => ?_) (fun c43 => ?_)
            ·
              refine ov (xpick_f rfl rfl) rfl rfl rfl ?_
              refine ops_nil ?_
              refine run_cond_t rfl ?_
              refine run_seq ?_
              refine run_region ?_
              refine ov (xassign rfl) rfl rfl rfl ?_
              refine ops_nil ?_
              refine run_ret Try.func20 (res1 rfl rfl) ?_
              exact ⟨_, rfl, by rw [files_f (i := i) (by omega) (by simp only [fileP, Bool.and_eq_false_iff, decide_eq_false_iff_not]; exact .inr (by omega))], E⟩
            ·
              refine ov (xpick_f rfl rfl) rfl rfl rfl ?_
              refine ops_nil ?_
              refine run_cond_f rfl ?_
              refine run_skip ?_
              refine run_inBlock ?_
              refine run_region ?_
              refine ov (xmove rfl) rfl rfl rfl ?_
              refine ov (xadd rfl rfl (by unfold I64; omega)) rfl rfl rfl ?_
              refine ov (xassign rfl) rfl rfl rfl ?_
              refine ops_nil ?_
              refine run_sub ?_ (hback2 (i + 1, w4) (⟨E, by omega, by omega, allB_succ ha (by rw [allI_of (by omega)]; simp only [fileP, c17, c22, c28, c34, Bool.true_and, Bool.and_true, decide_eq_true_eq]; omega)⟩) (by first | omega | (dsimp only; omega)))
              exact ⟨rfl, rfl, trivial⟩
          ·
            refine ov (xnot rfl) rfl rfl rfl ?_
            refine ov (xpick_f rfl rfl) rfl rfl rfl ?_
            refine ov (xmove rfl) rfl rfl rfl ?_
            refine og rfl rfl rfl ?_
            refine og rfl rfl rfl ?_
            refine og rfl rfl rfl ?_
            refine og rfl rfl rfl ?_
            refine og rfl rfl rfl ?_
            refine og rfl rfl rfl ?_
            refine ov (xpick_t rfl rfl) rfl rfl rfl ?_
            refine ops_nil ?_
            refine run_cond_t rfl ?_
            refine run_seq ?_
            refine run_region ?_
            refine ov (xassign rfl) rfl rfl rfl ?_
            refine ops_nil ?_
            refine run_ret Try.func20 (res1 rfl rfl) ?_
            exact ⟨_, rfl, by rw [files_f (i := i) (by omega) (by simp [fileP, c34])], E⟩
        ·
          refine ov (xnot rfl) rfl rfl rfl ?_
          refine ov (xpick_f rfl rfl) rfl rfl rfl ?_
          refine ov (xmove rfl) rfl rfl rfl ?_
          refine og rfl rfl rfl ?_
          refine og rfl rfl rfl ?_
          refine og rfl rfl rfl ?_
          refine og rfl rfl rfl ?_
          refine ov (xpick_t rfl rfl) rfl rfl rfl ?_
          refine ov (xmove rfl) rfl rfl rfl ?_
          refine og rfl rfl rfl ?_
          refine og rfl rfl rfl ?_
          refine og rfl rfl rfl ?_
          refine og rfl rfl rfl ?_
          refine og rfl rfl rfl ?_
          refine og rfl rfl rfl ?_
          refine ov (xpick_t rfl rfl) rfl rfl rfl ?_
          refine ops_nil ?_
          refine run_cond_t rfl ?_
          refine run_seq ?_
          refine run_region ?_
          refine ov (xassign rfl) rfl rfl rfl ?_
          refine ops_nil ?_
          refine run_ret Try.func20 (res1 rfl rfl) ?_
          exact ⟨_, rfl, by rw [files_f (i := i) (by omega) (by simp [fileP, c28])], E⟩
      ·
        refine ov (xnot rfl) rfl rfl rfl ?_
        refine ov (xpick_f rfl rfl) rfl rfl rfl ?_
        refine ov (xmove rfl) rfl rfl rfl ?_
        refine og rfl rfl rfl ?_
        refine og rfl rfl rfl ?_
        refine og rfl rfl rfl ?_
        refine og rfl rfl rfl ?_
        refine ov (xpick_t rfl rfl) rfl rfl rfl ?_
        refine ov (xmove rfl) rfl rfl rfl ?_
        refine og rfl rfl rfl ?_
        refine og rfl rfl rfl ?_
        refine og rfl rfl rfl ?_
        refine og rfl rfl rfl ?_
        refine ov (xpick_t rfl rfl) rfl rfl rfl ?_
        refine ov (xmove rfl) rfl rfl rfl ?_
        refine og rfl rfl rfl ?_
        refine og rfl rfl rfl ?_
        refine og rfl rfl rfl ?_
        refine og rfl rfl rfl ?_
        refine og rfl rfl rfl ?_
        refine og rfl rfl rfl ?_
        refine ov (xpick_t rfl rfl) rfl rfl rfl ?_
        refine ops_nil ?_
        refine run_cond_t rfl ?_
        refine run_seq ?_
        refine run_region ?_
        refine ov (xassign rfl) rfl rfl rfl ?_
        refine ops_nil ?_
        refine run_ret Try.func20 (res1 rfl rfl) ?_
        exact ⟨_, rfl, by rw [files_f (i := i) (by omega) (by simp [fileP, c22])], E⟩
    ·
      refine ov (xnot rfl) rfl rfl rfl ?_
      refine ov (xmove rfl) rfl rfl rfl ?_
      refine og rfl rfl rfl ?_
      refine og rfl rfl rfl ?_
      refine og rfl rfl rfl ?_
      refine og rfl rfl rfl ?_
      refine ov (xpick_t rfl rfl) rfl rfl rfl ?_
      refine ov (xmove rfl) rfl rfl rfl ?_
      refine og rfl rfl rfl ?_
      refine og rfl rfl rfl ?_
      refine og rfl rfl rfl ?_
      refine og rfl rfl rfl ?_
      refine ov (xpick_t rfl rfl) rfl rfl rfl ?_
      refine ov (xmove rfl) rfl rfl rfl ?_
      refine og rfl rfl rfl ?_
      refine og rfl rfl rfl ?_
      refine og rfl rfl rfl ?_
      refine og rfl rfl rfl ?_
      refine ov (xpick_t rfl rfl) rfl rfl rfl ?_
      refine ov (xmove rfl) rfl rfl rfl ?_
      refine og rfl rfl rfl ?_
      refine og rfl rfl rfl ?_
      refine og rfl rfl rfl ?_
      refine og rfl rfl rfl ?_
      refine og rfl rfl rfl ?_
      refine og rfl rfl rfl ?_
      refine ov (xpick_t rfl rfl) rfl rfl rfl ?_
      refine ops_nil ?_
      refine run_cond_t rfl ?_
      refine run_seq ?_
      refine run_region ?_
      refine ov (xassign rfl) rfl rfl rfl ?_
      refine ops_nil ?_
      refine run_ret Try.func20 (res1 rfl rfl) ?_
      exact ⟨_, rfl, by rw [files_f (i := i) (by omega) (by simp [fileP, c17])], E⟩
  ·
    refine ops_nil ?_
    refine run_cond_f rfl ?_
    refine run_exit rfl ?_
    refine run_seq ?_
    refine run_region ?_
    refine ov (xmove rfl) rfl rfl rfl ?_
    refine ov (xlen Try.underlying32 rfl) rfl rfl rfl ?_
    refine ov (xleq rfl rfl _ rfl) rfl rfl rfl ?_
    refine ov (xassign rfl) rfl rfl rfl ?_
    refine ops_nil ?_
    refine run_ret Try.func20 (res1 rfl rfl) ?_
    obtain rfl : i = n := by omega
    exact ⟨_, rfl, by rw [areFiles, ← hn, ha, Bool.true_and]; exact congrArg Value.bool (decide_eq_decide.2 (by omega)), E⟩
end Go.Proofs.Ytbihpggbabmebaa
