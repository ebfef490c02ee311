/-
  Ways through a form. No condition beyond those written in each theorem.
-/
import Derived.Test.YtchblgaklknkcaaGreatForm
namespace Go.Proofs.YtchblgaklknkcaaGreat
open Go.RowKit
set_option linter.unusedVariables false
set_option linter.unusedSimpArgs false
set_option linter.unusedSectionVars false
set_option maxRecDepth 4000
def follows (q : Question) (a : Int) : Int := if a = 1 then q.Yes else q.No
def areAns (xs : List Question) (az : List Int) : Bool := allB az.length (allI (fun _ a => inR (-1) 1 a) az) && decide (az.length = xs.length)
def formCode (xs : List Question) (az : List Int) : Int := if isForm xs = false then 1 else if areAns xs az = false then 2 else 0
def wayG (xs : List Question) (az : List Int) : Nat → Nat → List Int × Int
  | 0, _ => ([], 0)
  | f + 1, i => match az[i]?, xs[i]? with
    | some a, some q => if a < 0 then ([(i : Int)], 0) else if follows q a < 0 then ([(i : Int)], follows q a) else ((i : Int) :: (wayG xs az f (follows q a).toNat).1, (wayG xs az f (follows q a).toNat).2)
    | _, _ => ([], 0)
def wayF (xs : List Question) (az : List Int) : List Int × Int := wayG xs az xs.length 0
theorem wayG_none {xs : List Question} {az : List Int} {f i : Nat} (h1 : i < az.length) (h2 : i < xs.length) (h : az[i] < 0) : wayG xs az (f + 1) i = ([(i : Int)], 0) := by
 simp [wayG, h1, h2, h]
theorem wayG_end {xs : List Question} {az : List Int} {f i : Nat} (h1 : i < az.length) (h2 : i < xs.length) (h : ¬ az[i] < 0) (h3 : follows xs[i] az[i] < 0) : wayG xs az (f + 1) i = ([(i : Int)], follows xs[i] az[i]) := by
 simp [wayG, h1, h2, h, h3]
theorem wayG_on {xs : List Question} {az : List Int} {f i : Nat} (h1 : i < az.length) (h2 : i < xs.length) (h : ¬ az[i] < 0) (h3 : ¬ follows xs[i] az[i] < 0) :
    wayG xs az (f + 1) i = ((i : Int) :: (wayG xs az f (follows xs[i] az[i]).toNat).1, (wayG xs az f (follows xs[i] az[i]).toNat).2) := by
  simp [wayG, h1, h2, h, h3]
theorem isForm_len {xs : List Question} (h : isForm xs = true) : 1 ≤ xs.length ∧ xs.length ≤ 10 := by
 simp only [isForm, Bool.and_eq_true] at h; have := inR_iff.1 h.2; omega
theorem isForm_next {xs : List Question} (h : isForm xs = true) {i : Nat} (hi : i < xs.length) (a : Int) : (follows xs[i] a < 0 ∧ -6 ≤ follows xs[i] a) ∨ ((i : Int) + 1 ≤ follows xs[i] a ∧ follows xs[i] a ≤ (xs.length : Int) - 1) := by
 simp only [isForm, Bool.and_eq_true] at h
 have h1 := allB_iff.1 h.1 i hi
 rw [allI_of hi] at h1
 simp only [formP, Bool.and_eq_true, nextOk, Bool.or_eq_true] at h1
 have hy := h1.2.1; have hn := h1.2.2
 unfold follows
 split
 · rcases hy with hy | hy <;> have := inR_iff.1 hy <;> omega
 · rcases hn with hy | hy <;> have := inR_iff.1 hy <;> omega
theorem areAns_len {xs : List Question} {az : List Int} (h : areAns xs az = true) : az.length = xs.length := by
 simp only [areAns, Bool.and_eq_true, decide_eq_true_eq] at h; exact h.2
theorem areAns_at {xs : List Question} {az : List Int} (h : areAns xs az = true) {i : Nat} (hi : i < az.length) : -1 ≤ az[i] ∧ az[i] ≤ 1 := by
 simp only [areAns, Bool.and_eq_true] at h
 have h1 := allB_iff.1 h.1 i hi
 rw [allI_of hi] at h1
 exact inR_iff.1 h1
set_option maxHeartbeats 400000 in
theorem follows_ok (q : Question) (a : Int) (w : World) : Ret Tryz.prog 72 [.agg #[.string q.Label, .int .i64 q.Yes, .int .i64 q.No], .int .i64 a] w (Pv w (.int .i64 (follows q a))) := by
 refine ret_of_run (N := 11) Tryz.func72 rfl rfl rfl ?_
 have E : Ext w w := Ext.refl w
 refine sr_ ?_
 refine obox rfl rfl rfl ?_
 intro b1 w1 e1 hb1 hz1 O1
 have E := E.trans e1
 replace O1 : Own w1 b1 [.string q.Label, .int .i64 q.Yes, .int .i64 q.No] 99 := O1
 refine vn_ rfl rfl rfl ?_
 refine run_seq ?_
 refine sr_ ?_
 refine vm_ rfl rfl rfl ?_
 refine oz_ (xeql rfl rfl _ rfl) rfl rfl ?_
 refine ods (fun c6 => ?_) (fun c6 => ?_)
 ·
  refine ct_ rfl ?_
  refine sr_ ?_
  refine oz_ (xfieldAddr fo99f1 rfl) rfl rfl ?_
  refine oz_ (v := .int .i64 q.Yes) (xload1 Tryz.isAgg2 rfl (O1.cells) rfl) rfl rfl ?_
  refine vn_ rfl rfl rfl ?_
  refine run_ret Tryz.func72 (res1 rfl rfl) ?_
  exact ⟨_, rfl, by rw [follows, if_pos c6], E⟩
 refine cf_ rfl ?_
 refine sr_ ?_
 refine oz_ (xfieldAddr fo99f2 rfl) rfl rfl ?_
 refine oz_ (v := .int .i64 q.No) (xload1 Tryz.isAgg2 rfl (O1.cells) rfl) rfl rfl ?_
 refine vn_ rfl rfl rfl ?_
 refine run_ret Tryz.func72 (res1 rfl rfl) ?_
 exact ⟨_, rfl, by rw [follows, if_neg c6], E⟩
set_option maxHeartbeats 400000 in
theorem l26Follow_ok (q : Question) (a : Int) (w : World) : Ret Tryz.prog 70 [.agg #[.string q.Label, .int .i64 q.Yes, .int .i64 q.No], .int .i64 a] w (Pv w (.int .i64 (follows q a))) := by
 refine ret_of_run (N := 11) Tryz.func70 rfl rfl rfl ?_
 have E : Ext w w := Ext.refl w
 refine sr_ ?_
 refine obox rfl rfl rfl ?_
 intro b1 w1 e1 hb1 hz1 O1
 have E := E.trans e1
 replace O1 : Own w1 b1 [.string q.Label, .int .i64 q.Yes, .int .i64 q.No] 99 := O1
 refine vn_ rfl rfl rfl ?_
 refine run_seq ?_
 refine sr_ ?_
 refine vm_ rfl rfl rfl ?_
 refine oz_ (xeql rfl rfl _ rfl) rfl rfl ?_
 refine ods (fun c6 => ?_) (fun c6 => ?_)
 ·
  refine ct_ rfl ?_
  refine sr_ ?_
  refine oz_ (xfieldAddr fo99f1 rfl) rfl rfl ?_
  refine oz_ (v := .int .i64 q.Yes) (xload1 Tryz.isAgg2 rfl (O1.cells) rfl) rfl rfl ?_
  refine vn_ rfl rfl rfl ?_
  refine run_ret Tryz.func70 (res1 rfl rfl) ?_
  exact ⟨_, rfl, by rw [follows, if_pos c6], E⟩
 refine cf_ rfl ?_
 refine sr_ ?_
 refine oz_ (xfieldAddr fo99f2 rfl) rfl rfl ?_
 refine oz_ (v := .int .i64 q.No) (xload1 Tryz.isAgg2 rfl (O1.cells) rfl) rfl rfl ?_
 refine vn_ rfl rfl rfl ?_
 refine run_ret Tryz.func70 (res1 rfl rfl) ?_
 exact ⟨_, rfl, by rw [follows, if_neg c6], E⟩
set_option maxHeartbeats 400000 in
theorem areAnswers_ok (p : Option Addr) (n c : Nat) (xs : List Question) (p2 : Option Addr) (n2 c2 : Nat) (az : List Int) (w : World) (H : Sl Question.cells 3 w p n c xs) (hx : ∀ x ∈ xs, x.Label.size ≤ 9223372036854775807) (K : Sl i64c 1 w p2 n2 c2 az) : Ret Tryz.prog 64 [.slice p n c, .slice p2 n2 c2] w (Pv w (.bool (areAns xs az))) := by
 refine ret_of_run (N := 22) Tryz.func64 rfl rfl rfl ?_
 have hn := H.len
 have hn6 := H.n64
 have hn2 := K.len
 have hk6 := K.n64
 have E : Ext w w := Ext.refl w
 refine sr_ ?_
 refine vn_ rfl rfl rfl ?_
 refine run_seq ?_
 refine sr_ ?_
 refine vm_ rfl rfl rfl ?_
 refine oz_ (xlen Tryz.underlying24 rfl) rfl rfl ?_
 refine vm_ rfl rfl rfl ?_
 refine ops_nil ?_
 refine run_block ?_
 refine run_loop (ι := Nat × World) (fun x_ => match x_ with | (k, wr) => (Ext w wr) ∧ (w.heap.size ≤ wr.heap.size) ∧ (k ≤ n2) ∧ (allB k (allI (fun _ a => inR (-1) 1 a) az) = true)) (fun x_ => match x_ with | (k, wr) => [(0, .slice p n c), (1, .slice p2 n2 c2), (7, .slice p2 n2 c2), (8, .int .i64 (n2 : Int)), (9, .int .i64 (k : Int))]) (fun x_ => match x_ with | (k, wr) => wr) (fun x_ => match x_ with | (k, wr) => n2 - k) ?_ (0, w) (⟨E, Nat.le_refl _, by omega, allB_zero⟩) ⟨rfl, rfl, rfl, rfl, rfl, trivial⟩ rfl
 intro i_ hI_ hback2
 obtain ⟨k, wr⟩ := i_
 obtain ⟨E, lz_wr, hk, ha⟩ := hI_
 try dsimp only
 have zr := E.size
 refine sr_ ?_
 refine oz_ (xlss rfl rfl _ rfl) rfl rfl ?_
 refine ods (fun c10 => ?_) (fun c10 => ?_)
 rotate_left
 ·
  refine ops_nil ?_
  refine run_seq ?_
  refine run_cond_f rfl ?_
  refine run_exit rfl ?_
  refine sr_ ?_
  refine vm_ rfl rfl rfl ?_
  refine oz_ (xlen Tryz.underlying24 rfl) rfl rfl ?_
  refine vm_ rfl rfl rfl ?_
  refine oz_ (xlen Tryz.underlying35 rfl) rfl rfl ?_
  refine oz_ (xeql rfl rfl _ rfl) rfl rfl ?_
  refine vn_ rfl rfl rfl ?_
  refine run_ret Tryz.func64 (res1 rfl rfl) ?_
  obtain rfl : k = n2 := by omega
  exact ⟨_, rfl, by rw [areAns, ← hn2, ha, Bool.true_and]; exact congrArg Value.bool (decide_eq_decide.2 (by omega)), E⟩
 refine ops_nil ?_
 refine run_seq ?_
 refine run_cond_t rfl ?_
 refine run_skip ?_
 refine run_seq ?_
 refine run_block ?_
 refine sr_ ?_
 have h11 := (K.ext E).at (i := k) (by omega)
 refine oz_ (xindexN (i := k) Tryz.underlying24 Tryz.sizeOf2 rfl rfl rfl ((K.ext E).p (i := k) (by omega)) (by have := (K.ext E).len; omega)) rfl rfl ?_
 refine oz_ (v := .int .i64 az[k]) (xloadz Tryz.isAgg2 rfl (h11) rfl) rfl rfl ?_
 refine vn_ rfl rfl rfl ?_
 refine sr_ ?_
 refine vm_ rfl rfl rfl ?_
 refine oc (xcall Tryz.call65 rfl) rfl rfl rfl (within_ok (az[k]) ((-1)) (1) _) ?_
 rintro _ w_ ⟨rfl, hw_⟩
 replace hw_ := hw_.symm
 subst hw_
 refine obs (fun c14 => ?_) (fun c14 => ?_)
 ·
  refine oz_ (xnot rfl) rfl rfl ?_
  refine cf_ rfl ?_
  refine run_inBlock ?_
  refine run_region ?_
  refine oz_ (xadd rfl rfl (by unfold I64; omega)) rfl rfl ?_
  refine vm_ rfl rfl rfl ?_
  refine ops_nil ?_
  refine run_sub ?_ (hback2 (k + 1, wr) (⟨E, by omega, by omega, allB_succ ha (by rw [allI_of (by omega)]; assumption)⟩) (by first | omega | (dsimp only; omega)))
  exact ⟨rfl, rfl, rfl, rfl, rfl, trivial⟩
 refine oz_ (xnot rfl) rfl rfl ?_
 refine ct_ rfl ?_
 refine sr_ ?_
 refine vn_ rfl rfl rfl ?_
 refine run_ret Tryz.func64 (res1 rfl rfl) ?_
 exact ⟨_, rfl, by rw [areAns, allB_false (i := k) (by omega) (by rw [allI_of (by omega)]; assumption)]; rfl, E⟩
set_option maxHeartbeats 400000 in
theorem formCode_ok (p : Option Addr) (n c : Nat) (xs : List Question) (p2 : Option Addr) (n2 c2 : Nat) (az : List Int) (w : World) (H : Sl Question.cells 3 w p n c xs) (hx : ∀ x ∈ xs, x.Label.size ≤ 9223372036854775807) (K : Sl i64c 1 w p2 n2 c2 az) : Ret Tryz.prog 32 [.slice p n c, .slice p2 n2 c2] w (Pv w (.int .i64 (formCode xs az))) := by
 refine ret_of_run (N := 12) Tryz.func32 rfl rfl rfl ?_
 have E : Ext w w := Ext.refl w
 refine sr_ ?_
 refine vn_ rfl rfl rfl ?_
 refine run_seq ?_
 refine sr_ ?_
 refine vm_ rfl rfl rfl ?_
 refine oc (xcall Tryz.call34 rfl) rfl rfl rfl (IsForm_ok _ _ _ _ _ (H.ext E) (by assumption)) ?_
 rintro _ w1 ⟨rfl, e1⟩
 have z1 := e1.size
 have E := E.trans e1
 refine obs (fun c6 => ?_) (fun c6 => ?_)
 rotate_left
 ·
  refine oz_ (xnot rfl) rfl rfl ?_
  refine ct_ rfl ?_
  refine sr_ ?_
  refine vn_ rfl rfl rfl ?_
  refine run_ret Tryz.func32 (res1 rfl rfl) ?_
  exact ⟨_, rfl, by simp [formCode, c6], E⟩
 refine oz_ (xnot rfl) rfl rfl ?_
 refine cf_ rfl ?_
 refine run_seq ?_
 refine sr_ ?_
 refine vm_ rfl rfl rfl ?_
 refine vm_ rfl rfl rfl ?_
 refine oc (xcall Tryz.call64 rfl) rfl rfl rfl (areAnswers_ok _ _ _ _ _ _ _ _ _ (H.ext E) (by assumption) (K.ext E)) ?_
 rintro _ w2 ⟨rfl, e2⟩
 have z2 := e2.size
 have E := E.trans e2
 refine obs (fun c10 => ?_) (fun c10 => ?_)
 ·
  refine oz_ (xnot rfl) rfl rfl ?_
  refine cf_ rfl ?_
  refine sr_ ?_
  refine vn_ rfl rfl rfl ?_
  refine run_ret Tryz.func32 (res1 rfl rfl) ?_
  exact ⟨_, rfl, by simp [formCode, c6, c10], E⟩
 refine oz_ (xnot rfl) rfl rfl ?_
 refine ct_ rfl ?_
 refine sr_ ?_
 refine vn_ rfl rfl rfl ?_
 refine run_ret Tryz.func32 (res1 rfl rfl) ?_
 exact ⟨_, rfl, by simp [formCode, c6, c10], E⟩
set_option maxHeartbeats 400000 in
theorem l26Code_ok (p : Option Addr) (n c : Nat) (xs : List Question) (p2 : Option Addr) (n2 c2 : Nat) (az : List Int) (w : World) (H : Sl Question.cells 3 w p n c xs) (hx : ∀ x ∈ xs, x.Label.size ≤ 9223372036854775807) (K : Sl i64c 1 w p2 n2 c2 az) : Ret Tryz.prog 69 [.slice p n c, .slice p2 n2 c2] w (Pv w (.int .i64 (formCode xs az))) := by
 refine ret_of_run (N := 26) Tryz.func69 rfl rfl rfl ?_
 have hn := H.len
 have hn6 := H.n64
 have hn2 := K.len
 have hk6 := K.n64
 have E : Ext w w := Ext.refl w
 refine sr_ ?_
 refine vn_ rfl rfl rfl ?_
 refine run_seq ?_
 refine sr_ ?_
 refine vm_ rfl rfl rfl ?_
 refine oc (xcall Tryz.call67 rfl) rfl rfl rfl (sIsForm_ok _ _ _ _ _ (H.ext E) (by assumption)) ?_
 rintro _ w1 ⟨rfl, e1⟩
 have z1 := e1.size
 have E := E.trans e1
 refine obs (fun c7 => ?_) (fun c7 => ?_)
 rotate_left
 ·
  refine oz_ (xnot rfl) rfl rfl ?_
  refine ct_ rfl ?_
  refine sr_ ?_
  refine vn_ rfl rfl rfl ?_
  refine run_ret Tryz.func69 (res1 rfl rfl) ?_
  exact ⟨_, rfl, by simp [formCode, c7], E⟩
 refine oz_ (xnot rfl) rfl rfl ?_
 refine cf_ rfl ?_
 refine run_seq ?_
 refine sr_ ?_
 refine vm_ rfl rfl rfl ?_
 refine oz_ (xlen Tryz.underlying24 rfl) rfl rfl ?_
 refine vm_ rfl rfl rfl ?_
 refine oz_ (xlen Tryz.underlying35 rfl) rfl rfl ?_
 refine oz_ (xneq rfl rfl _ rfl) rfl rfl ?_
 refine ods (fun c13 => ?_) (fun c13 => ?_)
 ·
  refine ct_ rfl ?_
  refine sr_ ?_
  refine vn_ rfl rfl rfl ?_
  refine run_ret Tryz.func69 (res1 rfl rfl) ?_
  exact ⟨_, rfl, by rw [formCode, if_neg (by simp [c7]), if_pos (by simp only [areAns, Bool.and_eq_false_iff, decide_eq_false_iff_not]; exact .inr (by omega))], E⟩
 refine cf_ rfl ?_
 refine run_seq ?_
 refine sr_ ?_
 refine vn_ rfl rfl rfl ?_
 refine run_block ?_
 refine run_loop (ι := Nat × World) (fun x_ => match x_ with | (k, wr) => (Ext w wr) ∧ (w1.heap.size ≤ wr.heap.size) ∧ (k ≤ n2) ∧ (allB k (allI (fun _ a => inR (-1) 1 a) az) = true)) (fun x_ => match x_ with | (k, wr) => [(1, .slice p2 n2 c2), (5, .int .i64 (k : Int))]) (fun x_ => match x_ with | (k, wr) => wr) (fun x_ => match x_ with | (k, wr) => n2 - k) ?_ (0, w1) (⟨E, Nat.le_refl _, by omega, allB_zero⟩) ⟨rfl, rfl, trivial⟩ rfl
 intro i_ hI_ hback6
 obtain ⟨k, wr⟩ := i_
 obtain ⟨E, lz_wr, hk, ha⟩ := hI_
 try dsimp only
 have zr := E.size
 refine run_seq ?_
 refine sr_ ?_
 refine vm_ rfl rfl rfl ?_
 refine vm_ rfl rfl rfl ?_
 refine oz_ (xlen Tryz.underlying24 rfl) rfl rfl ?_
 refine oz_ (xlss rfl rfl _ rfl) rfl rfl ?_
 refine ods (fun c17 => ?_) (fun c17 => ?_)
 rotate_left
 ·
  refine cg_ rfl ?_
  refine run_exit rfl ?_
  refine sr_ ?_
  refine vn_ rfl rfl rfl ?_
  refine run_ret Tryz.func69 (res1 rfl rfl) ?_
  obtain rfl : k = n2 := by omega
  exact ⟨_, rfl, by rw [formCode, if_neg (by simp [c7]), if_neg (by rw [areAns, ← hn2, ha]; simp; omega)], E⟩
 refine ct_ rfl ?_
 refine run_skip ?_
 refine run_seq ?_
 refine run_block ?_
 refine sr_ ?_
 refine vm_ rfl rfl rfl ?_
 refine vm_ rfl rfl rfl ?_
 have h22 := (K.ext E).at (i := k) (by omega)
 refine oz_ (xindexN (i := k) Tryz.underlying24 Tryz.sizeOf2 rfl rfl rfl ((K.ext E).p (i := k) (by omega)) (by have := (K.ext E).len; omega)) rfl rfl ?_
 refine oz_ (v := .int .i64 az[k]) (xloadz Tryz.isAgg2 rfl (h22) rfl) rfl rfl ?_
 refine oc (xcall Tryz.call68 rfl) rfl rfl rfl (l01In_ok (az[k]) ((-1)) (1) _) ?_
 rintro _ w_ ⟨rfl, hw_⟩
 replace hw_ := hw_.symm
 subst hw_
 refine obs (fun c24 => ?_) (fun c24 => ?_)
 ·
  refine oz_ (xnot rfl) rfl rfl ?_
  refine cf_ rfl ?_
  refine run_inBlock ?_
  refine run_region ?_
  refine vm_ rfl rfl rfl ?_
  refine oz_ (xadd rfl rfl (by unfold I64; omega)) rfl rfl ?_
  refine vn_ rfl rfl rfl ?_
  refine run_sub ?_ (hback6 (k + 1, wr) (⟨E, by omega, by omega, allB_succ ha (by rw [allI_of (by omega)]; assumption)⟩) (by first | omega | (dsimp only; omega)))
  exact ⟨rfl, rfl, trivial⟩
 refine oz_ (xnot rfl) rfl rfl ?_
 refine ct_ rfl ?_
 refine sr_ ?_
 refine vn_ rfl rfl rfl ?_
 refine run_ret Tryz.func69 (res1 rfl rfl) ?_
 exact ⟨_, rfl, by rw [formCode, if_neg (by simp [c7]), if_pos (by rw [areAns, allB_false (i := k) (by omega) (by rw [allI_of (by omega)]; assumption)]; rfl)], E⟩
set_option maxHeartbeats 400000 in
theorem wayOf_ok (p : Option Addr) (n c : Nat) (xs : List Question) (p2 : Option Addr) (n2 c2 : Nat) (az : List Int) (w : World) (H : Sl Question.cells 3 w p n c xs) (hx : ∀ x ∈ xs, x.Label.size ≤ 9223372036854775807) (K : Sl i64c 1 w p2 n2 c2 az) (hf : isForm xs = true) (hA : areAns xs az = true) : Ret Tryz.prog 33 [.slice p n c, .slice p2 n2 c2] w (fun v w' => Ext w w' ∧ ∃ q m d, v = .tuple #[.slice q m d, .int .i64 (wayF xs az).2] ∧ Ow i64c 1 2 w' w.heap.size w'.heap.size q m d (wayF xs az).1) := by
 refine ret_of_run (N := 32) Tryz.func33 rfl rfl rfl ?_
 have hn := H.len
 have hn6 := H.n64
 have hn2 := K.len
 have hk6 := K.n64
 have hl := isForm_len hf
 have hal := areAns_len hA
 have E : Ext w w := Ext.refl w
 refine sr_ ?_
 refine va_ rfl rfl rfl ?_
 refine vn_ rfl rfl rfl ?_
 refine sr_ ?_
 refine obuild (cs := []) (sz := 1) Tryz.underlying24 inf2 rfl rfl (by decide) rfl rfl (by simp [Value.cells]) rfl rfl rfl ?_
 intro b1 w1 e1 hb1 hz1 O1
 have E := E.trans e1
 have G1 : Ow i64c 1 2 w1 b1 (b1 + 1) (some ⟨b1, 0, none⟩) 0 0 ([] : List Int) := Own.ow (by simpa [i64c] using O1) rfl (by omega) (Nat.le_refl _) (by omega) (by intro x hx; rfl)
 refine vn_ rfl rfl rfl ?_
 refine sr_ ?_
 refine vn_ rfl rfl rfl ?_
 refine run_seq ?_
 refine run_block ?_
 refine run_loop (ι := Int × Nat × Option Addr × Nat × Nat × List Int × World) (fun x_ => match x_ with | (at_, fu, q_6, m_6, c_6, ys_6, wr) => (Ext w wr) ∧ (Ow i64c 1 2 wr b1 wr.heap.size q_6 m_6 c_6 ys_6) ∧ (b1 ≤ wr.heap.size) ∧ (w1.heap.size ≤ wr.heap.size) ∧ (at_ < n) ∧ (0 ≤ at_ → n ≤ fu + at_.toNat) ∧ (0 ≤ at_ → (m_6 : Int) ≤ at_) ∧ (m_6 ≤ n) ∧ (0 ≤ at_ → wayF xs az = (ys_6 ++ (wayG xs az fu at_.toNat).1, (wayG xs az fu at_.toNat).2)) ∧ (at_ < 0 → wayF xs az = (ys_6, at_))) (fun x_ => match x_ with | (at_, fu, q_6, m_6, c_6, ys_6, wr) => [(0, .slice p n c), (1, .slice p2 n2 c2), (6, .slice q_6 m_6 c_6), (7, .int .i64 at_)]) (fun x_ => match x_ with | (at_, fu, q_6, m_6, c_6, ys_6, wr) => wr) (fun x_ => match x_ with | (at_, fu, q_6, m_6, c_6, ys_6, wr) => if at_ < 0 then 0 else (fu + 1)) ?_ (0, xs.length, (some ⟨b1, 0, none⟩), 0, 0, [], w1) (⟨E, G1.wide (by omega) (by omega), by omega, Nat.le_refl _, by omega, by omega, by omega, by omega, fun _ => by simp [wayF], fun h => absurd h (by omega)⟩) ⟨rfl, rfl, rfl, rfl, trivial⟩ rfl
 intro i_ hI_ hback3
 obtain ⟨at_, fu, q_6, m_6, c_6, ys_6, wr⟩ := i_
 obtain ⟨E, G_6, lo_6, lz_wr, h1, hu, hm, hm2, h2, h3⟩ := hI_
 try dsimp only
 have zr := E.size
 have lg_6 := G_6.len
 refine run_seq ?_
 refine sr_ ?_
 refine vm_ rfl rfl rfl ?_
 refine oz_ (xgeq rfl rfl _ rfl) rfl rfl ?_
 refine ods (fun c10 => ?_) (fun c10 => ?_)
 rotate_left
 ·
  refine cg_ rfl ?_
  refine run_exit rfl ?_
  refine sr_ ?_
  refine vm_ rfl rfl rfl ?_
  refine vm_ rfl rfl rfl ?_
  refine va_ rfl rfl rfl ?_
  refine vn_ rfl rfl rfl ?_
  refine run_ret Tryz.func33 (res2 rfl rfl rfl) ?_
  have he := h3 (by omega)
  exact ⟨_, rfl, E, _, _, _, by rw [he], by rw [he]; exact G_6.wide (by omega) (by omega)⟩
 refine ct_ rfl ?_
 refine run_skip ?_
 refine run_block ?_
 refine sr_ ?_
 refine vm_ rfl rfl rfl ?_
 refine vm_ rfl rfl rfl ?_
 refine obuild (cs := [.int .i64 at_]) (sz := 1) Tryz.underlying24 inf2 rfl rfl (by decide) rfl rfl (by simp [Value.cells]) rfl rfl rfl ?_
 intro b2 w2 e2 hb2 hz2 O2
 have E := E.trans e2
 replace G_6 := G_6.ext e2
 refine oapp (bytes := 8) (nm := (m_6 + 1)) G_6 rfl rfl elem2 (Own.sl1 (y := at_) O2) (by intro h; cases h) (by intro y hy; rfl) (by intro y hy u hu; rw [List.mem_singleton] at hy; subst hy; revert u; simp [Value.oneCell', i64c]) (by omega) (by omega) (by omega) (by omega) rfl rfl ?_
 intro p3 c3_ w3 m3 G3
 have hz3 := m3.size
 have E := m3.toExt E (by omega)
 refine vn_ rfl rfl rfl ?_
 refine run_seq ?_
 refine sr_ ?_
 refine vm_ rfl rfl rfl ?_
 refine vm_ rfl rfl rfl ?_
 have h17 := (K.ext E).at (i := at_.toNat) (by omega)
 refine oz_ (xindexN (i := at_.toNat) Tryz.underlying24 Tryz.sizeOf2 rfl rfl (by omega) ((K.ext E).p (i := at_.toNat) (by omega)) (by have := (K.ext E).len; omega)) rfl rfl ?_
 refine oz_ (v := .int .i64 az[at_.toNat]) (xloadz Tryz.isAgg2 rfl (h17) rfl) rfl rfl ?_
 refine oz_ (xeql rfl rfl _ rfl) rfl rfl ?_
 refine ods (fun c19 => ?_) (fun c19 => ?_)
 ·
  refine ct_ rfl ?_
  refine sr_ ?_
  refine vm_ rfl rfl rfl ?_
  refine va_ rfl rfl rfl ?_
  refine vn_ rfl rfl rfl ?_
  refine run_ret Tryz.func33 (res2 rfl rfl rfl) ?_
  have hx3 := h2 (by omega)
  have hx4 : ((at_.toNat : Nat) : Int) = at_ := by omega
  have hx5 : fu = (fu - 1) + 1 := by have := hu (by omega); omega
  have he : wayF xs az = (ys_6 ++ [at_], 0) := by rw [hx3, hx5, wayG_none (by omega) (by omega) (by omega), hx4]
  exact ⟨_, rfl, E, _, _, _, by rw [he], by rw [he]; exact G3.wide (by omega) (by omega)⟩
 refine cf_ rfl ?_
 refine run_draw (by kernel_rfl) (by kernel_rfl) ?_
 refine qv (fun w' x_ => xmove rfl) rfl rfl rfl ?_
 refine qv (fun w' x_ => xmove rfl) rfl rfl rfl ?_
 have h23 := (H.ext E).at (i := at_.toNat) (by omega)
 refine qv (fun w' x_ => xindexN (i := at_.toNat) Tryz.underlying35 Tryz.sizeOf99 rfl rfl (by omega) ((H.ext E).p (i := at_.toNat) (by omega)) (by have := (H.ext E).len; omega)) rfl rfl rfl ?_
 refine qv (v := .agg #[.string xs[at_.toNat].Label, .int .i64 xs[at_.toNat].Yes, .int .i64 xs[at_.toNat].No]) (fun w' x_ => xloadN Tryz.isAgg99 Tryz.sizeOf99 rfl ((h23).ext x_) rfl) rfl rfl rfl ?_
 refine qv (fun w' x_ => xmove rfl) rfl rfl rfl ?_
 refine qv (fun w' x_ => xmove rfl) rfl rfl rfl ?_
 have h27 := (K.ext E).at (i := at_.toNat) (by omega)
 refine qv (fun w' x_ => xindexN (i := at_.toNat) Tryz.underlying24 Tryz.sizeOf2 rfl rfl (by omega) ((K.ext E).p (i := at_.toNat) (by omega)) (by have := (K.ext E).len; omega)) rfl rfl rfl ?_
 refine qv (v := .int .i64 az[at_.toNat]) (fun w' x_ => xloadz Tryz.isAgg2 rfl ((h27).ext x_) rfl) rfl rfl rfl ?_
 have t29 := fun (w' : World) (x_ : Ext w3 w') => Ret.q (w := w') (follows_ok xs[at_.toNat] (az[at_.toNat]) _)
 refine qc (fun w' => xcall Tryz.call72 rfl) rfl rfl rfl t29 ?_
 clear t29
 refine qv (fun w' x_ => xassign rfl) rfl rfl rfl ?_
 refine q_nil ?_
 intro w4 e4
 have z4 := e4.size
 have E := E.trans e4
 replace G3 := G3.ext e4
 refine run_inBlock ?_
 have hx1 := isForm_next hf (i := at_.toNat) (by omega) az[at_.toNat]
 have hx2 := areAns_at hA (i := at_.toNat) (by omega)
 have hx3 := h2 (by omega)
 have hx4 : ((at_.toNat : Nat) : Int) = at_ := by omega
 have hx5 : fu = (fu - 1) + 1 := by have := hu (by omega); omega
 generalize hv : follows xs[at_.toNat] az[at_.toNat] = v at *
 refine run_sub ?_ (hback3 (v, fu - 1, p3, (m_6 + 1), c3_, ys_6 ++ [at_], w4) (⟨E, G3.wide (by omega) (by omega), by omega, by omega, by omega, by omega, by omega, by omega, fun h => by rw [hx3, hx5, wayG_on (by omega) (by omega) (by omega) (by omega), hx4, hv, ← hx5]; simp, fun h => by rw [hx3, hx5, wayG_end (by omega) (by omega) (by omega) (by omega), hx4, hv]⟩) (by dsimp only; (repeat' split) <;> omega))
 exact ⟨rfl, rfl, rfl, rfl, trivial⟩
set_option maxHeartbeats 400000 in
theorem l26Way_ok (p : Option Addr) (n c : Nat) (xs : List Question) (p2 : Option Addr) (n2 c2 : Nat) (az : List Int) (w : World) (H : Sl Question.cells 3 w p n c xs) (hx : ∀ x ∈ xs, x.Label.size ≤ 9223372036854775807) (K : Sl i64c 1 w p2 n2 c2 az) (hf : isForm xs = true) (hA : areAns xs az = true) : Ret Tryz.prog 29 [.slice p n c, .slice p2 n2 c2] w (fun v w' => Ext w w' ∧ ∃ q m d, v = .tuple #[.slice q m d, .int .i64 (wayF xs az).2] ∧ Ow i64c 1 2 w' w.heap.size w'.heap.size q m d (wayF xs az).1) := by
 refine ret_of_run (N := 32) Tryz.func29 rfl rfl rfl ?_
 have hn := H.len
 have hn6 := H.n64
 have hn2 := K.len
 have hk6 := K.n64
 have hl := isForm_len hf
 have hal := areAns_len hA
 have E : Ext w w := Ext.refl w
 refine sr_ ?_
 refine va_ rfl rfl rfl ?_
 refine vn_ rfl rfl rfl ?_
 refine sr_ ?_
 refine obuild (cs := []) (sz := 1) Tryz.underlying24 inf2 rfl rfl (by decide) rfl rfl (by simp [Value.cells]) rfl rfl rfl ?_
 intro b1 w1 e1 hb1 hz1 O1
 have E := E.trans e1
 have G1 : Ow i64c 1 2 w1 b1 (b1 + 1) (some ⟨b1, 0, none⟩) 0 0 ([] : List Int) := Own.ow (by simpa [i64c] using O1) rfl (by omega) (Nat.le_refl _) (by omega) (by intro x hx; rfl)
 refine vn_ rfl rfl rfl ?_
 refine sr_ ?_
 refine vn_ rfl rfl rfl ?_
 refine run_seq ?_
 refine run_block ?_
 refine run_loop (ι := Int × Nat × Option Addr × Nat × Nat × List Int × World) (fun x_ => match x_ with | (at_, fu, q_6, m_6, c_6, ys_6, wr) => (Ext w wr) ∧ (Ow i64c 1 2 wr b1 wr.heap.size q_6 m_6 c_6 ys_6) ∧ (b1 ≤ wr.heap.size) ∧ (w1.heap.size ≤ wr.heap.size) ∧ (at_ < n) ∧ (0 ≤ at_ → n ≤ fu + at_.toNat) ∧ (0 ≤ at_ → (m_6 : Int) ≤ at_) ∧ (m_6 ≤ n) ∧ (0 ≤ at_ → wayF xs az = (ys_6 ++ (wayG xs az fu at_.toNat).1, (wayG xs az fu at_.toNat).2)) ∧ (at_ < 0 → wayF xs az = (ys_6, at_))) (fun x_ => match x_ with | (at_, fu, q_6, m_6, c_6, ys_6, wr) => [(0, .slice p n c), (1, .slice p2 n2 c2), (6, .slice q_6 m_6 c_6), (7, .int .i64 at_)]) (fun x_ => match x_ with | (at_, fu, q_6, m_6, c_6, ys_6, wr) => wr) (fun x_ => match x_ with | (at_, fu, q_6, m_6, c_6, ys_6, wr) => if at_ < 0 then 0 else (fu + 1)) ?_ (0, xs.length, (some ⟨b1, 0, none⟩), 0, 0, [], w1) (⟨E, G1.wide (by omega) (by omega), by omega, Nat.le_refl _, by omega, by omega, by omega, by omega, fun _ => by simp [wayF], fun h => absurd h (by omega)⟩) ⟨rfl, rfl, rfl, rfl, trivial⟩ rfl
 intro i_ hI_ hback3
 obtain ⟨at_, fu, q_6, m_6, c_6, ys_6, wr⟩ := i_
 obtain ⟨E, G_6, lo_6, lz_wr, h1, hu, hm, hm2, h2, h3⟩ := hI_
 try dsimp only
 have zr := E.size
 have lg_6 := G_6.len
 refine run_seq ?_
 refine sr_ ?_
 refine vm_ rfl rfl rfl ?_
 refine oz_ (xgeq rfl rfl _ rfl) rfl rfl ?_
 refine ods (fun c10 => ?_) (fun c10 => ?_)
 rotate_left
 ·
  refine cg_ rfl ?_
  refine run_exit rfl ?_
  refine sr_ ?_
  refine vm_ rfl rfl rfl ?_
  refine vm_ rfl rfl rfl ?_
  refine va_ rfl rfl rfl ?_
  refine vn_ rfl rfl rfl ?_
  refine run_ret Tryz.func29 (res2 rfl rfl rfl) ?_
  have he := h3 (by omega)
  exact ⟨_, rfl, E, _, _, _, by rw [he], by rw [he]; exact G_6.wide (by omega) (by omega)⟩
 refine ct_ rfl ?_
 refine run_skip ?_
 refine run_block ?_
 refine sr_ ?_
 refine vm_ rfl rfl rfl ?_
 refine vm_ rfl rfl rfl ?_
 refine obuild (cs := [.int .i64 at_]) (sz := 1) Tryz.underlying24 inf2 rfl rfl (by decide) rfl rfl (by simp [Value.cells]) rfl rfl rfl ?_
 intro b2 w2 e2 hb2 hz2 O2
 have E := E.trans e2
 replace G_6 := G_6.ext e2
 refine oapp (bytes := 8) (nm := (m_6 + 1)) G_6 rfl rfl elem2 (Own.sl1 (y := at_) O2) (by intro h; cases h) (by intro y hy; rfl) (by intro y hy u hu; rw [List.mem_singleton] at hy; subst hy; revert u; simp [Value.oneCell', i64c]) (by omega) (by omega) (by omega) (by omega) rfl rfl ?_
 intro p3 c3_ w3 m3 G3
 have hz3 := m3.size
 have E := m3.toExt E (by omega)
 refine vn_ rfl rfl rfl ?_
 refine run_seq ?_
 refine sr_ ?_
 refine vm_ rfl rfl rfl ?_
 refine vm_ rfl rfl rfl ?_
 have h17 := (K.ext E).at (i := at_.toNat) (by omega)
 refine oz_ (xindexN (i := at_.toNat) Tryz.underlying24 Tryz.sizeOf2 rfl rfl (by omega) ((K.ext E).p (i := at_.toNat) (by omega)) (by have := (K.ext E).len; omega)) rfl rfl ?_
 refine oz_ (v := .int .i64 az[at_.toNat]) (xloadz Tryz.isAgg2 rfl (h17) rfl) rfl rfl ?_
 refine oz_ (xlss rfl rfl _ rfl) rfl rfl ?_
 refine ods (fun c19 => ?_) (fun c19 => ?_)
 ·
  refine ct_ rfl ?_
  refine sr_ ?_
  refine vm_ rfl rfl rfl ?_
  refine va_ rfl rfl rfl ?_
  refine vn_ rfl rfl rfl ?_
  refine run_ret Tryz.func29 (res2 rfl rfl rfl) ?_
  have hx3 := h2 (by omega)
  have hx4 : ((at_.toNat : Nat) : Int) = at_ := by omega
  have hx5 : fu = (fu - 1) + 1 := by have := hu (by omega); omega
  have he : wayF xs az = (ys_6 ++ [at_], 0) := by rw [hx3, hx5, wayG_none (by omega) (by omega) (by omega), hx4]
  exact ⟨_, rfl, E, _, _, _, by rw [he], by rw [he]; exact G3.wide (by omega) (by omega)⟩
 refine cf_ rfl ?_
 refine run_draw (by kernel_rfl) (by kernel_rfl) ?_
 refine qv (fun w' x_ => xmove rfl) rfl rfl rfl ?_
 refine qv (fun w' x_ => xmove rfl) rfl rfl rfl ?_
 have h23 := (H.ext E).at (i := at_.toNat) (by omega)
 refine qv (fun w' x_ => xindexN (i := at_.toNat) Tryz.underlying35 Tryz.sizeOf99 rfl rfl (by omega) ((H.ext E).p (i := at_.toNat) (by omega)) (by have := (H.ext E).len; omega)) rfl rfl rfl ?_
 refine qv (v := .agg #[.string xs[at_.toNat].Label, .int .i64 xs[at_.toNat].Yes, .int .i64 xs[at_.toNat].No]) (fun w' x_ => xloadN Tryz.isAgg99 Tryz.sizeOf99 rfl ((h23).ext x_) rfl) rfl rfl rfl ?_
 refine qv (fun w' x_ => xmove rfl) rfl rfl rfl ?_
 refine qv (fun w' x_ => xmove rfl) rfl rfl rfl ?_
 have h27 := (K.ext E).at (i := at_.toNat) (by omega)
 refine qv (fun w' x_ => xindexN (i := at_.toNat) Tryz.underlying24 Tryz.sizeOf2 rfl rfl (by omega) ((K.ext E).p (i := at_.toNat) (by omega)) (by have := (K.ext E).len; omega)) rfl rfl rfl ?_
 refine qv (v := .int .i64 az[at_.toNat]) (fun w' x_ => xloadz Tryz.isAgg2 rfl ((h27).ext x_) rfl) rfl rfl rfl ?_
 have t29 := fun (w' : World) (x_ : Ext w3 w') => Ret.q (w := w') (l26Follow_ok xs[at_.toNat] (az[at_.toNat]) _)
 refine qc (fun w' => xcall Tryz.call70 rfl) rfl rfl rfl t29 ?_
 clear t29
 refine qv (fun w' x_ => xassign rfl) rfl rfl rfl ?_
 refine q_nil ?_
 intro w4 e4
 have z4 := e4.size
 have E := E.trans e4
 replace G3 := G3.ext e4
 refine run_inBlock ?_
 have hx1 := isForm_next hf (i := at_.toNat) (by omega) az[at_.toNat]
 have hx2 := areAns_at hA (i := at_.toNat) (by omega)
 have hx3 := h2 (by omega)
 have hx4 : ((at_.toNat : Nat) : Int) = at_ := by omega
 have hx5 : fu = (fu - 1) + 1 := by have := hu (by omega); omega
 generalize hv : follows xs[at_.toNat] az[at_.toNat] = v at *
 refine run_sub ?_ (hback3 (v, fu - 1, p3, (m_6 + 1), c3_, ys_6 ++ [at_], w4) (⟨E, G3.wide (by omega) (by omega), by omega, by omega, by omega, by omega, by omega, by omega, fun h => by rw [hx3, hx5, wayG_on (by omega) (by omega) (by omega) (by omega), hx4, hv, ← hx5]; simp, fun h => by rw [hx3, hx5, wayG_end (by omega) (by omega) (by omega) (by omega), hx4, hv]⟩) (by dsimp only; (repeat' split) <;> omega))
 exact ⟨rfl, rfl, rfl, rfl, trivial⟩
end Go.Proofs.YtchblgaklknkcaaGreat
