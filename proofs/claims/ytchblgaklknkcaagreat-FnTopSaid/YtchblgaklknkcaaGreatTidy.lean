/-
  Answers without those that are not on their way. No condition beyond those written in each theorem.
-/
import Derived.Test.YtchblgaklknkcaaGreatWay
import Derived.Test.YtchblgaklknkcaaGreatMore
namespace Go.Proofs.YtchblgaklknkcaaGreat
open Go.RowKit
set_option linter.unusedVariables false
set_option linter.unusedSimpArgs false
set_option linter.unusedSectionVars false
set_option maxRecDepth 4000
theorem formCode_zero {xs : List Question} {az : List Int} (h : formCode xs az = 0) : isForm xs = true ∧ areAns xs az = true := by
 unfold formCode at h
 split at h
 · cases h
 · rename_i h1
   split at h
   · cases h
   · rename_i h2; exact ⟨by simpa using h1, by simpa using h2⟩
def verdictOf (xs : List Question) (az : List Int) : Int × Int := if formCode xs az ≠ 0 then (0, formCode xs az) else if (wayF xs az).2 = 0 then (0, 5) else ((wayF xs az).2, 0)
set_option maxHeartbeats 400000 in
theorem VerdictOf_ok (p : Option Addr) (n c : Nat) (xs : List Question) (p2 : Option Addr) (n2 c2 : Nat) (az : List Int) (w : World) (H : Sl Question.cells 3 w p n c xs) (hx : ∀ x ∈ xs, x.Label.size ≤ 9223372036854775807) (K : Sl i64c 1 w p2 n2 c2 az) : Ret Tryz.prog 13 [.slice p n c, .slice p2 n2 c2] w (Pv w (.tuple #[.int .i64 (verdictOf xs az).1, .int .i64 (verdictOf xs az).2])) := by
 refine ret_of_run (N := 24) Tryz.func13 rfl rfl rfl ?_
 have hn := H.len
 have hn6 := H.n64
 have hn2 := K.len
 have hk6 := K.n64
 have E : Ext w w := Ext.refl w
 refine sr_ ?_
 refine va_ rfl rfl rfl ?_
 refine vn_ rfl rfl rfl ?_
 refine run_seq ?_
 refine sr_ ?_
 refine vm_ rfl rfl rfl ?_
 refine vm_ rfl rfl rfl ?_
 refine oc (xcall Tryz.call32 rfl) rfl rfl rfl (formCode_ok _ _ _ _ _ _ _ _ _ (H.ext E) (by assumption) (K.ext E)) ?_
 rintro _ w1 ⟨rfl, e1⟩
 have z1 := e1.size
 have E := E.trans e1
 refine vn_ rfl rfl rfl ?_
 refine sr_ ?_
 refine vm_ rfl rfl rfl ?_
 refine oz_ (xneq rfl rfl _ rfl) rfl rfl ?_
 refine ods (fun c13 => ?_) (fun c13 => ?_)
 ·
  refine ct_ rfl ?_
  refine sr_ ?_
  refine vm_ rfl rfl rfl ?_
  refine va_ rfl rfl rfl ?_
  refine vn_ rfl rfl rfl ?_
  refine run_ret Tryz.func13 (res2 rfl rfl rfl) ?_
  have he : verdictOf xs az = (0, (formCode xs az)) := by unfold verdictOf; (repeat' split) <;> first | rfl | (exfalso; omega) | (exfalso; simp_all; done)
  exact ⟨_, rfl, by rw [he], E⟩
 refine cf_ rfl ?_
 refine sr_ ?_
 refine vm_ rfl rfl rfl ?_
 refine vm_ rfl rfl rfl ?_
 obtain ⟨hf, hA⟩ := formCode_zero (by omega : formCode xs az = 0)
 refine oc (xcall Tryz.call33 rfl) rfl rfl rfl (wayOf_ok _ _ _ _ _ _ _ _ _ (H.ext E) (by assumption) (K.ext E) (by assumption) (by assumption)) ?_
 rintro _ w2 ⟨e2, q18, m18, d18, rfl, G18⟩
 have z2 := e2.size
 have E := E.trans e2
 refine vm_ rfl rfl rfl ?_
 refine oz_ (xextract rfl rfl) rfl rfl ?_
 refine oz_ (xextract rfl rfl) rfl rfl ?_
 refine va_ rfl rfl rfl ?_
 refine vn_ rfl rfl rfl ?_
 refine run_seq ?_
 refine sr_ ?_
 refine vm_ rfl rfl rfl ?_
 refine oz_ (xeql rfl rfl _ rfl) rfl rfl ?_
 refine ods (fun c22 => ?_) (fun c22 => ?_)
 ·
  refine ct_ rfl ?_
  refine sr_ ?_
  refine va_ rfl rfl rfl ?_
  refine vn_ rfl rfl rfl ?_
  refine run_ret Tryz.func13 (res2 rfl rfl rfl) ?_
  have he : verdictOf xs az = (0, 5) := by unfold verdictOf; (repeat' split) <;> first | rfl | (exfalso; omega) | (exfalso; simp_all; done)
  exact ⟨_, rfl, by rw [he], E⟩
 refine cf_ rfl ?_
 refine sr_ ?_
 refine vm_ rfl rfl rfl ?_
 refine va_ rfl rfl rfl ?_
 refine vn_ rfl rfl rfl ?_
 refine run_ret Tryz.func13 (res2 rfl rfl rfl) ?_
 have he : verdictOf xs az = ((wayF xs az).2, 0) := by unfold verdictOf; (repeat' split) <;> first | rfl | (exfalso; omega) | (exfalso; simp_all; done)
 exact ⟨_, rfl, by rw [he], E⟩
end Go.Proofs.YtchblgaklknkcaaGreat
namespace Go.Proofs.YtchblgaklknkcaaGreat
open Go.RowKit
set_option linter.unusedVariables false
set_option linter.unusedSimpArgs false
set_option linter.unusedSectionVars false
set_option maxRecDepth 4000
theorem wayG_le (xs : List Question) (az : List Int) : ∀ (f i : Nat), (wayG xs az f i).2 ≤ 0
  | 0, _ => by simp [wayG]
  | f + 1, i => by
    unfold wayG
    split
    · split
      · simp
      · split
        · rename_i h; simp only; omega
        · exact wayG_le xs az f _
    · simp
def hasI (l : List Int) (x : Int) : Bool := l.any fun y => decide (y = x)
theorem hasI_iff {l : List Int} {x : Int} : hasI l x = true ↔ x ∈ l := by
 simp only [hasI, List.any_eq_true, decide_eq_true_eq]
 exact ⟨fun ⟨y, h1, h2⟩ => h2 ▸ h1, fun h => ⟨x, h, rfl⟩⟩
theorem hasI_t {l : List Int} {x : Int} {k : Nat} (hk : k < l.length) (h : l[k] = x) : hasI l x = true := hasI_iff.2 (h ▸ List.getElem_mem hk)
theorem hasI_f {l : List Int} {x : Int} {n : Nat} (h : ∀ j (hj : j < l.length), j < n → l[j] ≠ x) (hn : l.length ≤ n) : hasI l x = false := by
 rw [Bool.eq_false_iff]; intro h'
 obtain ⟨j, hj, e⟩ := List.getElem_of_mem (hasI_iff.1 h')
 exact h j hj (by omega) e
set_option maxHeartbeats 400000 in
theorem hasI_ok (p : Option Addr) (n c : Nat) (xs : List Int) (x : Int) (w : World) (H : Sl i64c 1 w p n c xs) : Ret Tryz.prog 41 [.slice p n c, .int .i64 x] w (Pv w (.bool (hasI xs x))) := by
 refine ret_of_run (N := 17) Tryz.func41 rfl rfl rfl ?_
 have hn := H.len
 have hn6 := H.n64
 have E : Ext w w := Ext.refl w
 refine sr_ ?_
 refine vn_ rfl rfl rfl ?_
 refine run_seq ?_
 refine sr_ ?_
 refine vm_ rfl rfl rfl ?_
 refine oz_ (xlen Tryz.underlying24 rfl) rfl rfl ?_
 refine vm_ rfl rfl rfl ?_
 refine ops_nil ?_
 refine run_block ?_
 refine run_loop (ι := Nat × World) (fun x_ => match x_ with | (k, wr) => (Ext w wr) ∧ (w.heap.size ≤ wr.heap.size) ∧ (k ≤ n) ∧ (∀ j (hj : j < xs.length), j < k → xs[j] ≠ x)) (fun x_ => match x_ with | (k, wr) => [(1, .int .i64 x), (7, .slice p n c), (8, .int .i64 (n : Int)), (9, .int .i64 (k : Int))]) (fun x_ => match x_ with | (k, wr) => wr) (fun x_ => match x_ with | (k, wr) => n - k) ?_ (0, w) (⟨E, Nat.le_refl _, by omega, fun j hj h => absurd h (Nat.not_lt_zero j)⟩) ⟨rfl, rfl, rfl, rfl, trivial⟩ rfl
 intro i_ hI_ hback2
 obtain ⟨k, wr⟩ := i_
 obtain ⟨E, lz_wr, hk, ha⟩ := hI_
 try dsimp only
 have zr := E.size
 refine sr_ ?_
 refine oz_ (xlss rfl rfl _ rfl) rfl rfl ?_
 refine ods (fun c10 => ?_) (fun c10 => ?_)
 rotate_left
 ·
  refine ops_nil ?_
  refine run_seq ?_
  refine run_cond_f rfl ?_
  refine run_exit rfl ?_
  refine sr_ ?_
  refine vn_ rfl rfl rfl ?_
  refine run_ret Tryz.func41 (res1 rfl rfl) ?_
  exact ⟨_, rfl, by rw [hasI_f ha (by omega)], E⟩
 refine ops_nil ?_
 refine run_seq ?_
 refine run_cond_t rfl ?_
 refine run_skip ?_
 refine run_seq ?_
 refine run_block ?_
 refine sr_ ?_
 have h11 := (H.ext E).at (i := k) (by omega)
 refine oz_ (xindexN (i := k) Tryz.underlying24 Tryz.sizeOf2 rfl rfl rfl ((H.ext E).p (i := k) (by omega)) (by have := (H.ext E).len; omega)) rfl rfl ?_
 refine oz_ (v := .int .i64 xs[k]) (xloadz Tryz.isAgg2 rfl (h11) rfl) rfl rfl ?_
 refine vn_ rfl rfl rfl ?_
 refine sr_ ?_
 refine vm_ rfl rfl rfl ?_
 refine vm_ rfl rfl rfl ?_
 refine oz_ (xeql rfl rfl _ rfl) rfl rfl ?_
 refine ods (fun c15 => ?_) (fun c15 => ?_)
 ·
  refine ct_ rfl ?_
  refine sr_ ?_
  refine vn_ rfl rfl rfl ?_
  refine run_ret Tryz.func41 (res1 rfl rfl) ?_
  exact ⟨_, rfl, by rw [hasI_t (k := k) (by omega) (by omega)], E⟩
 refine cf_ rfl ?_
 refine run_inBlock ?_
 refine run_region ?_
 refine oz_ (xadd rfl rfl (by unfold I64; omega)) rfl rfl ?_
 refine vm_ rfl rfl rfl ?_
 refine ops_nil ?_
 refine run_sub ?_ (hback2 (k + 1, wr) (⟨E, by omega, by omega, below_succ (q := fun y => y ≠ x) ha (fun _ => by omega)⟩) (by first | omega | (dsimp only; omega)))
 exact ⟨rfl, rfl, rfl, rfl, trivial⟩
set_option maxHeartbeats 400000 in
theorem l01Has_ok (p : Option Addr) (n c : Nat) (xs : List Int) (x : Int) (w : World) (H : Sl i64c 1 w p n c xs) : Ret Tryz.prog 126 [.slice p n c, .int .i64 x] w (Pv w (.bool (hasI xs x))) := by
 refine ret_of_run (N := 18) Tryz.func126 rfl rfl rfl ?_
 have hn := H.len
 have hn6 := H.n64
 have E : Ext w w := Ext.refl w
 refine sr_ ?_
 refine vn_ rfl rfl rfl ?_
 refine run_seq ?_
 refine sr_ ?_
 refine vn_ rfl rfl rfl ?_
 refine run_block ?_
 refine run_loop (ι := Nat × World) (fun x_ => match x_ with | (k, wr) => (Ext w wr) ∧ (w.heap.size ≤ wr.heap.size) ∧ (k ≤ n) ∧ (∀ j (hj : j < xs.length), j < k → xs[j] ≠ x)) (fun x_ => match x_ with | (k, wr) => [(0, .slice p n c), (1, .int .i64 x), (5, .int .i64 (k : Int))]) (fun x_ => match x_ with | (k, wr) => wr) (fun x_ => match x_ with | (k, wr) => n - k) ?_ (0, w) (⟨E, Nat.le_refl _, by omega, fun j hj h => absurd h (Nat.not_lt_zero j)⟩) ⟨rfl, rfl, rfl, trivial⟩ rfl
 intro i_ hI_ hback2
 obtain ⟨k, wr⟩ := i_
 obtain ⟨E, lz_wr, hk, ha⟩ := hI_
 try dsimp only
 have zr := E.size
 refine run_seq ?_
 refine sr_ ?_
 refine vm_ rfl rfl rfl ?_
 refine vm_ rfl rfl rfl ?_
 refine oz_ (xlen Tryz.underlying24 rfl) rfl rfl ?_
 refine oz_ (xlss rfl rfl _ rfl) rfl rfl ?_
 refine ods (fun c9 => ?_) (fun c9 => ?_)
 rotate_left
 ·
  refine cg_ rfl ?_
  refine run_exit rfl ?_
  refine sr_ ?_
  refine vn_ rfl rfl rfl ?_
  refine run_ret Tryz.func126 (res1 rfl rfl) ?_
  exact ⟨_, rfl, by rw [hasI_f ha (by omega)], E⟩
 refine ct_ rfl ?_
 refine run_skip ?_
 refine run_seq ?_
 refine run_block ?_
 refine sr_ ?_
 refine vm_ rfl rfl rfl ?_
 refine vm_ rfl rfl rfl ?_
 have h14 := (H.ext E).at (i := k) (by omega)
 refine oz_ (xindexN (i := k) Tryz.underlying24 Tryz.sizeOf2 rfl rfl rfl ((H.ext E).p (i := k) (by omega)) (by have := (H.ext E).len; omega)) rfl rfl ?_
 refine oz_ (v := .int .i64 xs[k]) (xloadz Tryz.isAgg2 rfl (h14) rfl) rfl rfl ?_
 refine vm_ rfl rfl rfl ?_
 refine oz_ (xeql rfl rfl _ rfl) rfl rfl ?_
 refine ods (fun c17 => ?_) (fun c17 => ?_)
 ·
  refine ct_ rfl ?_
  refine sr_ ?_
  refine vn_ rfl rfl rfl ?_
  refine run_ret Tryz.func126 (res1 rfl rfl) ?_
  exact ⟨_, rfl, by rw [hasI_t (k := k) (by omega) (by omega)], E⟩
 refine cf_ rfl ?_
 refine run_inBlock ?_
 refine run_region ?_
 refine vm_ rfl rfl rfl ?_
 refine oz_ (xadd rfl rfl (by unfold I64; omega)) rfl rfl ?_
 refine vn_ rfl rfl rfl ?_
 refine run_sub ?_ (hback2 (k + 1, wr) (⟨E, by omega, by omega, below_succ (q := fun y => y ≠ x) ha (fun _ => by omega)⟩) (by first | omega | (dsimp only; omega)))
 exact ⟨rfl, rfl, rfl, trivial⟩
set_option maxHeartbeats 400000 in
theorem sameI_ok (p q : Option Addr) (n c m d : Nat) (xs ys : List Int) (w : World) (H : Sl i64c 1 w p n c xs) (K : Sl i64c 1 w q m d ys) : Ret Tryz.prog 40 [.slice p n c, .slice q m d] w (Pv w (.bool (eqL eqI xs ys))) := by
 refine ret_of_run (N := 26) Tryz.func40 rfl rfl rfl ?_
 have hn := H.len
 have hm := K.len
 have hn6 := H.n64
 have hm6 := K.n64
 have E : Ext w w := Ext.refl w
 refine sr_ ?_
 refine vn_ rfl rfl rfl ?_
 refine run_seq ?_
 refine sr_ ?_
 refine vm_ rfl rfl rfl ?_
 refine oz_ (xlen Tryz.underlying24 rfl) rfl rfl ?_
 refine vm_ rfl rfl rfl ?_
 refine oz_ (xlen Tryz.underlying24 rfl) rfl rfl ?_
 refine oz_ (xneq rfl rfl _ rfl) rfl rfl ?_
 refine ods (fun c10 => ?_) (fun c10 => ?_)
 ·
  refine ct_ rfl ?_
  refine sr_ ?_
  refine vn_ rfl rfl rfl ?_
  refine run_ret Tryz.func40 (res1 rfl rfl) ?_
  exact ⟨_, rfl, by rw [eqL_ne (by omega)], E⟩
 refine cf_ rfl ?_
 refine run_seq ?_
 refine sr_ ?_
 refine vm_ rfl rfl rfl ?_
 refine oz_ (xlen Tryz.underlying24 rfl) rfl rfl ?_
 refine vm_ rfl rfl rfl ?_
 refine ops_nil ?_
 refine run_block ?_
 refine run_loop (ι := Nat × World) (fun x_ => match x_ with | (k, wr) => (Ext w wr) ∧ (w.heap.size ≤ wr.heap.size) ∧ (k ≤ n) ∧ (n = m) ∧ (allB k (fun i => eqAt eqI xs ys i) = true)) (fun x_ => match x_ with | (k, wr) => [(0, .slice p n c), (1, .slice q m d), (12, .int .i64 (n : Int)), (13, .int .i64 (k : Int))]) (fun x_ => match x_ with | (k, wr) => wr) (fun x_ => match x_ with | (k, wr) => n - k) ?_ (0, w) (⟨E, Nat.le_refl _, by omega, by omega, allB_zero⟩) ⟨rfl, rfl, rfl, rfl, trivial⟩ rfl
 intro i_ hI_ hback4
 obtain ⟨k, wr⟩ := i_
 obtain ⟨E, lz_wr, hk, hnm, ha⟩ := hI_
 try dsimp only
 have zr := E.size
 refine sr_ ?_
 refine oz_ (xlss rfl rfl _ rfl) rfl rfl ?_
 refine ods (fun c14 => ?_) (fun c14 => ?_)
 rotate_left
 ·
  refine ops_nil ?_
  refine run_seq ?_
  refine run_cond_f rfl ?_
  refine run_exit rfl ?_
  refine sr_ ?_
  refine vn_ rfl rfl rfl ?_
  refine run_ret Tryz.func40 (res1 rfl rfl) ?_
  obtain rfl : k = n := by omega
  exact ⟨_, rfl, by rw [eqL_eq (by omega) (by rw [← hn]; exact ha)], E⟩
 refine ops_nil ?_
 refine run_seq ?_
 refine run_cond_t rfl ?_
 refine run_skip ?_
 refine run_seq ?_
 refine run_block ?_
 refine sr_ ?_
 refine vm_ rfl rfl rfl ?_
 refine vn_ rfl rfl rfl ?_
 refine run_seq ?_
 refine run_draw (by kernel_rfl) (by kernel_rfl) ?_
 refine qv (fun w' x_ => xmove rfl) rfl rfl rfl ?_
 refine qv (fun w' x_ => xmove rfl) rfl rfl rfl ?_
 have h18 := (H.ext E).at (i := k) (by omega)
 refine qv (fun w' x_ => xindexN (i := k) Tryz.underlying24 Tryz.sizeOf2 rfl rfl rfl ((H.ext E).p (i := k) (by omega)) (by have := (H.ext E).len; omega)) rfl rfl rfl ?_
 refine qv (v := .int .i64 xs[k]) (fun w' x_ => xloadz Tryz.isAgg2 rfl ((h18).ext x_) rfl) rfl rfl rfl ?_
 refine qv (fun w' x_ => xmove rfl) rfl rfl rfl ?_
 refine qv (fun w' x_ => xmove rfl) rfl rfl rfl ?_
 have h22 := (K.ext E).at (i := k) (by omega)
 refine qv (fun w' x_ => xindexN (i := k) Tryz.underlying24 Tryz.sizeOf2 rfl rfl rfl ((K.ext E).p (i := k) (by omega)) (by have := (K.ext E).len; omega)) rfl rfl rfl ?_
 refine qv (v := .int .i64 ys[k]) (fun w' x_ => xloadz Tryz.isAgg2 rfl ((h22).ext x_) rfl) rfl rfl rfl ?_
 refine qv (fun w' x_ => xneq rfl rfl _ rfl) rfl rfl rfl ?_
 refine qds (fun c24 => ?_) (fun c24 => ?_)
 ·
  refine q_nil ?_
  intro w1 e1
  have z1 := e1.size
  have E := E.trans e1
  refine run_cond_t rfl ?_
  refine sr_ ?_
  refine vn_ rfl rfl rfl ?_
  refine run_ret Tryz.func40 (res1 rfl rfl) ?_
  exact ⟨_, rfl, by rw [eqL_at (i := k) (by omega) (by omega) (by simpa [eqI] using c24)], E⟩
 refine q_nil ?_
 intro w1 e1
 have z1 := e1.size
 have E := E.trans e1
 refine run_cond_f rfl ?_
 refine run_skip ?_
 refine run_inBlock ?_
 refine run_region ?_
 refine oz_ (xadd rfl rfl (by unfold I64; omega)) rfl rfl ?_
 refine vm_ rfl rfl rfl ?_
 refine ops_nil ?_
 refine run_sub ?_ (hback4 (k + 1, w1) (⟨E, by omega, by omega, hnm, allB_succ ha (by rw [eqAt_of (by omega) (by omega)]; simpa [eqI] using c24)⟩) (by first | omega | (dsimp only; omega)))
 exact ⟨rfl, rfl, rfl, rfl, trivial⟩
set_option maxHeartbeats 400000 in
theorem cloneInt64_ok (p : Option Addr) (n c : Nat) (xs : List Int) (w : World) (H : Sl i64c 1 w p n c xs) (hp : p = none → c = 0) (hn2 : n ≤ 1000000000) : Ret Tryz.prog 97 [.slice p n c] w (fun v w' => Ext w w' ∧ ∃ q c', v = .slice q n c' ∧ Ow i64c 1 2 w' w.heap.size w'.heap.size q n c' xs) := by
 refine ret_of_run (N := 8) Tryz.func97 rfl rfl rfl ?_
 have hn := H.len
 have E : Ext w w := Ext.refl w
 refine sr_ ?_
 refine vn_ rfl rfl rfl ?_
 refine sr_ ?_
 refine vm_ rfl rfl rfl ?_
 refine oz_ (xlen Tryz.underlying24 rfl) rfl rfl ?_
 refine omake0 i64c (sz := 1) (n := n) Tryz.underlying24 inf2 rfl rfl rfl rfl rfl (by simp only [Tryz.t2]; omega) (by omega) rfl rfl ?_
 intro b1 w1 e1 hb1 hz1 G1
 have E := E.trans e1
 refine vm_ rfl rfl rfl ?_
 refine oapp (bytes := 8) (nm := n) G1 rfl rfl elem2 (H.ext E) hp (by intro y hy; rfl) (by intro y hy u hu; simp only [i64c, List.mem_singleton] at hu; subst hu; rfl) (by omega) (by omega) (by omega) (by omega) rfl rfl ?_
 intro p2 c2_ w2 m2 G2
 have hz2 := m2.size
 have E := m2.toExt E (by omega)
 refine vn_ rfl rfl rfl ?_
 refine run_ret Tryz.func97 (res1 rfl rfl) ?_
 exact ⟨_, rfl, E, _, _, rfl, G2.wide (by omega) (by omega)⟩
set_option maxHeartbeats 400000 in
theorem l01Own_ok (p : Option Addr) (n c : Nat) (xs : List Int) (w : World) (H : Sl i64c 1 w p n c xs) (hp : p = none → c = 0) (hn2 : n ≤ 1000000000) : Ret Tryz.prog 102 [.slice p n c] w (fun v w' => Ext w w' ∧ ∃ q c', v = .slice q n c' ∧ Ow i64c 1 2 w' w.heap.size w'.heap.size q n c' xs) := by
 refine ret_of_run (N := 6) Tryz.func102 rfl rfl rfl ?_
 have hn := H.len
 have E : Ext w w := Ext.refl w
 refine sr_ ?_
 refine vn_ rfl rfl rfl ?_
 refine sr_ ?_
 refine obuild (cs := []) (sz := 1) Tryz.underlying24 inf2 rfl rfl (by decide) rfl rfl (by simp [Value.cells]) rfl rfl rfl ?_
 intro b1 w1 e1 hb1 hz1 O1
 have E := E.trans e1
 have G1 : Ow i64c 1 2 w1 b1 (b1 + 1) (some ⟨b1, 0, none⟩) 0 0 ([] : List Int) := Own.ow (by simpa [i64c] using O1) rfl (by omega) (Nat.le_refl _) (by omega) (by intro x hx; rfl)
 refine vm_ rfl rfl rfl ?_
 refine oapp (bytes := 8) (nm := n) G1 rfl rfl elem2 (H.ext E) hp (by intro y hy; rfl) (by intro y hy u hu; simp only [i64c, List.mem_singleton] at hu; subst hu; rfl) (by omega) (by omega) (by omega) (by omega) rfl rfl ?_
 intro p2 c2_ w2 m2 G2
 have hz2 := m2.size
 have E := m2.toExt E (by omega)
 refine vn_ rfl rfl rfl ?_
 refine run_ret Tryz.func102 (res1 rfl rfl) ?_
 exact ⟨_, rfl, E, _, _, rfl, G2.wide (by omega) (by omega)⟩
end Go.Proofs.YtchblgaklknkcaaGreat
