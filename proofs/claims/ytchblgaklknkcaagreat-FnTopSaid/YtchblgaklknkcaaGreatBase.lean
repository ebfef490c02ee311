/-
  Contracts of the small functions that all chapters share. No condition.
-/
import Derived.Test.YtchblgaklknkcaaGreatGrow
import Derived.Test.YtchblgaklknkcaaGreatProg
namespace Go.Proofs.YtchblgaklknkcaaGreat
open Go.RowKit
set_option linter.unusedVariables false
set_option linter.unusedSimpArgs false
set_option linter.unusedSectionVars false
set_option maxRecDepth 4000
theorem inf2 : Tryz.prog.info? 2 = some Tryz.t2 := by kernel_rfl
theorem inf9 : Tryz.prog.info? 9 = some Tryz.t9 := by kernel_rfl
theorem inf24 : Tryz.prog.info? 24 = some Tryz.t24 := by kernel_rfl
theorem inf99 : Tryz.prog.info? 99 = some Tryz.t99 := by kernel_rfl
theorem inf110 : Tryz.prog.info? 110 = some Tryz.t110 := by kernel_rfl
theorem elem2 : ElemOk Tryz.prog 24 2 1 8 := ⟨Tryz.underlying24, ⟨_, _, inf2, rfl, rfl, rfl, rfl⟩, by decide⟩
theorem elem110 : ElemOk Tryz.prog 27 110 4 40 := ⟨Tryz.underlying27, ⟨_, _, inf110, rfl, rfl, rfl, rfl⟩, by decide⟩
theorem elem9 : ElemOk Tryz.prog 28 9 1 16 := ⟨Tryz.underlying28, ⟨_, _, inf9, rfl, rfl, rfl, rfl⟩, by decide⟩
theorem elem99 : ElemOk Tryz.prog 35 99 3 32 := ⟨Tryz.underlying35, ⟨_, _, inf99, rfl, rfl, rfl, rfl⟩, by decide⟩
theorem elem24 : ElemOk Tryz.prog 36 24 1 24 := ⟨Tryz.underlying36, ⟨_, _, inf24, rfl, rfl, rfl, rfl⟩, by decide⟩
theorem fo26f0 : fieldOk Tryz.prog 26 0 0 := ⟨_, _, Tryz.underlying26, rfl, rfl, Tryz.t2, by kernel_rfl, by decide⟩
theorem fo26f1 : fieldOk Tryz.prog 26 1 1 := ⟨_, _, Tryz.underlying26, rfl, rfl, Tryz.t2, by kernel_rfl, by decide⟩
theorem fo26f2 : fieldOk Tryz.prog 26 2 2 := ⟨_, _, Tryz.underlying26, rfl, rfl, Tryz.t2, by kernel_rfl, by decide⟩
theorem fo26f3 : fieldOk Tryz.prog 26 3 3 := ⟨_, _, Tryz.underlying26, rfl, rfl, Tryz.t24, by kernel_rfl, by decide⟩
theorem fo26f4 : fieldOk Tryz.prog 26 4 4 := ⟨_, _, Tryz.underlying26, rfl, rfl, Tryz.t2, by kernel_rfl, by decide⟩
theorem fo26f5 : fieldOk Tryz.prog 26 5 5 := ⟨_, _, Tryz.underlying26, rfl, rfl, Tryz.t24, by kernel_rfl, by decide⟩
theorem fo26f6 : fieldOk Tryz.prog 26 6 6 := ⟨_, _, Tryz.underlying26, rfl, rfl, Tryz.t24, by kernel_rfl, by decide⟩
theorem fo26f7 : fieldOk Tryz.prog 26 7 7 := ⟨_, _, Tryz.underlying26, rfl, rfl, Tryz.t2, by kernel_rfl, by decide⟩
theorem fo26f8 : fieldOk Tryz.prog 26 8 8 := ⟨_, _, Tryz.underlying26, rfl, rfl, Tryz.t2, by kernel_rfl, by decide⟩
theorem fo32f0 : fieldOk Tryz.prog 32 0 0 := ⟨_, _, Tryz.underlying32, rfl, rfl, Tryz.t24, by kernel_rfl, by decide⟩
theorem fo32f1 : fieldOk Tryz.prog 32 1 1 := ⟨_, _, Tryz.underlying32, rfl, rfl, Tryz.t24, by kernel_rfl, by decide⟩
theorem fo32f2 : fieldOk Tryz.prog 32 2 2 := ⟨_, _, Tryz.underlying32, rfl, rfl, Tryz.t24, by kernel_rfl, by decide⟩
theorem fo38f0 : fieldOk Tryz.prog 38 0 0 := ⟨_, _, Tryz.underlying38, rfl, rfl, Tryz.t2, by kernel_rfl, by decide⟩
theorem fo38f1 : fieldOk Tryz.prog 38 1 1 := ⟨_, _, Tryz.underlying38, rfl, rfl, Tryz.t36, by kernel_rfl, by decide⟩
theorem fo79f0 : fieldOk Tryz.prog 79 0 0 := ⟨_, _, Tryz.underlying79, rfl, rfl, Tryz.t24, by kernel_rfl, by decide⟩
theorem fo79f1 : fieldOk Tryz.prog 79 1 1 := ⟨_, _, Tryz.underlying79, rfl, rfl, Tryz.t24, by kernel_rfl, by decide⟩
theorem fo79f2 : fieldOk Tryz.prog 79 2 2 := ⟨_, _, Tryz.underlying79, rfl, rfl, Tryz.t24, by kernel_rfl, by decide⟩
theorem fo81f0 : fieldOk Tryz.prog 81 0 0 := ⟨_, _, Tryz.underlying81, rfl, rfl, Tryz.t79, by kernel_rfl, by decide⟩
theorem fo81f1 : fieldOk Tryz.prog 81 1 3 := ⟨_, _, Tryz.underlying81, rfl, rfl, Tryz.t24, by kernel_rfl, by decide⟩
theorem fo81f2 : fieldOk Tryz.prog 81 2 4 := ⟨_, _, Tryz.underlying81, rfl, rfl, Tryz.t2, by kernel_rfl, by decide⟩
theorem fo81f3 : fieldOk Tryz.prog 81 3 5 := ⟨_, _, Tryz.underlying81, rfl, rfl, Tryz.t2, by kernel_rfl, by decide⟩
theorem fo93f0 : fieldOk Tryz.prog 93 0 0 := ⟨_, _, Tryz.underlying93, rfl, rfl, Tryz.t22, by kernel_rfl, by decide⟩
theorem fo93f1 : fieldOk Tryz.prog 93 1 1 := ⟨_, _, Tryz.underlying93, rfl, rfl, Tryz.t3, by kernel_rfl, by decide⟩
theorem fo93f2 : fieldOk Tryz.prog 93 2 2 := ⟨_, _, Tryz.underlying93, rfl, rfl, Tryz.t2, by kernel_rfl, by decide⟩
theorem fo99f0 : fieldOk Tryz.prog 99 0 0 := ⟨_, _, Tryz.underlying99, rfl, rfl, Tryz.t9, by kernel_rfl, by decide⟩
theorem fo99f1 : fieldOk Tryz.prog 99 1 1 := ⟨_, _, Tryz.underlying99, rfl, rfl, Tryz.t2, by kernel_rfl, by decide⟩
theorem fo99f2 : fieldOk Tryz.prog 99 2 2 := ⟨_, _, Tryz.underlying99, rfl, rfl, Tryz.t2, by kernel_rfl, by decide⟩
theorem fo110f0 : fieldOk Tryz.prog 110 0 0 := ⟨_, _, Tryz.underlying110, rfl, rfl, Tryz.t2, by kernel_rfl, by decide⟩
theorem fo110f1 : fieldOk Tryz.prog 110 1 1 := ⟨_, _, Tryz.underlying110, rfl, rfl, Tryz.t9, by kernel_rfl, by decide⟩
theorem fo110f2 : fieldOk Tryz.prog 110 2 2 := ⟨_, _, Tryz.underlying110, rfl, rfl, Tryz.t2, by kernel_rfl, by decide⟩
theorem fo110f3 : fieldOk Tryz.prog 110 3 3 := ⟨_, _, Tryz.underlying110, rfl, rfl, Tryz.t4, by kernel_rfl, by decide⟩
def inR (lo hi n : Int) : Bool := decide (lo ≤ n) && decide (n ≤ hi)
theorem inR_iff {lo hi n : Int} : inR lo hi n = true ↔ lo ≤ n ∧ n ≤ hi := by simp [inR]
def allB (n : Nat) (p : Nat → Bool) : Bool := (List.range n).all p
theorem allB_iff {n : Nat} {p : Nat → Bool} : allB n p = true ↔ ∀ i, i < n → p i = true := by simp [allB]
theorem allB_succ {n : Nat} {p : Nat → Bool} (h : allB n p = true) (h1 : p n = true) : allB (n + 1) p = true := by
 rw [allB_iff] at *
 intro i hi
 rcases Nat.lt_succ_iff_lt_or_eq.1 hi with h2 | h2
 · exact h i h2
 · rw [h2]; exact h1
theorem allB_zero {p : Nat → Bool} : allB 0 p = true := rfl
theorem allB_false {n i : Nat} {p : Nat → Bool} (hi : i < n) (h : p i = false) : allB n p = false := by
 rw [Bool.eq_false_iff]
 intro hc
 rw [allB_iff] at hc
 rw [hc i hi] at h
 cases h
def eqAt {α : Type} (f : α → α → Bool) (xs ys : List α) (i : Nat) : Bool := match xs[i]?, ys[i]? with
  | some x, some y => f x y
  | _, _ => false
theorem eqAt_of {α : Type} {f : α → α → Bool} {xs ys : List α} {i : Nat} (h1 : i < xs.length) (h2 : i < ys.length) : eqAt f xs ys i = f xs[i] ys[i] := by
 simp [eqAt, h1, h2]
def eqL {α : Type} (f : α → α → Bool) (xs ys : List α) : Bool := decide (xs.length = ys.length) && allB xs.length (fun i => eqAt f xs ys i)
theorem eqL_ne {α : Type} {f : α → α → Bool} {xs ys : List α} (h : xs.length ≠ ys.length) : eqL f xs ys = false := by simp [eqL, h]
theorem eqL_eq {α : Type} {f : α → α → Bool} {xs ys : List α} (h : xs.length = ys.length) (h2 : allB xs.length (fun i => eqAt f xs ys i) = true) : eqL f xs ys = true := by
 simp only [eqL, h2, Bool.and_true]; exact decide_eq_true h
theorem eqL_at {α : Type} {f : α → α → Bool} {xs ys : List α} {i : Nat} (h1 : i < xs.length) (h2 : i < ys.length) (h : f xs[i] ys[i] = false) : eqL f xs ys = false := by
 simp only [eqL, Bool.and_eq_false_iff]
 exact .inr (allB_false h1 (by rw [eqAt_of h1 h2]; exact h))
def allI {α : Type} (p : Nat → α → Bool) (xs : List α) (i : Nat) : Bool := match xs[i]? with
  | some x => p i x
  | none => false
theorem allI_of {α : Type} {p : Nat → α → Bool} {xs : List α} {i : Nat} (h : i < xs.length) : allI p xs i = p i xs[i] := by simp [allI, h]
def isWord (s : ByteArray) : Bool := allB s.size (fun i => decide (97 ≤ bAt s i) && decide (bAt s i ≤ 122)) && inR 1 16 s.size
set_option maxHeartbeats 400000 in
theorem within_ok (n lo hi : Int) (w : World) : Ret Tryz.prog 65 [.int .i64 n, .int .i64 lo, .int .i64 hi] w (Ps w (.bool (inR lo hi n))) := by
 refine ret_of_run (N := 15) Tryz.func65 rfl rfl rfl ?_
 have E : Ext w w := Ext.refl w
 refine sr_ ?_
 refine vn_ rfl rfl rfl ?_
 refine sr_ ?_
 refine vm_ rfl rfl rfl ?_
 refine vm_ rfl rfl rfl ?_
 refine oz_ (xleq rfl rfl _ rfl) rfl rfl ?_
 refine ods (fun c9 => ?_) (fun c9 => ?_)
 ·
  refine vm_ rfl rfl rfl ?_
  refine vm_ rfl rfl rfl ?_
  refine vm_ rfl rfl rfl ?_
  refine oz_ (xleq rfl rfl _ rfl) rfl rfl ?_
  refine oz_ (xpick_t rfl rfl) rfl rfl ?_
  refine vn_ rfl rfl rfl ?_
  refine run_ret Tryz.func65 (res1 rfl rfl) ?_
  exact ⟨_, rfl, by simp [inR, c9], rfl⟩
 refine vm_ rfl rfl rfl ?_
 refine o2_ rfl rfl rfl rfl ?_
 refine og rfl rfl rfl ?_
 refine oz_ (xpick_f rfl rfl) rfl rfl ?_
 refine vn_ rfl rfl rfl ?_
 refine run_ret Tryz.func65 (res1 rfl rfl) ?_
 exact ⟨_, rfl, by simp [inR, c9], rfl⟩
set_option maxHeartbeats 400000 in
theorem l01In_ok (n lo hi : Int) (w : World) : Ret Tryz.prog 68 [.int .i64 n, .int .i64 lo, .int .i64 hi] w (Ps w (.bool (inR lo hi n))) := by
 refine ret_of_run (N := 15) Tryz.func68 rfl rfl rfl ?_
 have E : Ext w w := Ext.refl w
 refine sr_ ?_
 refine vn_ rfl rfl rfl ?_
 refine sr_ ?_
 refine vm_ rfl rfl rfl ?_
 refine vm_ rfl rfl rfl ?_
 refine oz_ (xgeq rfl rfl _ rfl) rfl rfl ?_
 refine ods (fun c9 => ?_) (fun c9 => ?_)
 ·
  refine vm_ rfl rfl rfl ?_
  refine vm_ rfl rfl rfl ?_
  refine vm_ rfl rfl rfl ?_
  refine oz_ (xleq rfl rfl _ rfl) rfl rfl ?_
  refine oz_ (xpick_t rfl rfl) rfl rfl ?_
  refine vn_ rfl rfl rfl ?_
  refine run_ret Tryz.func68 (res1 rfl rfl) ?_
  exact ⟨_, rfl, by simp [inR, c9], rfl⟩
 refine vm_ rfl rfl rfl ?_
 refine o2_ rfl rfl rfl rfl ?_
 refine og rfl rfl rfl ?_
 refine oz_ (xpick_f rfl rfl) rfl rfl ?_
 refine vn_ rfl rfl rfl ?_
 refine run_ret Tryz.func68 (res1 rfl rfl) ?_
 exact ⟨_, rfl, by simp [inR, c9], rfl⟩
set_option maxHeartbeats 400000 in
theorem few_ok (n m : Int) (w : World) : Ret Tryz.prog 43 [.int .i64 n, .int .i64 m] w (Ps w (.bool (decide (n ≤ m)))) := by
 refine ret_of_run (N := 8) Tryz.func43 rfl rfl rfl ?_
 have E : Ext w w := Ext.refl w
 refine sr_ ?_
 refine vn_ rfl rfl rfl ?_
 refine sr_ ?_
 refine vm_ rfl rfl rfl ?_
 refine vm_ rfl rfl rfl ?_
 refine oz_ (xleq rfl rfl _ rfl) rfl rfl ?_
 refine vn_ rfl rfl rfl ?_
 refine run_ret Tryz.func43 (res1 rfl rfl) ?_
 exact ⟨_, rfl, rfl, rfl⟩
set_option maxHeartbeats 400000 in
theorem isNumber_ok (n : Int) (w : World) : Ret Tryz.prog 86 [.int .i64 n] w (Ps w (.bool (inR 1 1000000 n))) := by
 refine ret_of_run (N := 5) Tryz.func86 rfl rfl rfl ?_
 have E : Ext w w := Ext.refl w
 refine sr_ ?_
 refine vn_ rfl rfl rfl ?_
 refine sr_ ?_
 refine vm_ rfl rfl rfl ?_
 refine oc (xcall Tryz.call65 rfl) rfl rfl rfl (within_ok (n) (1) (1000000) _) ?_
 rintro _ w_ ⟨rfl, hw_⟩
 replace hw_ := hw_.symm
 subst hw_
 refine vn_ rfl rfl rfl ?_
 refine run_ret Tryz.func86 (res1 rfl rfl) ?_
 exact ⟨_, rfl, rfl, rfl⟩
set_option maxHeartbeats 400000 in
theorem IsWord_ok (s : ByteArray) (w : World) (hs : s.size ≤ 9223372036854775807) : Ret Tryz.prog 73 [.string s] w (Ps w (.bool (isWord s))) := by
 refine ret_of_run (N := 23) Tryz.func73 rfl rfl rfl ?_
 have E : Ext w w := Ext.refl w
 refine sr_ ?_
 refine vn_ rfl rfl rfl ?_
 refine run_seq ?_
 refine sr_ ?_
 refine vn_ rfl rfl rfl ?_
 refine run_block ?_
 refine run_loop (ι := Nat) (fun k => (k ≤ s.size) ∧ (allB k (fun i => decide (97 ≤ bAt s i) && decide (bAt s i ≤ 122)) = true)) (fun k => [(0, .string s), (3, .int .i64 (k : Int))]) (fun k => w) (fun k => s.size - k) ?_ 0 (⟨by omega, allB_zero⟩) ⟨rfl, rfl, trivial⟩ rfl
 intro k hI_ hback2
 obtain ⟨hk, ha⟩ := hI_
 try dsimp only
 have hb := bAt_lt s k
 refine run_seq ?_
 refine sr_ ?_
 refine vm_ rfl rfl rfl ?_
 refine vm_ rfl rfl rfl ?_
 refine oz_ (xlens Tryz.underlying9 rfl) rfl rfl ?_
 refine oz_ (xlss rfl rfl _ rfl) rfl rfl ?_
 refine ods (fun c7 => ?_) (fun c7 => ?_)
 rotate_left
 ·
  refine cg_ rfl ?_
  refine run_exit rfl ?_
  refine sr_ ?_
  refine vm_ rfl rfl rfl ?_
  refine oz_ (xlens Tryz.underlying9 rfl) rfl rfl ?_
  refine oc (xcall Tryz.call65 rfl) rfl rfl rfl (within_ok ((s.size : Int)) (1) (16) _) ?_
  rintro _ w_ ⟨rfl, hw_⟩
  replace hw_ := hw_.symm
  subst hw_
  refine vn_ rfl rfl rfl ?_
  refine run_ret Tryz.func73 (res1 rfl rfl) ?_
  obtain rfl : k = s.size := by omega
  exact ⟨_, rfl, by rw [isWord, ha]; rfl, rfl⟩
 refine ct_ rfl ?_
 refine run_skip ?_
 refine run_seq ?_
 refine run_block ?_
 refine sr_ ?_
 refine vm_ rfl rfl rfl ?_
 refine vm_ rfl rfl rfl ?_
 refine oz_ (xindexS (i := k) Tryz.underlying9 rfl rfl rfl (by omega)) rfl rfl ?_
 refine oz_ (xlss rfl rfl _ rfl) rfl rfl ?_
 refine ods (fun c13 => ?_) (fun c13 => ?_)
 ·
  refine vm_ rfl rfl rfl ?_
  refine o2_ rfl rfl rfl rfl ?_
  refine o2_ rfl rfl rfl rfl ?_
  refine oz_ (xpick_t rfl rfl) rfl rfl ?_
  refine ct_ rfl ?_
  refine sr_ ?_
  refine vn_ rfl rfl rfl ?_
  refine run_ret Tryz.func73 (res1 rfl rfl) ?_
  exact ⟨_, rfl, by rw [isWord, allB_false (i := k) (by omega) (by rw [Bool.and_eq_false_iff, decide_eq_false_iff_not, decide_eq_false_iff_not]; omega)]; rfl, rfl⟩
 refine vm_ rfl rfl rfl ?_
 refine vm_ rfl rfl rfl ?_
 refine vm_ rfl rfl rfl ?_
 refine oz_ (xindexS (i := k) Tryz.underlying9 rfl rfl rfl (by omega)) rfl rfl ?_
 refine oz_ (xgtr rfl rfl _ rfl) rfl rfl ?_
 refine ods (fun c18 => ?_) (fun c18 => ?_)
 ·
  refine oz_ (xpick_f rfl rfl) rfl rfl ?_
  refine ct_ rfl ?_
  refine sr_ ?_
  refine vn_ rfl rfl rfl ?_
  refine run_ret Tryz.func73 (res1 rfl rfl) ?_
  exact ⟨_, rfl, by rw [isWord, allB_false (i := k) (by omega) (by rw [Bool.and_eq_false_iff, decide_eq_false_iff_not, decide_eq_false_iff_not]; omega)]; rfl, rfl⟩
 refine oz_ (xpick_f rfl rfl) rfl rfl ?_
 refine cf_ rfl ?_
 refine run_inBlock ?_
 refine run_region ?_
 refine vm_ rfl rfl rfl ?_
 refine oz_ (xadd rfl rfl (by unfold I64; omega)) rfl rfl ?_
 refine vn_ rfl rfl rfl ?_
 refine run_sub ?_ (hback2 (k + 1) (⟨by omega, allB_succ ha (by simp only [Bool.and_eq_true, decide_eq_true_eq]; omega)⟩) (by first | omega | (dsimp only; omega)))
 exact ⟨rfl, rfl, trivial⟩
set_option maxHeartbeats 400000 in
theorem sIsWord_ok (s : ByteArray) (w : World) (hs : s.size ≤ 9223372036854775807) : Ret Tryz.prog 107 [.string s] w (Ps w (.bool (isWord s))) := by
 refine ret_of_run (N := 23) Tryz.func107 rfl rfl rfl ?_
 have E : Ext w w := Ext.refl w
 refine sr_ ?_
 refine vn_ rfl rfl rfl ?_
 refine run_seq ?_
 refine sr_ ?_
 refine vn_ rfl rfl rfl ?_
 refine run_block ?_
 refine run_loop (ι := Nat) (fun k => (k ≤ s.size) ∧ (allB k (fun i => decide (97 ≤ bAt s i) && decide (bAt s i ≤ 122)) = true)) (fun k => [(0, .string s), (3, .int .i64 (k : Int))]) (fun k => w) (fun k => s.size - k) ?_ 0 (⟨by omega, allB_zero⟩) ⟨rfl, rfl, trivial⟩ rfl
 intro k hI_ hback2
 obtain ⟨hk, ha⟩ := hI_
 try dsimp only
 have hb := bAt_lt s k
 refine run_seq ?_
 refine sr_ ?_
 refine vm_ rfl rfl rfl ?_
 refine vm_ rfl rfl rfl ?_
 refine oz_ (xlens Tryz.underlying9 rfl) rfl rfl ?_
 refine oz_ (xlss rfl rfl _ rfl) rfl rfl ?_
 refine ods (fun c7 => ?_) (fun c7 => ?_)
 rotate_left
 ·
  refine cg_ rfl ?_
  refine run_exit rfl ?_
  refine sr_ ?_
  refine vm_ rfl rfl rfl ?_
  refine oz_ (xlens Tryz.underlying9 rfl) rfl rfl ?_
  refine oc (xcall Tryz.call68 rfl) rfl rfl rfl (l01In_ok ((s.size : Int)) (1) (16) _) ?_
  rintro _ w_ ⟨rfl, hw_⟩
  replace hw_ := hw_.symm
  subst hw_
  refine vn_ rfl rfl rfl ?_
  refine run_ret Tryz.func107 (res1 rfl rfl) ?_
  obtain rfl : k = s.size := by omega
  exact ⟨_, rfl, by rw [isWord, ha]; rfl, rfl⟩
 refine ct_ rfl ?_
 refine run_skip ?_
 refine run_seq ?_
 refine run_block ?_
 refine sr_ ?_
 refine vm_ rfl rfl rfl ?_
 refine vm_ rfl rfl rfl ?_
 refine oz_ (xindexS (i := k) Tryz.underlying9 rfl rfl rfl (by omega)) rfl rfl ?_
 refine oz_ (xlss rfl rfl _ rfl) rfl rfl ?_
 refine ods (fun c13 => ?_) (fun c13 => ?_)
 ·
  refine vm_ rfl rfl rfl ?_
  refine o2_ rfl rfl rfl rfl ?_
  refine o2_ rfl rfl rfl rfl ?_
  refine oz_ (xpick_t rfl rfl) rfl rfl ?_
  refine ct_ rfl ?_
  refine sr_ ?_
  refine vn_ rfl rfl rfl ?_
  refine run_ret Tryz.func107 (res1 rfl rfl) ?_
  exact ⟨_, rfl, by rw [isWord, allB_false (i := k) (by omega) (by rw [Bool.and_eq_false_iff, decide_eq_false_iff_not, decide_eq_false_iff_not]; omega)]; rfl, rfl⟩
 refine vm_ rfl rfl rfl ?_
 refine vm_ rfl rfl rfl ?_
 refine vm_ rfl rfl rfl ?_
 refine oz_ (xindexS (i := k) Tryz.underlying9 rfl rfl rfl (by omega)) rfl rfl ?_
 refine oz_ (xgtr rfl rfl _ rfl) rfl rfl ?_
 refine ods (fun c18 => ?_) (fun c18 => ?_)
 ·
  refine oz_ (xpick_f rfl rfl) rfl rfl ?_
  refine ct_ rfl ?_
  refine sr_ ?_
  refine vn_ rfl rfl rfl ?_
  refine run_ret Tryz.func107 (res1 rfl rfl) ?_
  exact ⟨_, rfl, by rw [isWord, allB_false (i := k) (by omega) (by rw [Bool.and_eq_false_iff, decide_eq_false_iff_not, decide_eq_false_iff_not]; omega)]; rfl, rfl⟩
 refine oz_ (xpick_f rfl rfl) rfl rfl ?_
 refine cf_ rfl ?_
 refine run_inBlock ?_
 refine run_region ?_
 refine vm_ rfl rfl rfl ?_
 refine oz_ (xadd rfl rfl (by unfold I64; omega)) rfl rfl ?_
 refine vn_ rfl rfl rfl ?_
 refine run_sub ?_ (hback2 (k + 1) (⟨by omega, allB_succ ha (by simp only [Bool.and_eq_true, decide_eq_true_eq]; omega)⟩) (by first | omega | (dsimp only; omega)))
 exact ⟨rfl, rfl, trivial⟩
end Go.Proofs.YtchblgaklknkcaaGreat
