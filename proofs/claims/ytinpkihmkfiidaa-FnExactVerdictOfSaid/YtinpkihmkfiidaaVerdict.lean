/-
  The verdict of answers. No condition beyond those written in each theorem.
-/
import Derived.Test.YtinpkihmkfiidaaWay
namespace Go.Proofs.Ytinpkihmkfiidaa
open Go.RowKit
set_option linter.unusedVariables false
set_option linter.unusedSimpArgs false
set_option linter.unusedSectionVars false
set_option maxRecDepth 4000

theorem formCode_zero {xs : List Question} {az : List Int} (h : formCode xs az = 0) : isForm xs = true ∧ areAns xs az = true := by
  unfold formCode at h
  split at h
  · cases h
  · rename_i h1
    split at h
    · cases h
    · rename_i h2; exact ⟨by simpa using h1, by simpa using h2⟩
def verdictOf (xs : List Question) (az : List Int) : Int × Int := if formCode xs az ≠ 0 then (0, formCode xs az) else if (wayF xs az).2 = 0 then (0, 5) else ((wayF xs az).2, 0)
def wayOf (xs : List Question) (az : List Int) : List Int × Int := if formCode xs az ≠ 0 then ([], formCode xs az) else ((wayF xs az).1, 0)
theorem wayOf_len (xs : List Question) (az : List Int) : (wayOf xs az).1.length ≤ 10 := by
  unfold wayOf
  split
  · simp
  · rename_i h
    have h1 := isForm_len (formCode_zero (by omega : formCode xs az = 0)).1
    have h2 := wayG_ge xs az xs.length 0
    simp only [wayF]; omega

set_option maxHeartbeats 400000 in
theorem VerdictOf_ok (p : Option Addr) (n c : Nat) (xs : List Question) (p2 : Option Addr) (n2 c2 : Nat) (az : List Int) (w : World) (H : Sl Question.cells 3 w p n c xs) (hx : ∀ x ∈ xs, x.Label.size ≤ 9223372036854775807) (K : Sl i64c 1 w p2 n2 c2 az) : Ret Try.prog 34 [.slice p n c, .slice p2 n2 c2] w (Pv w (.tuple #[.int .i64 (verdictOf xs az).1, .int .i64 (verdictOf xs az).2])) := by
  refine ret_of_run (N := 24) Try.func34 rfl rfl rfl ?_
  have hn := H.len
  have hn6 := H.n64
  have hn2 := K.len
  have hk6 := K.n64
  have E : Ext w w := Ext.refl w
  refine run_seq ?_
  refine run_region ?_
  refine ov (xassign rfl) rfl rfl rfl ?_
  refine ov (xassign rfl) rfl rfl rfl ?_
  refine ops_nil ?_
  refine run_seq ?_
  refine run_seq ?_
  refine run_region ?_
  refine ov (xmove rfl) rfl rfl rfl ?_
  refine ov (xmove rfl) rfl rfl rfl ?_
  refine oc (xcall Try.call100 rfl) rfl rfl rfl (formCode_ok _ _ _ _ _ _ _ _ _ (H.ext E) (by assumption) (K.ext E)) ?_
  rintro _ w1 ⟨rfl, e1⟩
  have z1 := e1.size
  have E := E.trans e1
  refine ov (xassign rfl) rfl rfl rfl ?_
  refine ops_nil ?_
  refine run_seq ?_
  refine run_region ?_
  refine ov (xmove rfl) rfl rfl rfl ?_
  refine ov (xneq rfl rfl _ rfl) rfl rfl rfl ?_
  refine ods (fun c13 => ?_) (fun c13 => ?_)
  ·
    refine ops_nil ?_
    refine run_cond_t rfl ?_
    refine run_seq ?_
    refine run_region ?_
    refine ov (xmove rfl) rfl rfl rfl ?_
    refine ov (xassign rfl) rfl rfl rfl ?_
    refine ov (xassign rfl) rfl rfl rfl ?_
    refine ops_nil ?_
    refine run_ret Try.func34 (res2 rfl rfl rfl) ?_
    have he : verdictOf xs az = (0, (formCode xs az)) := by unfold verdictOf; (repeat' split) <;> first | rfl | (exfalso; omega) | (exfalso; simp_all; done)
    exact ⟨_, rfl, by rw [he], E⟩
  ·
    refine ops_nil ?_
    refine run_cond_f rfl ?_
    refine run_skip ?_
    refine run_seq ?_
    refine run_region ?_
    refine ov (xmove rfl) rfl rfl rfl ?_
    refine ov (xmove rfl) rfl rfl rfl ?_
    obtain ⟨hf, hA⟩ := formCode_zero (by omega : formCode xs az = 0)
    refine oc (xcall Try.call101 rfl) rfl rfl rfl (wayOf_ok _ _ _ _ _ _ _ _ _ (H.ext E) (by assumption) (K.ext E) (by assumption) (by assumption)) ?_
    rintro _ w2 ⟨e2, q18, m18, d18, rfl, G18⟩
    have z2 := e2.size
    have E := E.trans e2
    refine ov (xmove rfl) rfl rfl rfl ?_
    refine ov (xextract rfl rfl) rfl rfl rfl ?_
    refine ov (xextract rfl rfl) rfl rfl rfl ?_
    refine ov (xassign rfl) rfl rfl rfl ?_
    refine ov (xassign rfl) rfl rfl rfl ?_
    refine ops_nil ?_
    refine run_seq ?_
    refine run_seq ?_
    refine run_region ?_
    refine ov (xmove rfl) rfl rfl rfl ?_
    refine ov (xeql rfl rfl _ rfl) rfl rfl rfl ?_
    refine ods (fun c22 => ?_) (fun c22 => ?_)
    ·
      refine ops_nil ?_
      refine run_cond_t rfl ?_
      refine run_seq ?_
      refine run_region ?_
      refine ov (xassign rfl) rfl rfl rfl ?_
      refine ov (xassign rfl) rfl rfl rfl ?_
      refine ops_nil ?_
      refine run_ret Try.func34 (res2 rfl rfl rfl) ?_
      have he : verdictOf xs az = (0, 5) := by unfold verdictOf; (repeat' split) <;> first | rfl | (exfalso; omega) | (exfalso; simp_all; done)
      exact ⟨_, rfl, by rw [he], E⟩
    ·
      refine ops_nil ?_
      refine run_cond_f rfl ?_
      refine run_skip ?_
      refine run_seq ?_
      refine run_region ?_
      refine ov (xmove rfl) rfl rfl rfl ?_
      refine ov (xassign rfl) rfl rfl rfl ?_
      refine ov (xassign rfl) rfl rfl rfl ?_
      refine ops_nil ?_
      refine run_ret Try.func34 (res2 rfl rfl rfl) ?_
      have he : verdictOf xs az = ((wayF xs az).2, 0) := by unfold verdictOf; (repeat' split) <;> first | rfl | (exfalso; omega) | (exfalso; simp_all; done)
      exact ⟨_, rfl, by rw [he], E⟩

set_option maxHeartbeats 400000 in
theorem sVerdictOf_ok (p : Option Addr) (n c : Nat) (xs : List Question) (p2 : Option Addr) (n2 c2 : Nat) (az : List Int) (w : World) (H : Sl Question.cells 3 w p n c xs) (hx : ∀ x ∈ xs, x.Label.size ≤ 9223372036854775807) (K : Sl i64c 1 w p2 n2 c2 az) : Ret Try.prog 32 [.slice p n c, .slice p2 n2 c2] w (Pv w (.tuple #[.int .i64 (verdictOf xs az).1, .int .i64 (verdictOf xs az).2])) := by
  refine ret_of_run (N := 24) Try.func32 rfl rfl rfl ?_
  have hn := H.len
  have hn6 := H.n64
  have hn2 := K.len
  have hk6 := K.n64
  have E : Ext w w := Ext.refl w
  refine run_seq ?_
  refine run_region ?_
  refine ov (xassign rfl) rfl rfl rfl ?_
  refine ov (xassign rfl) rfl rfl rfl ?_
  refine ops_nil ?_
  refine run_seq ?_
  refine run_region ?_
  refine ov (xmove rfl) rfl rfl rfl ?_
  refine ov (xmove rfl) rfl rfl rfl ?_
  refine oc (xcall Try.call98 rfl) rfl rfl rfl (l26Code_ok _ _ _ _ _ _ _ _ _ (H.ext E) (by assumption) (K.ext E)) ?_
  rintro _ w1 ⟨rfl, e1⟩
  have z1 := e1.size
  have E := E.trans e1
  refine ov (xassign rfl) rfl rfl rfl ?_
  refine ops_nil ?_
  refine run_seq ?_
  refine run_seq ?_
  refine run_region ?_
  refine ov (xmove rfl) rfl rfl rfl ?_
  refine ov (xneq rfl rfl _ rfl) rfl rfl rfl ?_
  refine ods (fun c13 => ?_) (fun c13 => ?_)
  ·
    refine ops_nil ?_
    refine run_cond_t rfl ?_
    refine run_seq ?_
    refine run_region ?_
    refine ov (xmove rfl) rfl rfl rfl ?_
    refine ov (xassign rfl) rfl rfl rfl ?_
    refine ov (xassign rfl) rfl rfl rfl ?_
    refine ops_nil ?_
    refine run_ret Try.func32 (res2 rfl rfl rfl) ?_
    have he : verdictOf xs az = (0, (formCode xs az)) := by unfold verdictOf; (repeat' split) <;> first | rfl | (exfalso; omega) | (exfalso; simp_all; done)
    exact ⟨_, rfl, by rw [he], E⟩
  ·
    refine ops_nil ?_
    refine run_cond_f rfl ?_
    refine run_skip ?_
    refine run_seq ?_
    refine run_region ?_
    refine ov (xmove rfl) rfl rfl rfl ?_
    refine ov (xmove rfl) rfl rfl rfl ?_
    obtain ⟨hf, hA⟩ := formCode_zero (by omega : formCode xs az = 0)
    refine oc (xcall Try.call99 rfl) rfl rfl rfl (l26Way_ok _ _ _ _ _ _ _ _ _ (H.ext E) (by assumption) (K.ext E) (by assumption) (by assumption)) ?_
    rintro _ w2 ⟨e2, q18, m18, d18, rfl, G18⟩
    have z2 := e2.size
    have E := E.trans e2
    refine ov (xmove rfl) rfl rfl rfl ?_
    refine ov (xextract rfl rfl) rfl rfl rfl ?_
    refine ov (xextract rfl rfl) rfl rfl rfl ?_
    refine ov (xassign rfl) rfl rfl rfl ?_
    refine ov (xassign rfl) rfl rfl rfl ?_
    refine ops_nil ?_
    refine run_seq ?_
    refine run_seq ?_
    refine run_region ?_
    refine ov (xmove rfl) rfl rfl rfl ?_
    refine ov (xeql rfl rfl _ rfl) rfl rfl rfl ?_
    refine ods (fun c22 => ?_) (fun c22 => ?_)
    ·
      refine ops_nil ?_
      refine run_cond_t rfl ?_
      refine run_seq ?_
      refine run_region ?_
      refine ov (xassign rfl) rfl rfl rfl ?_
      refine ov (xassign rfl) rfl rfl rfl ?_
      refine ops_nil ?_
      refine run_ret Try.func32 (res2 rfl rfl rfl) ?_
      have he : verdictOf xs az = (0, 5) := by unfold verdictOf; (repeat' split) <;> first | rfl | (exfalso; omega) | (exfalso; simp_all; done)
      exact ⟨_, rfl, by rw [he], E⟩
    ·
      refine ops_nil ?_
      refine run_cond_f rfl ?_
      refine run_skip ?_
      refine run_seq ?_
      refine run_region ?_
      refine ov (xmove rfl) rfl rfl rfl ?_
      refine ov (xassign rfl) rfl rfl rfl ?_
      refine ov (xassign rfl) rfl rfl rfl ?_
      refine ops_nil ?_
      refine run_ret Try.func32 (res2 rfl rfl rfl) ?_
      have he : verdictOf xs az = ((wayF xs az).2, 0) := by unfold verdictOf; (repeat' split) <;> first | rfl | (exfalso; omega) | (exfalso; simp_all; done)
      exact ⟨_, rfl, by rw [he], E⟩

set_option maxHeartbeats 400000 in
theorem WayOf_ok (p : Option Addr) (n c : Nat) (xs : List Question) (p2 : Option Addr) (n2 c2 : Nat) (az : List Int) (w : World) (H : Sl Question.cells 3 w p n c xs) (hx : ∀ x ∈ xs, x.Label.size ≤ 9223372036854775807) (K : Sl i64c 1 w p2 n2 c2 az) : Ret Try.prog 42 [.slice p n c, .slice p2 n2 c2] w (fun v w' => Ext w w' ∧ ∃ q m d, v = .tuple #[.slice q m d, .int .i64 (wayOf xs az).2] ∧ Ow i64c 1 2 w' w.heap.size w'.heap.size q m d (wayOf xs az).1) := by
  refine ret_of_run (N := 22) Try.func42 rfl rfl rfl ?_
  have hn := H.len
  have hn6 := H.n64
  have hn2 := K.len
  have hk6 := K.n64
  have E : Ext w w := Ext.refl w
  refine run_seq ?_
  refine run_region ?_
  refine ov (xassign rfl) rfl rfl rfl ?_
  refine ov (xassign rfl) rfl rfl rfl ?_
  refine ops_nil ?_
  refine run_seq ?_
  refine run_seq ?_
  refine run_region ?_
  refine ov (xmove rfl) rfl rfl rfl ?_
  refine ov (xmove rfl) rfl rfl rfl ?_
  refine oc (xcall Try.call100 rfl) rfl rfl rfl (formCode_ok _ _ _ _ _ _ _ _ _ (H.ext E) (by assumption) (K.ext E)) ?_
  rintro _ w1 ⟨rfl, e1⟩
  have z1 := e1.size
  have E := E.trans e1
  refine ov (xassign rfl) rfl rfl rfl ?_
  refine ops_nil ?_
  refine run_seq ?_
  refine run_region ?_
  refine ov (xmove rfl) rfl rfl rfl ?_
  refine ov (xneq rfl rfl _ rfl) rfl rfl rfl ?_
  refine ods (fun c13 => ?_) (fun c13 => ?_)
  ·
    refine ops_nil ?_
    refine run_cond_t rfl ?_
    refine run_seq ?_
    refine run_region ?_
    refine ov (xmove rfl) rfl rfl rfl ?_
    refine ov (xassign rfl) rfl rfl rfl ?_
    refine ov (xassign rfl) rfl rfl rfl ?_
    refine ops_nil ?_
    refine run_ret Try.func42 (res2 rfl rfl rfl) ?_
    have he : wayOf xs az = ([], (formCode xs az)) := by unfold wayOf; (repeat' split) <;> first | rfl | (exfalso; omega)
    exact ⟨_, rfl, E, none, 0, 0, by rw [he], by rw [he]; exact Ow.none _ _ _ _ _ _⟩
  ·
    refine ops_nil ?_
    refine run_cond_f rfl ?_
    refine run_skip ?_
    refine run_seq ?_
    refine run_region ?_
    refine ov (xmove rfl) rfl rfl rfl ?_
    refine ov (xmove rfl) rfl rfl rfl ?_
    obtain ⟨hf, hA⟩ := formCode_zero (by omega : formCode xs az = 0)
    refine oc (xcall Try.call101 rfl) rfl rfl rfl (wayOf_ok _ _ _ _ _ _ _ _ _ (H.ext E) (by assumption) (K.ext E) (by assumption) (by assumption)) ?_
    rintro _ w2 ⟨e2, q18, m18, d18, rfl, G18⟩
    have z2 := e2.size
    have E := E.trans e2
    refine ov (xmove rfl) rfl rfl rfl ?_
    refine ov (xextract rfl rfl) rfl rfl rfl ?_
    refine ov (xextract rfl rfl) rfl rfl rfl ?_
    refine ov (xassign rfl) rfl rfl rfl ?_
    refine ov (xassign rfl) rfl rfl rfl ?_
    refine ops_nil ?_
    refine run_seq ?_
    refine run_region ?_
    refine ov (xmove rfl) rfl rfl rfl ?_
    refine ov (xassign rfl) rfl rfl rfl ?_
    refine ov (xassign rfl) rfl rfl rfl ?_
    refine ops_nil ?_
    refine run_ret Try.func42 (res2 rfl rfl rfl) ?_
    have he : wayOf xs az = ((wayF xs az).1, 0) := by unfold wayOf; (repeat' split) <;> first | rfl | (exfalso; omega)
    exact ⟨_, rfl, E, _, _, _, by rw [he], by rw [he]; exact G18.wide (by omega) (by omega)⟩

set_option maxHeartbeats 400000 in
theorem sWayOf_ok (p : Option Addr) (n c : Nat) (xs : List Question) (p2 : Option Addr) (n2 c2 : Nat) (az : List Int) (w : World) (H : Sl Question.cells 3 w p n c xs) (hx : ∀ x ∈ xs, x.Label.size ≤ 9223372036854775807) (K : Sl i64c 1 w p2 n2 c2 az) : Ret Try.prog 41 [.slice p n c, .slice p2 n2 c2] w (fun v w' => Ext w w' ∧ ∃ q m d, v = .tuple #[.slice q m d, .int .i64 (wayOf xs az).2] ∧ Ow i64c 1 2 w' w.heap.size w'.heap.size q m d (wayOf xs az).1) := by
  refine ret_of_run (N := 22) Try.func41 rfl rfl rfl ?_
  have hn := H.len
  have hn6 := H.n64
  have hn2 := K.len
  have hk6 := K.n64
  have E : Ext w w := Ext.refl w
  refine run_seq ?_
  refine run_region ?_
  refine ov (xassign rfl) rfl rfl rfl ?_
  refine ov (xassign rfl) rfl rfl rfl ?_
  refine ops_nil ?_
  refine run_seq ?_
  refine run_region ?_
  refine ov (xmove rfl) rfl rfl rfl ?_
  refine ov (xmove rfl) rfl rfl rfl ?_
  refine oc (xcall Try.call98 rfl) rfl rfl rfl (l26Code_ok _ _ _ _ _ _ _ _ _ (H.ext E) (by assumption) (K.ext E)) ?_
  rintro _ w1 ⟨rfl, e1⟩
  have z1 := e1.size
  have E := E.trans e1
  refine ov (xassign rfl) rfl rfl rfl ?_
  refine ops_nil ?_
  refine run_seq ?_
  refine run_seq ?_
  refine run_region ?_
  refine ov (xmove rfl) rfl rfl rfl ?_
  refine ov (xneq rfl rfl _ rfl) rfl rfl rfl ?_
  refine ods (fun c13 => ?_) (fun c13 => ?_)
  ·
    refine ops_nil ?_
    refine run_cond_t rfl ?_
    refine run_seq ?_
    refine run_region ?_
    refine ov (xmove rfl) rfl rfl rfl ?_
    refine ov (xassign rfl) rfl rfl rfl ?_
    refine ov (xassign rfl) rfl rfl rfl ?_
    refine ops_nil ?_
    refine run_ret Try.func41 (res2 rfl rfl rfl) ?_
    have he : wayOf xs az = ([], (formCode xs az)) := by unfold wayOf; (repeat' split) <;> first | rfl | (exfalso; omega)
    exact ⟨_, rfl, E, none, 0, 0, by rw [he], by rw [he]; exact Ow.none _ _ _ _ _ _⟩
  ·
    refine ops_nil ?_
    refine run_cond_f rfl ?_
    refine run_skip ?_
    refine run_seq ?_
    refine run_region ?_
    refine ov (xmove rfl) rfl rfl rfl ?_
    refine ov (xmove rfl) rfl rfl rfl ?_
    obtain ⟨hf, hA⟩ := formCode_zero (by omega : formCode xs az = 0)
    refine oc (xcall Try.call99 rfl) rfl rfl rfl (l26Way_ok _ _ _ _ _ _ _ _ _ (H.ext E) (by assumption) (K.ext E) (by assumption) (by assumption)) ?_
    rintro _ w2 ⟨e2, q18, m18, d18, rfl, G18⟩
    have z2 := e2.size
    have E := E.trans e2
    refine ov (xmove rfl) rfl rfl rfl ?_
    refine ov (xextract rfl rfl) rfl rfl rfl ?_
    refine ov (xextract rfl rfl) rfl rfl rfl ?_
    refine ov (xassign rfl) rfl rfl rfl ?_
    refine ov (xassign rfl) rfl rfl rfl ?_
    refine ops_nil ?_
    refine run_seq ?_
    refine run_region ?_
    refine ov (xmove rfl) rfl rfl rfl ?_
    refine ov (xassign rfl) rfl rfl rfl ?_
    refine ov (xassign rfl) rfl rfl rfl ?_
    refine ops_nil ?_
    refine run_ret Try.func41 (res2 rfl rfl rfl) ?_
    have he : wayOf xs az = ((wayF xs az).1, 0) := by unfold wayOf; (repeat' split) <;> first | rfl | (exfalso; omega)
    exact ⟨_, rfl, E, _, _, _, by rw [he], by rw [he]; exact G18.wide (by omega) (by omega)⟩
end Go.Proofs.Ytinpkihmkfiidaa
