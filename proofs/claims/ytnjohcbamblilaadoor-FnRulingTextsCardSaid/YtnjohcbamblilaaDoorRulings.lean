/-
  Is this a ruling? No condition beyond those written in each theorem.
-/
import Derived.Test.YtnjohcbamblilaaDoorTRuling
namespace Go.Proofs.YtnjohcbamblilaaDoor
open Go.RowKit
set_option linter.unusedVariables false
set_option linter.unusedSimpArgs false
set_option linter.unusedSectionVars false
set_option maxRecDepth 4000


def isRuling (r : Ruling) : Bool := inR 0 20000 r.Day && isWord r.Code && inR 0 3 r.Kind
theorem isR_of {r : Ruling} (h : isRuling r = true) : 0 ≤ r.Day ∧ r.Day ≤ 20000 ∧ r.Code.size ≤ 16 ∧ 0 ≤ r.Kind ∧ r.Kind ≤ 3 := by
  simp only [isRuling, isWord, inR, Bool.and_eq_true, decide_eq_true_eq] at h; omega


set_option maxHeartbeats 400000 in
theorem isRuling_ok (r : Ruling) (w : World) (hc : r.Code.size ≤ 9223372036854775807) : Ret Tryd.prog 18 [.agg #[.int .i64 r.Day, .string r.Code, .int .i64 r.Kind]] w (Pv w (.bool (isRuling r))) := by
  refine ret_of_run (N := 16) Tryd.func18 rfl rfl rfl ?_
  have E : Ext w w := Ext.refl w
  refine run_seq ?_
  refine run_region ?_
  refine obox rfl rfl rfl ?_
  intro b1 w1 e1 hb1 hz1 O1
  have E := E.trans e1
  replace O1 : Own w1 b1 [.int .i64 r.Day, .string r.Code, .int .i64 r.Kind] 27 := O1
  refine ov (xassign rfl) rfl rfl rfl ?_
  refine ops_nil ?_
  refine run_seq ?_
  refine run_region ?_
  refine ov (xfieldAddr fo27f0 rfl) rfl rfl rfl ?_
  refine ov (v := .int .i64 r.Day) (xload1 Tryd.isAgg2 rfl (O1.cells) rfl) rfl rfl rfl ?_
  refine oc (xcall Tryd.call36 rfl) rfl rfl rfl (isDay_ok (r.Day) _) ?_
  rintro _ w_ ⟨rfl, hw_⟩
  replace hw_ := hw_.symm
  subst hw_
  refine obs (fun c5 => ?_) (fun c5 => ?_)
  ·
    refine ov (xmove rfl) rfl rfl rfl ?_
    refine ov (xfieldAddr fo27f1 rfl) rfl rfl rfl ?_
    refine ov (v := .string r.Code) (xload1 Tryd.isAgg9 rfl (O1.cells) rfl) rfl rfl rfl ?_
    refine oc (xcall Tryd.call37 rfl) rfl rfl rfl (IsWord_ok (r.Code) _ (by first | assumption | omega)) ?_
    rintro _ w_ ⟨rfl, hw_⟩
    replace hw_ := hw_.symm
    subst hw_
    refine obs (fun c9 => ?_) (fun c9 => ?_)
    ·
      refine ov (xpick_t rfl rfl) rfl rfl rfl ?_
      refine ov (xmove rfl) rfl rfl rfl ?_
      refine ov (xfieldAddr fo27f2 rfl) rfl rfl rfl ?_
      refine ov (v := .int .i64 r.Kind) (xload1 Tryd.isAgg2 rfl (O1.cells) rfl) rfl rfl rfl ?_
      refine oc (xcall Tryd.call38 rfl) rfl rfl rfl (within_ok (r.Kind) (0) (3) _) ?_
      rintro _ w_ ⟨rfl, hw_⟩
      replace hw_ := hw_.symm
      subst hw_
      refine ov (xpick_t rfl rfl) rfl rfl rfl ?_
      refine ov (xassign rfl) rfl rfl rfl ?_
      refine ops_nil ?_
      refine run_ret Tryd.func18 (res1 rfl rfl) ?_
      exact ⟨_, rfl, by simp [isRuling, *], E⟩
    ·
      refine ov (xpick_t rfl rfl) rfl rfl rfl ?_
      refine ov (xmove rfl) rfl rfl rfl ?_
      refine og rfl rfl rfl ?_
      refine og rfl rfl rfl ?_
      refine og rfl rfl rfl ?_
      refine ov (xpick_f rfl rfl) rfl rfl rfl ?_
      refine ov (xassign rfl) rfl rfl rfl ?_
      refine ops_nil ?_
      refine run_ret Tryd.func18 (res1 rfl rfl) ?_
      exact ⟨_, rfl, by simp [isRuling, *], E⟩
  ·
    refine ov (xmove rfl) rfl rfl rfl ?_
    refine og rfl rfl rfl ?_
    refine og rfl rfl rfl ?_
    refine og rfl rfl rfl ?_
    refine ov (xpick_f rfl rfl) rfl rfl rfl ?_
    refine ov (xmove rfl) rfl rfl rfl ?_
    refine og rfl rfl rfl ?_
    refine og rfl rfl rfl ?_
    refine og rfl rfl rfl ?_
    refine ov (xpick_f rfl rfl) rfl rfl rfl ?_
    refine ov (xassign rfl) rfl rfl rfl ?_
    refine ops_nil ?_
    refine run_ret Tryd.func18 (res1 rfl rfl) ?_
    exact ⟨_, rfl, by simp [isRuling, *], E⟩

set_option maxHeartbeats 400000 in
theorem l25Is_ok (r : Ruling) (w : World) (hc : r.Code.size ≤ 9223372036854775807) : Ret Tryd.prog 16 [.agg #[.int .i64 r.Day, .string r.Code, .int .i64 r.Kind]] w (Pv w (.bool (isRuling r))) := by
  refine ret_of_run (N := 16) Tryd.func16 rfl rfl rfl ?_
  have E : Ext w w := Ext.refl w
  refine run_seq ?_
  refine run_region ?_
  refine obox rfl rfl rfl ?_
  intro b1 w1 e1 hb1 hz1 O1
  have E := E.trans e1
  replace O1 : Own w1 b1 [.int .i64 r.Day, .string r.Code, .int .i64 r.Kind] 27 := O1
  refine ov (xassign rfl) rfl rfl rfl ?_
  refine ops_nil ?_
  refine run_seq ?_
  refine run_region ?_
  refine ov (xfieldAddr fo27f0 rfl) rfl rfl rfl ?_
  refine ov (v := .int .i64 r.Day) (xload1 Tryd.isAgg2 rfl (O1.cells) rfl) rfl rfl rfl ?_
  refine oc (xcall Tryd.call32 rfl) rfl rfl rfl (l02Is_ok (r.Day) _) ?_
  rintro _ w_ ⟨rfl, hw_⟩
  replace hw_ := hw_.symm
  subst hw_
  refine obs (fun c5 => ?_) (fun c5 => ?_)
  ·
    refine ov (xmove rfl) rfl rfl rfl ?_
    refine ov (xfieldAddr fo27f1 rfl) rfl rfl rfl ?_
    refine ov (v := .string r.Code) (xload1 Tryd.isAgg9 rfl (O1.cells) rfl) rfl rfl rfl ?_
    refine oc (xcall Tryd.call33 rfl) rfl rfl rfl (sIsWord_ok (r.Code) _ (by first | assumption | omega)) ?_
    rintro _ w_ ⟨rfl, hw_⟩
    replace hw_ := hw_.symm
    subst hw_
    refine obs (fun c9 => ?_) (fun c9 => ?_)
    ·
      refine ov (xpick_t rfl rfl) rfl rfl rfl ?_
      refine ov (xmove rfl) rfl rfl rfl ?_
      refine ov (xfieldAddr fo27f2 rfl) rfl rfl rfl ?_
      refine ov (v := .int .i64 r.Kind) (xload1 Tryd.isAgg2 rfl (O1.cells) rfl) rfl rfl rfl ?_
      refine oc (xcall Tryd.call34 rfl) rfl rfl rfl (l01In_ok (r.Kind) (0) (3) _) ?_
      rintro _ w_ ⟨rfl, hw_⟩
      replace hw_ := hw_.symm
      subst hw_
      refine ov (xpick_t rfl rfl) rfl rfl rfl ?_
      refine ov (xassign rfl) rfl rfl rfl ?_
      refine ops_nil ?_
      refine run_ret Tryd.func16 (res1 rfl rfl) ?_
      exact ⟨_, rfl, by simp [isRuling, *], E⟩
    ·
      refine ov (xpick_t rfl rfl) rfl rfl rfl ?_
      refine ov (xmove rfl) rfl rfl rfl ?_
      refine og rfl rfl rfl ?_
      refine og rfl rfl rfl ?_
      refine og rfl rfl rfl ?_
      refine ov (xpick_f rfl rfl) rfl rfl rfl ?_
      refine ov (xassign rfl) rfl rfl rfl ?_
      refine ops_nil ?_
      refine run_ret Tryd.func16 (res1 rfl rfl) ?_
      exact ⟨_, rfl, by simp [isRuling, *], E⟩
  ·
    refine ov (xmove rfl) rfl rfl rfl ?_
    refine og rfl rfl rfl ?_
    refine og rfl rfl rfl ?_
    refine og rfl rfl rfl ?_
    refine ov (xpick_f rfl rfl) rfl rfl rfl ?_
    refine ov (xmove rfl) rfl rfl rfl ?_
    refine og rfl rfl rfl ?_
    refine og rfl rfl rfl ?_
    refine og rfl rfl rfl ?_
    refine ov (xpick_f rfl rfl) rfl rfl rfl ?_
    refine ov (xassign rfl) rfl rfl rfl ?_
    refine ops_nil ?_
    refine run_ret Tryd.func16 (res1 rfl rfl) ?_
    exact ⟨_, rfl, by simp [isRuling, *], E⟩
end Go.Proofs.YtnjohcbamblilaaDoor
