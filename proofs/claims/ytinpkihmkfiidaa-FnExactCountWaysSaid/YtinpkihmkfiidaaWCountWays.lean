/-
  The walk of the law FnExactCountWays. No condition beyond those written in the theorem.
-/
import Derived.Test.YtinpkihmkfiidaaQuesRead
import Derived.Test.YtinpkihmkfiidaaPrimRead
import Derived.Test.YtinpkihmkfiidaaCountW
namespace Go.Proofs.Ytinpkihmkfiidaa
open Go.RowKit
set_option linter.unusedVariables false
set_option linter.unusedSimpArgs false
set_option linter.unusedSectionVars false
set_option maxRecDepth 4000

set_option maxHeartbeats 400000 in
theorem FnExactCountWays_ok (w : World) (p0 : Option Addr) (n0 c0 : Nat) (xs0 : List Question) (H0 : Sl Question.cells 3 w p0 n0 c0 xs0) (hx0 : ∀ x ∈ xs0, x.ok) : Ret Try.prog 4 [.slice p0 n0 c0] w (Pv w (.bool true)) := by
  refine ret_of_run (N := 40) Try.func4 rfl rfl rfl ?_
  have hn0 := H0.len
  have hc0 : ∀ x ∈ xs0, x.Label.size ≤ 9223372036854775807 := fun x h => (hx0 x h).1
  have E : Ext w w := Ext.refl w
  refine run_seq ?_
  refine run_region ?_
  refine ov (xassign rfl) rfl rfl rfl ?_
  refine ops_nil ?_
  refine run_seq ?_
  refine run_region ?_
  refine ov (xassign rfl) rfl rfl rfl ?_
  refine ops_nil ?_
  refine run_seq ?_
  refine run_region ?_
  refine ov (xmove rfl) rfl rfl rfl ?_
  refine ov (xmove rfl) rfl rfl rfl ?_
  refine oc (xcall Try.call25 rfl) rfl rfl rfl (szQuestionS_ok _ _ _ xs0 1048576 _ (H0.ext E) hx0 (by omega) (by omega)) ?_
  rintro _ w1 ⟨rfl, e1⟩
  have z1 := e1.size
  have E := E.trans e1
  refine ov (xassign rfl) rfl rfl rfl ?_
  refine ops_nil ?_
  refine run_seq ?_
  refine run_seq ?_
  refine run_region ?_
  refine ov (xmove rfl) rfl rfl rfl ?_
  refine ov (xlss rfl rfl _ rfl) rfl rfl rfl ?_
  refine ods (fun c13 => ?_) (fun c13 => ?_)
  ·
    refine ops_nil ?_
    refine run_cond_t rfl ?_
    refine run_seq ?_
    refine run_region ?_
    refine ov (xassign rfl) rfl rfl rfl ?_
    refine ops_nil ?_
    refine run_ret Try.func4 (res1 rfl rfl) ?_
    exact ⟨_, rfl, pv E⟩
  ·
    have hz0_ := szS_len szQuestion_le (by omega : 0 ≤ szS szQuestion xs0 1048576)
    refine ops_nil ?_
    refine run_cond_f rfl ?_
    refine run_skip ?_
    refine run_seq ?_
    refine run_region ?_
    refine ov (xmove rfl) rfl rfl rfl ?_
    refine oc (xcall Try.call27 rfl) rfl rfl rfl (toQuestionS_ok _ _ _ xs0 _ (H0.ext E) (by omega)) ?_
    rintro _ w2 ⟨e2, q16, rfl, G16⟩
    have z2 := e2.size
    have E := E.trans e2
    refine oc (xcall Try.call30 rfl) rfl rfl rfl (sCountWays_ok _ _ _ xs0 _ (G16.sl) hc0) ?_
    rintro _ w3 ⟨rfl, e3⟩
    have z3 := e3.size
    have E := E.trans e3
    replace G16 := G16.ext e3
    refine ov (xmove rfl) rfl rfl rfl ?_
    refine ov (xextract rfl rfl) rfl rfl rfl ?_
    refine ov (xextract rfl rfl) rfl rfl rfl ?_
    refine ov (xassign rfl) rfl rfl rfl ?_
    refine ov (xassign rfl) rfl rfl rfl ?_
    refine ops_nil ?_
    refine run_seq ?_
    refine run_region ?_
    refine ov (xmove rfl) rfl rfl rfl ?_
    refine oc (xcall Try.call27 rfl) rfl rfl rfl (toQuestionS_ok _ _ _ xs0 _ (H0.ext E) (by omega)) ?_
    rintro _ w4 ⟨e4, q21, rfl, G21⟩
    have z4 := e4.size
    have E := E.trans e4
    replace G16 := G16.ext e4
    refine ov (xassign rfl) rfl rfl rfl ?_
    refine ops_nil ?_
    refine run_seq ?_
    refine run_region ?_
    refine ov (xmove rfl) rfl rfl rfl ?_
    refine oc (xcall Try.call31 rfl) rfl rfl rfl (CountWays_ok _ _ _ xs0 _ (G21.sl) hc0) ?_
    rintro _ w5 ⟨rfl, e5⟩
    have z5 := e5.size
    have E := E.trans e5
    replace G16 := G16.ext e5
    replace G21 := G21.ext e5
    refine ov (xmove rfl) rfl rfl rfl ?_
    refine ov (xextract rfl rfl) rfl rfl rfl ?_
    refine ov (xextract rfl rfl) rfl rfl rfl ?_
    refine ov (xassign rfl) rfl rfl rfl ?_
    refine ov (xassign rfl) rfl rfl rfl ?_
    refine ops_nil ?_
    refine run_seq ?_
    refine run_seq ?_
    refine run_region ?_
    refine ov (xmove rfl) rfl rfl rfl ?_
    refine ov (xmove rfl) rfl rfl rfl ?_
    refine ov (xneq rfl rfl _ rfl) rfl rfl rfl ?_
    refine ods (fun c29 => ?_) (fun c29 => ?_)
    · exfalso; first | exact absurd rfl c29 | omega
    ·
      refine ov (xmove rfl) rfl rfl rfl ?_
      refine ov (xmove rfl) rfl rfl rfl ?_
      refine ov (xmove rfl) rfl rfl rfl ?_
      refine ov (xneq rfl rfl _ rfl) rfl rfl rfl ?_
      refine ods (fun c33 => ?_) (fun c33 => ?_)
      · exfalso; first | exact absurd rfl c33 | omega
      ·
        refine ov (xpick_f rfl rfl) rfl rfl rfl ?_
        refine ops_nil ?_
        refine run_cond_f rfl ?_
        refine run_skip ?_
        refine run_seq ?_
        refine run_seq ?_
        refine run_region ?_
        refine ov (xmove rfl) rfl rfl rfl ?_
        refine ov (xmove rfl) rfl rfl rfl ?_
        refine oc (xcall Try.call27 rfl) rfl rfl rfl (toQuestionS_ok _ _ _ xs0 _ (H0.ext E) (by omega)) ?_
        rintro _ w6 ⟨e6, q37, rfl, G37⟩
        have z6 := e6.size
        have E := E.trans e6
        replace G16 := G16.ext e6
        replace G21 := G21.ext e6
        refine oc (xcall Try.call29 rfl) rfl rfl rfl (eqQuestionS_ok _ _ _ _ _ _ _ _ _ (G21.sl) (G37.sl)) ?_
        rintro _ w7 ⟨rfl, e7⟩
        have z7 := e7.size
        have E := E.trans e7
        replace G16 := G16.ext e7
        replace G21 := G21.ext e7
        replace G37 := G37.ext e7
        refine obs (fun c38 => ?_) (fun c38 => ?_)
        ·
          refine ov (xnot rfl) rfl rfl rfl ?_
          refine ops_nil ?_
          refine run_cond_f rfl ?_
          refine run_skip ?_
          refine run_seq ?_
          refine run_region ?_
          refine ov (xassign rfl) rfl rfl rfl ?_
          refine ops_nil ?_
          refine run_ret Try.func4 (res1 rfl rfl) ?_
          exact ⟨_, rfl, pv E⟩
        · exfalso; rw [eqL_refl eqQuestion_refl] at c38; cases c38
end Go.Proofs.Ytinpkihmkfiidaa
