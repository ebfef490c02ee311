/-
  The walk of the law FnExactIsTemplate. No condition beyond those written in the theorem.
-/
import Derived.Test.YtgbedilaiefcbaaValRead
import Derived.Test.YtgbedilaiefcbaaPrimRead
import Derived.Test.YtgbedilaiefcbaaHmOf
namespace Go.Proofs.Ytgbedilaiefcbaa
open Go.RowKit
set_option linter.unusedVariables false
set_option linter.unusedSimpArgs false
set_option linter.unusedSectionVars false
set_option maxRecDepth 4000

set_option maxHeartbeats 400000 in
theorem FnExactIsTemplate_ok (w : World) (s0 : ByteArray) (hs0 : s0.size ≤ 9223372036854775807) (hm : Hm w) : Ret Try.prog 7 [.string s0] w (Pv w (.bool true)) := by
  refine ret_of_run (N := 15) Try.func7 rfl rfl rfl ?_
  have E : Ext w w := Ext.refl w
  refine run_seq ?_
  refine run_region ?_
  refine ov (xassign rfl) rfl rfl rfl ?_
  refine ops_nil ?_
  refine run_seq ?_
  refine run_seq ?_
  refine run_region ?_
  refine ov (xmove rfl) rfl rfl rfl ?_
  refine ov (xlens Try.underlying9 rfl) rfl rfl rfl ?_
  refine ov (xgtr rfl rfl _ rfl) rfl rfl rfl ?_
  refine ods (fun c7 => ?_) (fun c7 => ?_)
  ·
    refine ops_nil ?_
    refine run_cond_t rfl ?_
    refine run_seq ?_
    refine run_region ?_
    refine ov (xassign rfl) rfl rfl rfl ?_
    refine ops_nil ?_
    refine run_ret Try.func7 (res1 rfl rfl) ?_
    exact ⟨_, rfl, pv E⟩
  ·
    refine ops_nil ?_
    refine run_cond_f rfl ?_
    refine run_skip ?_
    refine run_seq ?_
    refine run_region ?_
    refine ov (xmove rfl) rfl rfl rfl ?_
    refine oc (xcall Try.call28 rfl) rfl rfl rfl (sIsTemplate_ok (s0) _ (by omega)) ?_
    rintro _ w1 ⟨rfl, e1⟩
    have z1 := e1.size
    have E := E.trans e1
    refine ov (xassign rfl) rfl rfl rfl ?_
    refine ops_nil ?_
    refine run_seq ?_
    refine run_region ?_
    refine ov (xmove rfl) rfl rfl rfl ?_
    refine oc (xcall Try.call29 rfl) rfl rfl rfl (IsTemplate_ok (s0) _ (by omega) (hm.ext E)) ?_
    rintro _ w2 ⟨rfl, e2⟩
    have z2 := e2.size
    have E := E.trans e2
    refine ov (xassign rfl) rfl rfl rfl ?_
    refine ops_nil ?_
    refine run_seq ?_
    refine run_seq ?_
    refine run_region ?_
    refine ov (xmove rfl) rfl rfl rfl ?_
    refine ov (xmove rfl) rfl rfl rfl ?_
    refine ov (xbneq Try.underlying4 rfl rfl) rfl rfl rfl ?_
    refine ods (fun c14 => ?_) (fun c14 => ?_)
    · exfalso; exact absurd rfl c14
    ·
      refine ops_nil ?_
      refine run_cond_f rfl ?_
      refine run_skip ?_
      refine run_seq ?_
      refine run_region ?_
      refine ov (xassign rfl) rfl rfl rfl ?_
      refine ops_nil ?_
      refine run_ret Try.func7 (res1 rfl rfl) ?_
      exact ⟨_, rfl, pv E⟩
end Go.Proofs.Ytgbedilaiefcbaa
