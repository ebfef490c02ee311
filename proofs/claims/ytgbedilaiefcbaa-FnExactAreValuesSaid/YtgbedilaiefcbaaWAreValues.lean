/-
  The walk of the law FnExactAreValues. No condition beyond those written in the theorem.
-/
import Derived.Test.YtgbedilaiefcbaaValRead
import Derived.Test.YtgbedilaiefcbaaVals
namespace Go.Proofs.Ytgbedilaiefcbaa
open Go.RowKit
set_option linter.unusedVariables false
set_option linter.unusedSimpArgs false
set_option linter.unusedSectionVars false
set_option maxRecDepth 4000

set_option maxHeartbeats 400000 in
theorem FnExactAreValues_ok (w : World) (p0 : Option Addr) (n0 c0 : Nat) (xs0 : List Val) (H0 : Sl Val.cells 2 w p0 n0 c0 xs0) (hx0 : ∀ x ∈ xs0, x.ok) : Ret Try.prog 3 [.slice p0 n0 c0] w (Pv w (.bool true)) := by
  refine ret_of_run (N := 27) Try.func3 rfl rfl rfl ?_
  have hn0 := H0.len
  have E : Ext w w := Ext.refl w
  refine run_seq ?_
  refine run_region ?_
  refine ov (xassign rfl) rfl rfl rfl ?_
  refine ops_nil ?_
  refine run_seq ?_
  refine run_region ?_
  refine ov (xassign rfl) rfl rfl rfl ?_
  refine ops_nil ?_
  refine run_seq ?_
  refine run_region ?_
  refine ov (xmove rfl) rfl rfl rfl ?_
  refine ov (xmove rfl) rfl rfl rfl ?_
  refine oc (xcall Try.call11 rfl) rfl rfl rfl (szValS_ok _ _ _ xs0 1048576 _ (H0.ext E) hx0 (by omega) (by omega)) ?_
  rintro _ w1 ⟨rfl, e1⟩
  have z1 := e1.size
  have E := E.trans e1
  refine ov (xassign rfl) rfl rfl rfl ?_
  refine ops_nil ?_
  refine run_seq ?_
  refine run_seq ?_
  refine run_region ?_
  refine ov (xmove rfl) rfl rfl rfl ?_
  refine ov (xlss rfl rfl _ rfl) rfl rfl rfl ?_
  refine ods (fun c11 => ?_) (fun c11 => ?_)
  ·
    refine ops_nil ?_
    refine run_cond_t rfl ?_
    refine run_seq ?_
    refine run_region ?_
    refine ov (xassign rfl) rfl rfl rfl ?_
    refine ops_nil ?_
    refine run_ret Try.func3 (res1 rfl rfl) ?_
    exact ⟨_, rfl, pv E⟩
  ·
    have hz0_ := szS_len szVal_le (by omega : 0 ≤ szS szVal xs0 1048576)
    refine ops_nil ?_
    refine run_cond_f rfl ?_
    refine run_skip ?_
    refine run_seq ?_
    refine run_region ?_
    refine ov (xmove rfl) rfl rfl rfl ?_
    refine oc (xcall Try.call13 rfl) rfl rfl rfl (toValS_ok _ _ _ xs0 _ (H0.ext E) (by omega)) ?_
    rintro _ w2 ⟨e2, q13, rfl, G13⟩
    have z2 := e2.size
    have E := E.trans e2
    refine oc (xcall Try.call12 rfl) rfl rfl rfl (sAreValues_ok _ _ _ xs0 _ (G13.sl) hx0) ?_
    rintro _ w3 ⟨rfl, e3⟩
    have z3 := e3.size
    have E := E.trans e3
    replace G13 := G13.ext e3
    refine ov (xassign rfl) rfl rfl rfl ?_
    refine ops_nil ?_
    refine run_seq ?_
    refine run_region ?_
    refine ov (xmove rfl) rfl rfl rfl ?_
    refine oc (xcall Try.call13 rfl) rfl rfl rfl (toValS_ok _ _ _ xs0 _ (H0.ext E) (by omega)) ?_
    rintro _ w4 ⟨e4, q16, rfl, G16⟩
    have z4 := e4.size
    have E := E.trans e4
    replace G13 := G13.ext e4
    refine ov (xassign rfl) rfl rfl rfl ?_
    refine ops_nil ?_
    refine run_seq ?_
    refine run_region ?_
    refine ov (xmove rfl) rfl rfl rfl ?_
    refine oc (xcall Try.call14 rfl) rfl rfl rfl (AreValues_ok _ _ _ xs0 _ (G16.sl) hx0) ?_
    rintro _ w5 ⟨rfl, e5⟩
    have z5 := e5.size
    have E := E.trans e5
    replace G13 := G13.ext e5
    replace G16 := G16.ext e5
    refine ov (xassign rfl) rfl rfl rfl ?_
    refine ops_nil ?_
    refine run_seq ?_
    refine run_seq ?_
    refine run_region ?_
    refine ov (xmove rfl) rfl rfl rfl ?_
    refine ov (xmove rfl) rfl rfl rfl ?_
    refine ov (xbneq Try.underlying4 rfl rfl) rfl rfl rfl ?_
    refine ods (fun c21 => ?_) (fun c21 => ?_)
    · exfalso; exact absurd rfl c21
    ·
      refine ops_nil ?_
      refine run_cond_f rfl ?_
      refine run_skip ?_
      refine run_seq ?_
      refine run_seq ?_
      refine run_region ?_
      refine ov (xmove rfl) rfl rfl rfl ?_
      refine ov (xmove rfl) rfl rfl rfl ?_
      refine oc (xcall Try.call13 rfl) rfl rfl rfl (toValS_ok _ _ _ xs0 _ (H0.ext E) (by omega)) ?_
      rintro _ w6 ⟨e6, q24, rfl, G24⟩
      have z6 := e6.size
      have E := E.trans e6
      replace G13 := G13.ext e6
      replace G16 := G16.ext e6
      refine oc (xcall Try.call15 rfl) rfl rfl rfl (eqValS_ok _ _ _ _ _ _ _ _ _ (G16.sl) (G24.sl)) ?_
      rintro _ w7 ⟨rfl, e7⟩
      have z7 := e7.size
      have E := E.trans e7
      replace G13 := G13.ext e7
      replace G16 := G16.ext e7
      replace G24 := G24.ext e7
      refine obs (fun c25 => ?_) (fun c25 => ?_)
      ·
        refine ov (xnot rfl) rfl rfl rfl ?_
        refine ops_nil ?_
        refine run_cond_f rfl ?_
        refine run_skip ?_
        refine run_seq ?_
        refine run_region ?_
        refine ov (xassign rfl) rfl rfl rfl ?_
        refine ops_nil ?_
        refine run_ret Try.func3 (res1 rfl rfl) ?_
        exact ⟨_, rfl, pv E⟩
      · exfalso; rw [eqL_refl eqVal_refl] at c25; cases c25
end Go.Proofs.Ytgbedilaiefcbaa
