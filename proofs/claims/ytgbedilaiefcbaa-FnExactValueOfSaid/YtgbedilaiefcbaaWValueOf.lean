/-
  The walk of the law FnExactValueOf. No condition beyond those written in the theorem.
-/
import Derived.Test.YtgbedilaiefcbaaValRead
import Derived.Test.YtgbedilaiefcbaaVals2
namespace Go.Proofs.Ytgbedilaiefcbaa
open Go.RowKit
set_option linter.unusedVariables false
set_option linter.unusedSimpArgs false
set_option linter.unusedSectionVars false
set_option maxRecDepth 4000

set_option maxHeartbeats 400000 in
theorem FnExactValueOf_ok (w : World) (p0 : Option Addr) (n0 c0 : Nat) (xs0 : List Val) (H0 : Sl Val.cells 2 w p0 n0 c0 xs0) (hx0 : ∀ x ∈ xs0, x.ok) (s1 : ByteArray) (hs1 : s1.size ≤ 9223372036854775807) : Ret Try.prog 4 [.slice p0 n0 c0, .string s1] w (Pv w (.bool true)) := by
  refine ret_of_run (N := 47) Try.func4 rfl rfl rfl ?_
  have hn0 := H0.len
  have E : Ext w w := Ext.refl w
  refine run_seq ?_
  refine run_region ?_
  refine ov (xassign rfl) rfl rfl rfl ?_
  refine ops_nil ?_
  refine run_seq ?_
  refine run_seq ?_
  refine run_region ?_
  refine ov (xmove rfl) rfl rfl rfl ?_
  refine ov (xlens Try.underlying9 rfl) rfl rfl rfl ?_
  refine ov (xgtr rfl rfl _ rfl) rfl rfl rfl ?_
  refine ods (fun c13 => ?_) (fun c13 => ?_)
  ·
    refine ops_nil ?_
    refine run_cond_t rfl ?_
    refine run_seq ?_
    refine run_region ?_
    refine ov (xassign rfl) rfl rfl rfl ?_
    refine ops_nil ?_
    refine run_ret Try.func4 (res1 rfl rfl) ?_
    exact ⟨_, rfl, pv E⟩
  ·
    refine ops_nil ?_
    refine run_cond_f rfl ?_
    refine run_skip ?_
    refine run_seq ?_
    refine run_region ?_
    refine ov (xassign rfl) rfl rfl rfl ?_
    refine ops_nil ?_
    refine run_seq ?_
    refine run_region ?_
    refine ov (xmove rfl) rfl rfl rfl ?_
    refine ov (xmove rfl) rfl rfl rfl ?_
    refine oc (xcall Try.call11 rfl) rfl rfl rfl (szValS_ok _ _ _ xs0 1048576 _ (H0.ext E) hx0 (by omega) (by omega)) ?_
    rintro _ w1 ⟨rfl, e1⟩
    have z1 := e1.size
    have E := E.trans e1
    refine ov (xassign rfl) rfl rfl rfl ?_
    refine ops_nil ?_
    refine run_seq ?_
    refine run_seq ?_
    refine run_region ?_
    refine ov (xmove rfl) rfl rfl rfl ?_
    refine ov (xlss rfl rfl _ rfl) rfl rfl rfl ?_
    refine ods (fun c18 => ?_) (fun c18 => ?_)
    ·
      refine ops_nil ?_
      refine run_cond_t rfl ?_
      refine run_seq ?_
      refine run_region ?_
      refine ov (xassign rfl) rfl rfl rfl ?_
      refine ops_nil ?_
      refine run_ret Try.func4 (res1 rfl rfl) ?_
      exact ⟨_, rfl, pv E⟩
    ·
      have hz0_ := szS_len szVal_le (by omega : 0 ≤ szS szVal xs0 1048576)
      refine ops_nil ?_
      refine run_cond_f rfl ?_
      refine run_skip ?_
      refine run_seq ?_
      refine run_region ?_
      refine ov (xmove rfl) rfl rfl rfl ?_
      refine oc (xcall Try.call13 rfl) rfl rfl rfl (toValS_ok _ _ _ xs0 _ (H0.ext E) (by omega)) ?_
      rintro _ w2 ⟨e2, q21, rfl, G21⟩
      have z2 := e2.size
      have E := E.trans e2
      refine ov (xmove rfl) rfl rfl rfl ?_
      refine oc (xcall Try.call16 rfl) rfl rfl rfl (sValueOf_ok _ _ _ xs0 s1 _ (G21.sl) hx0) ?_
      rintro _ w3 ⟨rfl, e3⟩
      have z3 := e3.size
      have E := E.trans e3
      replace G21 := G21.ext e3
      refine ov (xmove rfl) rfl rfl rfl ?_
      refine ov (xextract rfl rfl) rfl rfl rfl ?_
      refine ov (xextract rfl rfl) rfl rfl rfl ?_
      refine ov (xassign rfl) rfl rfl rfl ?_
      refine ov (xassign rfl) rfl rfl rfl ?_
      refine ops_nil ?_
      refine run_seq ?_
      refine run_region ?_
      refine ov (xmove rfl) rfl rfl rfl ?_
      refine oc (xcall Try.call13 rfl) rfl rfl rfl (toValS_ok _ _ _ xs0 _ (H0.ext E) (by omega)) ?_
      rintro _ w4 ⟨e4, q27, rfl, G27⟩
      have z4 := e4.size
      have E := E.trans e4
      replace G21 := G21.ext e4
      refine ov (xassign rfl) rfl rfl rfl ?_
      refine ops_nil ?_
      refine run_seq ?_
      refine run_region ?_
      refine ov (xmove rfl) rfl rfl rfl ?_
      refine ov (xmove rfl) rfl rfl rfl ?_
      refine oc (xcall Try.call17 rfl) rfl rfl rfl (ValueOf_ok _ _ _ xs0 s1 _ (G27.sl) hx0) ?_
      rintro _ w5 ⟨rfl, e5⟩
      have z5 := e5.size
      have E := E.trans e5
      replace G21 := G21.ext e5
      replace G27 := G27.ext e5
      refine ov (xmove rfl) rfl rfl rfl ?_
      refine ov (xextract rfl rfl) rfl rfl rfl ?_
      refine ov (xextract rfl rfl) rfl rfl rfl ?_
      refine ov (xassign rfl) rfl rfl rfl ?_
      refine ov (xassign rfl) rfl rfl rfl ?_
      refine ops_nil ?_
      refine run_seq ?_
      refine run_seq ?_
      refine run_region ?_
      refine ov (xmove rfl) rfl rfl rfl ?_
      refine ov (xmove rfl) rfl rfl rfl ?_
      refine ov (xsneq rfl rfl _ rfl) rfl rfl rfl ?_
      refine ods (fun c36 => ?_) (fun c36 => ?_)
      · exfalso; exact absurd rfl c36
      ·
        refine ov (xmove rfl) rfl rfl rfl ?_
        refine ov (xmove rfl) rfl rfl rfl ?_
        refine ov (xmove rfl) rfl rfl rfl ?_
        refine ov (xneq rfl rfl _ rfl) rfl rfl rfl ?_
        refine ods (fun c40 => ?_) (fun c40 => ?_)
        · exfalso; first | exact absurd rfl c40 | omega
        ·
          refine ov (xpick_f rfl rfl) rfl rfl rfl ?_
          refine ops_nil ?_
          refine run_cond_f rfl ?_
          refine run_skip ?_
          refine run_seq ?_
          refine run_seq ?_
          refine run_region ?_
          refine ov (xmove rfl) rfl rfl rfl ?_
          refine ov (xmove rfl) rfl rfl rfl ?_
          refine oc (xcall Try.call13 rfl) rfl rfl rfl (toValS_ok _ _ _ xs0 _ (H0.ext E) (by omega)) ?_
          rintro _ w6 ⟨e6, q44, rfl, G44⟩
          have z6 := e6.size
          have E := E.trans e6
          replace G21 := G21.ext e6
          replace G27 := G27.ext e6
          refine oc (xcall Try.call15 rfl) rfl rfl rfl (eqValS_ok _ _ _ _ _ _ _ _ _ (G27.sl) (G44.sl)) ?_
          rintro _ w7 ⟨rfl, e7⟩
          have z7 := e7.size
          have E := E.trans e7
          replace G21 := G21.ext e7
          replace G27 := G27.ext e7
          replace G44 := G44.ext e7
          refine obs (fun c45 => ?_) (fun c45 => ?_)
          ·
            refine ov (xnot rfl) rfl rfl rfl ?_
            refine ops_nil ?_
            refine run_cond_f rfl ?_
            refine run_skip ?_
            refine run_seq ?_
            refine run_region ?_
            refine ov (xassign rfl) rfl rfl rfl ?_
            refine ops_nil ?_
            refine run_ret Try.func4 (res1 rfl rfl) ?_
            exact ⟨_, rfl, pv E⟩
          · exfalso; rw [eqL_refl eqVal_refl] at c45; cases c45
end Go.Proofs.Ytgbedilaiefcbaa
