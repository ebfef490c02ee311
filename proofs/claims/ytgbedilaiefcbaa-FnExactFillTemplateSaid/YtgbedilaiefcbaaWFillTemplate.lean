/-
  The walk of the law FnExactFillTemplate. No condition beyond those written in the theorem.
-/
import Derived.Test.YtgbedilaiefcbaaValRead
import Derived.Test.YtgbedilaiefcbaaPrimRead
import Derived.Test.YtgbedilaiefcbaaHmOf
import Derived.Test.YtgbedilaiefcbaaValSm
import Derived.Test.YtgbedilaiefcbaaMissP
namespace Go.Proofs.Ytgbedilaiefcbaa
open Go.RowKit
set_option linter.unusedVariables false
set_option linter.unusedSimpArgs false
set_option linter.unusedSectionVars false
set_option maxRecDepth 4000

set_option maxHeartbeats 400000 in
theorem FnExactFillTemplate_ok (w : World) (s0 : ByteArray) (hs0 : s0.size ≤ 9223372036854775807) (p1 : Option Addr) (n1 c1 : Nat) (xs1 : List Val) (H1 : Sl Val.cells 2 w p1 n1 c1 xs1) (hx1 : ∀ x ∈ xs1, x.ok) (hm : Hm w) : Ret Try.prog 10 [.string s0, .slice p1 n1 c1] w (Pv w (.bool true)) := by
  refine ret_of_run (N := 47) Try.func10 rfl rfl rfl ?_
  have hn1 := H1.len
  have E : Ext w w := Ext.refl w
  refine run_seq ?_
  refine run_region ?_
  refine ov (xassign rfl) rfl rfl rfl ?_
  refine ops_nil ?_
  refine run_seq ?_
  refine run_seq ?_
  refine run_region ?_
  refine ov (xmove rfl) rfl rfl rfl ?_
  refine ov (xlens Try.underlying9 rfl) rfl rfl rfl ?_
  refine ov (xgtr rfl rfl _ rfl) rfl rfl rfl ?_
  refine ods (fun c13 => ?_) (fun c13 => ?_)
  ·
    refine ops_nil ?_
    refine run_cond_t rfl ?_
    refine run_seq ?_
    refine run_region ?_
    refine ov (xassign rfl) rfl rfl rfl ?_
    refine ops_nil ?_
    refine run_ret Try.func10 (res1 rfl rfl) ?_
    exact ⟨_, rfl, pv E⟩
  ·
    refine ops_nil ?_
    refine run_cond_f rfl ?_
    refine run_skip ?_
    refine run_seq ?_
    refine run_region ?_
    refine ov (xassign rfl) rfl rfl rfl ?_
    refine ops_nil ?_
    refine run_seq ?_
    refine run_region ?_
    refine ov (xmove rfl) rfl rfl rfl ?_
    refine ov (xmove rfl) rfl rfl rfl ?_
    refine oc (xcall Try.call11 rfl) rfl rfl rfl (szValS_ok _ _ _ xs1 1048576 _ (H1.ext E) hx1 (by omega) (by omega)) ?_
    rintro _ w1 ⟨rfl, e1⟩
    have z1 := e1.size
    have E := E.trans e1
    refine ov (xassign rfl) rfl rfl rfl ?_
    refine ops_nil ?_
    refine run_seq ?_
    refine run_seq ?_
    refine run_region ?_
    refine ov (xmove rfl) rfl rfl rfl ?_
    refine ov (xlss rfl rfl _ rfl) rfl rfl rfl ?_
    refine ods (fun c18 => ?_) (fun c18 => ?_)
    ·
      refine ops_nil ?_
      refine run_cond_t rfl ?_
      refine run_seq ?_
      refine run_region ?_
      refine ov (xassign rfl) rfl rfl rfl ?_
      refine ops_nil ?_
      refine run_ret Try.func10 (res1 rfl rfl) ?_
      exact ⟨_, rfl, pv E⟩
    ·
      have hz1_ := szS_len szVal_le (by omega : 0 ≤ szS szVal xs1 1048576)
      have hv1 := szVal_small (by omega) (by omega : 0 ≤ szS szVal xs1 1048576)
      refine ops_nil ?_
      refine run_cond_f rfl ?_
      refine run_skip ?_
      refine run_seq ?_
      refine run_region ?_
      refine ov (xmove rfl) rfl rfl rfl ?_
      refine ov (xmove rfl) rfl rfl rfl ?_
      refine oc (xcall Try.call13 rfl) rfl rfl rfl (toValS_ok _ _ _ xs1 _ (H1.ext E) (by omega)) ?_
      rintro _ w2 ⟨e2, q22, rfl, G22⟩
      have z2 := e2.size
      have E := E.trans e2
      refine oc (xcall Try.call37 rfl) rfl rfl rfl (sFillTemplate_ok s0 _ _ _ xs1 _ (G22.sl) (by omega) hv1 hx1) ?_
      rintro _ w3 ⟨rfl, e3⟩
      have z3 := e3.size
      have E := E.trans e3
      replace G22 := G22.ext e3
      refine ov (xmove rfl) rfl rfl rfl ?_
      refine ov (xextract rfl rfl) rfl rfl rfl ?_
      refine ov (xextract rfl rfl) rfl rfl rfl ?_
      refine ov (xassign rfl) rfl rfl rfl ?_
      refine ov (xassign rfl) rfl rfl rfl ?_
      refine ops_nil ?_
      refine run_seq ?_
      refine run_region ?_
      refine ov (xmove rfl) rfl rfl rfl ?_
      refine oc (xcall Try.call13 rfl) rfl rfl rfl (toValS_ok _ _ _ xs1 _ (H1.ext E) (by omega)) ?_
      rintro _ w4 ⟨e4, q27, rfl, G27⟩
      have z4 := e4.size
      have E := E.trans e4
      replace G22 := G22.ext e4
      refine ov (xassign rfl) rfl rfl rfl ?_
      refine ops_nil ?_
      refine run_seq ?_
      refine run_region ?_
      refine ov (xmove rfl) rfl rfl rfl ?_
      refine ov (xmove rfl) rfl rfl rfl ?_
      refine oc (xcall Try.call38 rfl) rfl rfl rfl (FillTemplate_ok s0 _ _ _ xs1 _ (G27.sl) (by omega) hv1 hx1 (hm.ext E)) ?_
      rintro _ w5 ⟨rfl, e5⟩
      have z5 := e5.size
      have E := E.trans e5
      replace G22 := G22.ext e5
      replace G27 := G27.ext e5
      refine ov (xmove rfl) rfl rfl rfl ?_
      refine ov (xextract rfl rfl) rfl rfl rfl ?_
      refine ov (xextract rfl rfl) rfl rfl rfl ?_
      refine ov (xassign rfl) rfl rfl rfl ?_
      refine ov (xassign rfl) rfl rfl rfl ?_
      refine ops_nil ?_
      refine run_seq ?_
      refine run_seq ?_
      refine run_region ?_
      refine ov (xmove rfl) rfl rfl rfl ?_
      refine ov (xmove rfl) rfl rfl rfl ?_
      refine ov (xsneq rfl rfl _ rfl) rfl rfl rfl ?_
      refine ods (fun c36 => ?_) (fun c36 => ?_)
      · exfalso; exact absurd rfl c36
      ·
        refine ov (xmove rfl) rfl rfl rfl ?_
        refine ov (xmove rfl) rfl rfl rfl ?_
        refine ov (xmove rfl) rfl rfl rfl ?_
        refine ov (xneq rfl rfl _ rfl) rfl rfl rfl ?_
        refine ods (fun c40 => ?_) (fun c40 => ?_)
        · exfalso; first | exact absurd rfl c40 | omega
        ·
          refine ov (xpick_f rfl rfl) rfl rfl rfl ?_
          refine ops_nil ?_
          refine run_cond_f rfl ?_
          refine run_skip ?_
          refine run_seq ?_
          refine run_seq ?_
          refine run_region ?_
          refine ov (xmove rfl) rfl rfl rfl ?_
          refine ov (xmove rfl) rfl rfl rfl ?_
          refine oc (xcall Try.call13 rfl) rfl rfl rfl (toValS_ok _ _ _ xs1 _ (H1.ext E) (by omega)) ?_
          rintro _ w6 ⟨e6, q44, rfl, G44⟩
          have z6 := e6.size
          have E := E.trans e6
          replace G22 := G22.ext e6
          replace G27 := G27.ext e6
          refine oc (xcall Try.call15 rfl) rfl rfl rfl (eqValS_ok _ _ _ _ _ _ _ _ _ (G27.sl) (G44.sl)) ?_
          rintro _ w7 ⟨rfl, e7⟩
          have z7 := e7.size
          have E := E.trans e7
          replace G22 := G22.ext e7
          replace G27 := G27.ext e7
          replace G44 := G44.ext e7
          refine obs (fun c45 => ?_) (fun c45 => ?_)
          ·
            refine ov (xnot rfl) rfl rfl rfl ?_
            refine ops_nil ?_
            refine run_cond_f rfl ?_
            refine run_skip ?_
            refine run_seq ?_
            refine run_region ?_
            refine ov (xassign rfl) rfl rfl rfl ?_
            refine ops_nil ?_
            refine run_ret Try.func10 (res1 rfl rfl) ?_
            exact ⟨_, rfl, pv E⟩
          · exfalso; rw [eqL_refl eqVal_refl] at c45; cases c45
end Go.Proofs.Ytgbedilaiefcbaa
