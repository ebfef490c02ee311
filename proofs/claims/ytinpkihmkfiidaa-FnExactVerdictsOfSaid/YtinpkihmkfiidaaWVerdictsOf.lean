/-
  The walk of the law FnExactVerdictsOf. No condition beyond those written in the theorem.
-/
import Derived.Test.YtinpkihmkfiidaaQuesRead
import Derived.Test.YtinpkihmkfiidaaPrimRead
import Derived.Test.YtinpkihmkfiidaaToB
import Derived.Test.YtinpkihmkfiidaaMarkB
import Derived.Test.YtinpkihmkfiidaaVerF
import Derived.Test.YtinpkihmkfiidaaMarkQ
namespace Go.Proofs.Ytinpkihmkfiidaa
open Go.RowKit
set_option linter.unusedVariables false
set_option linter.unusedSimpArgs false
set_option linter.unusedSectionVars false
set_option maxRecDepth 4000

set_option maxHeartbeats 400000 in
theorem FnExactVerdictsOf_ok (w : World) (p0 : Option Addr) (n0 c0 : Nat) (xs0 : List Question) (H0 : Sl Question.cells 3 w p0 n0 c0 xs0) (hx0 : ∀ x ∈ xs0, x.ok) : Ret Try.prog 23 [.slice p0 n0 c0] w (Pv w (.bool true)) := by
  refine ret_of_run (N := 96) Try.func23 rfl rfl rfl ?_
  have hn0 := H0.len
  have hc0 : ∀ x ∈ xs0, x.Label.size ≤ 9223372036854775807 := fun x h => (hx0 x h).1
  have E : Ext w w := Ext.refl w
  refine run_seq ?_
  refine run_region ?_
  refine ov (xassign rfl) rfl rfl rfl ?_
  refine ops_nil ?_
  refine run_seq ?_
  refine run_region ?_
  refine ov (xassign rfl) rfl rfl rfl ?_
  refine ops_nil ?_
  refine run_seq ?_
  refine run_region ?_
  refine ov (xmove rfl) rfl rfl rfl ?_
  refine ov (xmove rfl) rfl rfl rfl ?_
  refine oc (xcall Try.call25 rfl) rfl rfl rfl (szQuestionS_ok _ _ _ xs0 1048576 _ (H0.ext E) hx0 (by omega) (by omega)) ?_
  rintro _ w1 ⟨rfl, e1⟩
  have z1 := e1.size
  have E := E.trans e1
  refine ov (xassign rfl) rfl rfl rfl ?_
  refine ops_nil ?_
  refine run_seq ?_
  refine run_seq ?_
  refine run_region ?_
  refine ov (xmove rfl) rfl rfl rfl ?_
  refine ov (xlss rfl rfl _ rfl) rfl rfl rfl ?_
  refine ods (fun c18 => ?_) (fun c18 => ?_)
  ·
    refine ops_nil ?_
    refine run_cond_t rfl ?_
    refine run_seq ?_
    refine run_region ?_
    refine ov (xassign rfl) rfl rfl rfl ?_
    refine ops_nil ?_
    refine run_ret Try.func23 (res1 rfl rfl) ?_
    exact ⟨_, rfl, pv E⟩
  ·
    have hz0_ := szS_len szQuestion_le (by omega : 0 ≤ szS szQuestion xs0 1048576)
    refine ops_nil ?_
    refine run_cond_f rfl ?_
    refine run_skip ?_
    refine run_seq ?_
    refine run_region ?_
    refine ov (xmove rfl) rfl rfl rfl ?_
    refine oc (xcall Try.call27 rfl) rfl rfl rfl (toQuestionS_ok _ _ _ xs0 _ (H0.ext E) (by omega)) ?_
    rintro _ w2 ⟨e2, q21, rfl, G21⟩
    have z2 := e2.size
    have E := E.trans e2
    refine oc (xcall Try.call81 rfl) rfl rfl rfl (sVerdictsOf_ok _ _ _ xs0 _ (G21.sl) hc0) ?_
    rintro _ w3 ⟨e3, q22_0, m22_0, d22_0, rfl, G22_0⟩
    have z3 := e3.size
    have E := E.trans e3
    replace G21 := G21.ext e3
    have lG22_0 := G22_0.len
    have hl_ := verdictsOf_len xs0
    refine ov (xmove rfl) rfl rfl rfl ?_
    refine ov (xextract rfl rfl) rfl rfl rfl ?_
    refine ov (xextract rfl rfl) rfl rfl rfl ?_
    refine ov (xassign rfl) rfl rfl rfl ?_
    refine ov (xassign rfl) rfl rfl rfl ?_
    refine ops_nil ?_
    refine run_seq ?_
    refine run_region ?_
    refine ov (xmove rfl) rfl rfl rfl ?_
    refine oc (xcall Try.call27 rfl) rfl rfl rfl (toQuestionS_ok _ _ _ xs0 _ (H0.ext E) (by omega)) ?_
    rintro _ w4 ⟨e4, q26, rfl, G26⟩
    have z4 := e4.size
    have E := E.trans e4
    replace G21 := G21.ext e4
    replace G22_0 := G22_0.ext e4
    refine ov (xassign rfl) rfl rfl rfl ?_
    refine ops_nil ?_
    refine run_seq ?_
    refine run_region ?_
    refine ov (xmove rfl) rfl rfl rfl ?_
    refine oc (xcall Try.call82 rfl) rfl rfl rfl (VerdictsOf_ok _ _ _ xs0 _ (G26.sl) hc0) ?_
    rintro _ w5 ⟨e5, q29_0, m29_0, d29_0, rfl, G29_0⟩
    have z5 := e5.size
    have E := E.trans e5
    replace G21 := G21.ext e5
    replace G22_0 := G22_0.ext e5
    replace G26 := G26.ext e5
    have lG29_0 := G29_0.len
    have hl_ := verdictsOf_len xs0
    refine ov (xmove rfl) rfl rfl rfl ?_
    refine ov (xextract rfl rfl) rfl rfl rfl ?_
    refine ov (xextract rfl rfl) rfl rfl rfl ?_
    refine ov (xassign rfl) rfl rfl rfl ?_
    refine ov (xassign rfl) rfl rfl rfl ?_
    refine ops_nil ?_
    refine run_seq ?_
    refine run_seq ?_
    refine run_region ?_
    refine ov (xmove rfl) rfl rfl rfl ?_
    refine ov (xmove rfl) rfl rfl rfl ?_
    refine oc (xcall Try.call35 rfl) rfl rfl rfl (eqInt64S_ok _ _ _ _ _ _ _ _ _ (G29_0.sl) (G22_0.sl)) ?_
    rintro _ w6 ⟨rfl, e6⟩
    have z6 := e6.size
    have E := E.trans e6
    replace G21 := G21.ext e6
    replace G22_0 := G22_0.ext e6
    replace G26 := G26.ext e6
    replace G29_0 := G29_0.ext e6
    refine obs (fun c34 => ?_) (fun c34 => ?_)
    ·
      refine ov (xnot rfl) rfl rfl rfl ?_
      refine ov (xmove rfl) rfl rfl rfl ?_
      refine ov (xmove rfl) rfl rfl rfl ?_
      refine ov (xmove rfl) rfl rfl rfl ?_
      refine ov (xneq rfl rfl _ rfl) rfl rfl rfl ?_
      refine ods (fun c39 => ?_) (fun c39 => ?_)
      · exfalso; first | exact absurd rfl c39 | omega
      ·
        refine ov (xpick_f rfl rfl) rfl rfl rfl ?_
        refine ops_nil ?_
        refine run_cond_f rfl ?_
        refine run_skip ?_
        refine run_seq ?_
        refine run_seq ?_
        refine run_region ?_
        refine ov (xmove rfl) rfl rfl rfl ?_
        refine ov (xmove rfl) rfl rfl rfl ?_
        refine oc (xcall Try.call27 rfl) rfl rfl rfl (toQuestionS_ok _ _ _ xs0 _ (H0.ext E) (by omega)) ?_
        rintro _ w7 ⟨e7, q43, rfl, G43⟩
        have z7 := e7.size
        have E := E.trans e7
        replace G21 := G21.ext e7
        replace G22_0 := G22_0.ext e7
        replace G26 := G26.ext e7
        replace G29_0 := G29_0.ext e7
        refine oc (xcall Try.call29 rfl) rfl rfl rfl (eqQuestionS_ok _ _ _ _ _ _ _ _ _ (G26.sl) (G43.sl)) ?_
        rintro _ w8 ⟨rfl, e8⟩
        have z8 := e8.size
        have E := E.trans e8
        replace G21 := G21.ext e8
        replace G22_0 := G22_0.ext e8
        replace G26 := G26.ext e8
        replace G29_0 := G29_0.ext e8
        replace G43 := G43.ext e8
        refine obs (fun c44 => ?_) (fun c44 => ?_)
        ·
          refine ov (xnot rfl) rfl rfl rfl ?_
          refine ops_nil ?_
          refine run_cond_f rfl ?_
          refine run_skip ?_
          refine run_seq ?_
          refine run_region ?_
          refine ov (xassign rfl) rfl rfl rfl ?_
          refine ops_nil ?_
          refine run_seq ?_
          refine run_region ?_
          refine ov (xmove rfl) rfl rfl rfl ?_
          refine ov (xmove rfl) rfl rfl rfl ?_
          refine oc (xcall Try.call43 rfl) rfl rfl rfl (markQuestionS_ok _ _ _ _ _ _ _ _ G26 (by omega) (by omega) (by omega)) ?_
          rintro _ w9 ⟨rfl, m9, g9⟩
          have z9 := m9.size
          have E := m9.toExt E (by omega)
          replace G21 := G21.off m9 (by omega)
          replace G22_0 := G22_0.off m9 (by omega)
          replace G29_0 := G29_0.off m9 (by omega)
          replace G43 := G43.off m9 (by omega)
          replace G26 := g9
          refine ov (xassign rfl) rfl rfl rfl ?_
          refine ops_nil ?_
          refine run_seq ?_
          refine run_seq ?_
          refine run_region ?_
          refine ov (xmove rfl) rfl rfl rfl ?_
          refine ov (xlss rfl rfl _ rfl) rfl rfl rfl ?_
          refine ods (fun c50 => ?_) (fun c50 => ?_)
          · exfalso; omega
          ·
            refine ov (xmove rfl) rfl rfl rfl ?_
            refine ov (xmove rfl) rfl rfl rfl ?_
            refine ov (xmove rfl) rfl rfl rfl ?_
            refine oc (xcall Try.call35 rfl) rfl rfl rfl (eqInt64S_ok _ _ _ _ _ _ _ _ _ (G29_0.sl) (G22_0.sl)) ?_
            rintro _ w10 ⟨rfl, e10⟩
            have z10 := e10.size
            have E := E.trans e10
            replace G21 := G21.ext e10
            replace G22_0 := G22_0.ext e10
            replace G26 := G26.ext e10
            replace G29_0 := G29_0.ext e10
            replace G43 := G43.ext e10
            refine obs (fun c54 => ?_) (fun c54 => ?_)
            ·
              refine ov (xnot rfl) rfl rfl rfl ?_
              refine ov (xpick_f rfl rfl) rfl rfl rfl ?_
              refine ov (xmove rfl) rfl rfl rfl ?_
              refine ov (xmove rfl) rfl rfl rfl ?_
              refine ov (xmove rfl) rfl rfl rfl ?_
              refine ov (xneq rfl rfl _ rfl) rfl rfl rfl ?_
              refine ods (fun c60 => ?_) (fun c60 => ?_)
              · exfalso; first | exact absurd rfl c60 | omega
              ·
                refine ov (xpick_f rfl rfl) rfl rfl rfl ?_
                refine ops_nil ?_
                refine run_cond_f rfl ?_
                refine run_skip ?_
                refine run_seq ?_
                refine run_region ?_
                refine ov (xassign rfl) rfl rfl rfl ?_
                refine ops_nil ?_
                refine run_seq ?_
                refine run_region ?_
                refine ov (xmove rfl) rfl rfl rfl ?_
                refine ov (xmove rfl) rfl rfl rfl ?_
                refine oc (xcall Try.call44 rfl) rfl rfl rfl (markInt64S_ok _ _ _ _ _ _ _ _ G29_0 (by omega) (by omega) (by omega)) ?_
                rintro _ w11 ⟨rfl, m11, g11⟩
                have z11 := m11.size
                have E := m11.toExt E (by omega)
                replace G21 := G21.off m11 (by omega)
                replace G22_0 := G22_0.off m11 (by omega)
                replace G26 := G26.off m11 (by omega)
                replace G43 := G43.off m11 (by omega)
                replace G29_0 := g11
                refine ov (xassign rfl) rfl rfl rfl ?_
                refine ops_nil ?_
                refine run_seq ?_
                refine run_region ?_
                refine ov (xassign rfl) rfl rfl rfl ?_
                refine ops_nil ?_
                refine run_seq ?_
                refine run_region ?_
                refine ov (xmove rfl) rfl rfl rfl ?_
                refine ov (xmove rfl) rfl rfl rfl ?_
                refine oc (xcall Try.call45 rfl) rfl rfl rfl (heldInt64S_ok _ _ _ _ _ _ (G29_0.sl) (by omega) (by omega) (by omega)) ?_
                rintro _ w12 ⟨rfl, e12⟩
                have z12 := e12.size
                have E := E.trans e12
                replace G21 := G21.ext e12
                replace G22_0 := G22_0.ext e12
                replace G26 := G26.ext e12
                replace G29_0 := G29_0.ext e12
                replace G43 := G43.ext e12
                refine ov (xassign rfl) rfl rfl rfl ?_
                refine ops_nil ?_
                refine run_seq ?_
                refine run_seq ?_
                refine run_region ?_
                refine ov (xmove rfl) rfl rfl rfl ?_
                refine ov (xlss rfl rfl _ rfl) rfl rfl rfl ?_
                refine ods (fun c69 => ?_) (fun c69 => ?_)
                · exfalso; omega
                ·
                  refine ops_nil ?_
                  refine run_cond_f rfl ?_
                  refine run_skip ?_
                  refine run_seq ?_
                  refine run_seq ?_
                  refine run_region ?_
                  refine ov (xmove rfl) rfl rfl rfl ?_
                  refine ov (xmove rfl) rfl rfl rfl ?_
                  refine ov (xneq rfl rfl _ rfl) rfl rfl rfl ?_
                  refine ods (fun c72 => ?_) (fun c72 => ?_)
                  · exfalso; first | exact absurd rfl c72 | omega
                  ·
                    refine ops_nil ?_
                    refine run_cond_f rfl ?_
                    refine run_skip ?_
                    refine run_seq ?_
                    refine run_region ?_
                    refine ov (xmove rfl) rfl rfl rfl ?_
                    refine oc (xcall Try.call27 rfl) rfl rfl rfl (toQuestionS_ok _ _ _ xs0 _ (H0.ext E) (by omega)) ?_
                    rintro _ w13 ⟨e13, q75, rfl, G75⟩
                    have z13 := e13.size
                    have E := E.trans e13
                    replace G21 := G21.ext e13
                    replace G22_0 := G22_0.ext e13
                    replace G26 := G26.ext e13
                    replace G29_0 := G29_0.ext e13
                    replace G43 := G43.ext e13
                    refine oc (xcall Try.call82 rfl) rfl rfl rfl (VerdictsOf_ok _ _ _ xs0 _ (G75.sl) hc0) ?_
                    rintro _ w14 ⟨e14, q76_0, m76_0, d76_0, rfl, G76_0⟩
                    have z14 := e14.size
                    have E := E.trans e14
                    replace G21 := G21.ext e14
                    replace G22_0 := G22_0.ext e14
                    replace G26 := G26.ext e14
                    replace G29_0 := G29_0.ext e14
                    replace G43 := G43.ext e14
                    replace G75 := G75.ext e14
                    have lG76_0 := G76_0.len
                    have hl_ := verdictsOf_len xs0
                    refine ov (xmove rfl) rfl rfl rfl ?_
                    refine ov (xextract rfl rfl) rfl rfl rfl ?_
                    refine ov (xextract rfl rfl) rfl rfl rfl ?_
                    refine ov (xassign rfl) rfl rfl rfl ?_
                    refine ov (xassign rfl) rfl rfl rfl ?_
                    refine ops_nil ?_
                    refine run_seq ?_
                    refine run_seq ?_
                    refine run_region ?_
                    refine ov (xmove rfl) rfl rfl rfl ?_
                    refine ov (xmove rfl) rfl rfl rfl ?_
                    refine oc (xcall Try.call35 rfl) rfl rfl rfl (eqInt64S_ok _ _ _ _ _ _ _ _ _ (G76_0.sl) (G22_0.sl)) ?_
                    rintro _ w15 ⟨rfl, e15⟩
                    have z15 := e15.size
                    have E := E.trans e15
                    replace G21 := G21.ext e15
                    replace G22_0 := G22_0.ext e15
                    replace G26 := G26.ext e15
                    replace G29_0 := G29_0.ext e15
                    replace G43 := G43.ext e15
                    replace G75 := G75.ext e15
                    replace G76_0 := G76_0.ext e15
                    refine obs (fun c81 => ?_) (fun c81 => ?_)
                    ·
                      refine ov (xnot rfl) rfl rfl rfl ?_
                      refine ov (xmove rfl) rfl rfl rfl ?_
                      refine ov (xmove rfl) rfl rfl rfl ?_
                      refine ov (xmove rfl) rfl rfl rfl ?_
                      refine ov (xneq rfl rfl _ rfl) rfl rfl rfl ?_
                      refine ods (fun c86 => ?_) (fun c86 => ?_)
                      · exfalso; first | exact absurd rfl c86 | omega
                      ·
                        refine ov (xpick_f rfl rfl) rfl rfl rfl ?_
                        refine ops_nil ?_
                        refine run_cond_f rfl ?_
                        refine run_skip ?_
                        refine run_seq ?_
                        refine run_region ?_
                        refine ov (xassign rfl) rfl rfl rfl ?_
                        refine ops_nil ?_
                        refine run_seq ?_
                        refine run_region ?_
                        refine ov (xmove rfl) rfl rfl rfl ?_
                        refine ov (xmove rfl) rfl rfl rfl ?_
                        refine oc (xcall Try.call45 rfl) rfl rfl rfl (heldInt64S_ok _ _ _ _ _ _ (G29_0.sl) (by omega) (by omega) (by omega)) ?_
                        rintro _ w16 ⟨rfl, e16⟩
                        have z16 := e16.size
                        have E := E.trans e16
                        replace G21 := G21.ext e16
                        replace G22_0 := G22_0.ext e16
                        replace G26 := G26.ext e16
                        replace G29_0 := G29_0.ext e16
                        replace G43 := G43.ext e16
                        replace G75 := G75.ext e16
                        replace G76_0 := G76_0.ext e16
                        refine ov (xassign rfl) rfl rfl rfl ?_
                        refine ops_nil ?_
                        refine run_seq ?_
                        refine run_seq ?_
                        refine run_region ?_
                        refine ov (xmove rfl) rfl rfl rfl ?_
                        refine ov (xlss rfl rfl _ rfl) rfl rfl rfl ?_
                        refine ods (fun c92 => ?_) (fun c92 => ?_)
                        · exfalso; omega
                        ·
                          refine ops_nil ?_
                          refine run_cond_f rfl ?_
                          refine run_skip ?_
                          refine run_seq ?_
                          refine run_seq ?_
                          refine run_region ?_
                          refine ov (xmove rfl) rfl rfl rfl ?_
                          refine ov (xmove rfl) rfl rfl rfl ?_
                          refine ov (xneq rfl rfl _ rfl) rfl rfl rfl ?_
                          refine ods (fun c95 => ?_) (fun c95 => ?_)
                          · exfalso; first | exact absurd rfl c95 | omega
                          ·
                            refine ops_nil ?_
                            refine run_cond_f rfl ?_
                            refine run_skip ?_
                            refine run_seq ?_
                            refine run_region ?_
                            refine ov (xassign rfl) rfl rfl rfl ?_
                            refine ops_nil ?_
                            refine run_ret Try.func23 (res1 rfl rfl) ?_
                            exact ⟨_, rfl, pv E⟩
                    · exfalso; rw [eqL_refl eqI_refl] at c81; cases c81
            · exfalso; rw [eqL_refl eqI_refl] at c54; cases c54
        · exfalso; rw [eqL_refl eqQuestion_refl] at c44; cases c44
    · exfalso; rw [eqL_refl eqI_refl] at c34; cases c34
end Go.Proofs.Ytinpkihmkfiidaa
