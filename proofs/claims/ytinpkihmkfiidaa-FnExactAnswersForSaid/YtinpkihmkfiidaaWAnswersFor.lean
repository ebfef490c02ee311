/-
  The walk of the law FnExactAnswersFor. No condition beyond those written in the theorem.
-/
import Derived.Test.YtinpkihmkfiidaaQuesRead
import Derived.Test.YtinpkihmkfiidaaPrimRead
import Derived.Test.YtinpkihmkfiidaaToB
import Derived.Test.YtinpkihmkfiidaaMarkB
import Derived.Test.YtinpkihmkfiidaaAnsF
import Derived.Test.YtinpkihmkfiidaaMarkQ
namespace Go.Proofs.Ytinpkihmkfiidaa
open Go.RowKit
set_option linter.unusedVariables false
set_option linter.unusedSimpArgs false
set_option linter.unusedSectionVars false
set_option maxRecDepth 4000

set_option maxHeartbeats 400000 in
theorem FnExactAnswersFor_ok (w : World) (p0 : Option Addr) (n0 c0 : Nat) (xs0 : List Question) (H0 : Sl Question.cells 3 w p0 n0 c0 xs0) (hx0 : ∀ x ∈ xs0, x.ok) (k1 : Int) (hk1 : I64 k1) : Ret Try.prog 8 [.slice p0 n0 c0, .int .i64 k1] w (Pv w (.bool true)) := by
  refine ret_of_run (N := 101) Try.func8 rfl rfl rfl ?_
  have hn0 := H0.len
  have hc0 : ∀ x ∈ xs0, x.Label.size ≤ 9223372036854775807 := fun x h => (hx0 x h).1
  have E : Ext w w := Ext.refl w
  refine run_seq ?_
  refine run_region ?_
  refine ov (xassign rfl) rfl rfl rfl ?_
  refine ops_nil ?_
  refine run_seq ?_
  refine run_region ?_
  refine ov (xassign rfl) rfl rfl rfl ?_
  refine ops_nil ?_
  refine run_seq ?_
  refine run_region ?_
  refine ov (xmove rfl) rfl rfl rfl ?_
  refine ov (xmove rfl) rfl rfl rfl ?_
  refine oc (xcall Try.call25 rfl) rfl rfl rfl (szQuestionS_ok _ _ _ xs0 1048576 _ (H0.ext E) hx0 (by omega) (by omega)) ?_
  rintro _ w1 ⟨rfl, e1⟩
  have z1 := e1.size
  have E := E.trans e1
  refine ov (xassign rfl) rfl rfl rfl ?_
  refine ops_nil ?_
  refine run_seq ?_
  refine run_seq ?_
  refine run_region ?_
  refine ov (xmove rfl) rfl rfl rfl ?_
  refine ov (xlss rfl rfl _ rfl) rfl rfl rfl ?_
  refine ods (fun c20 => ?_) (fun c20 => ?_)
  ·
    refine ops_nil ?_
    refine run_cond_t rfl ?_
    refine run_seq ?_
    refine run_region ?_
    refine ov (xassign rfl) rfl rfl rfl ?_
    refine ops_nil ?_
    refine run_ret Try.func8 (res1 rfl rfl) ?_
    exact ⟨_, rfl, pv E⟩
  ·
    have hz0_ := szS_len szQuestion_le (by omega : 0 ≤ szS szQuestion xs0 1048576)
    refine ops_nil ?_
    refine run_cond_f rfl ?_
    refine run_skip ?_
    refine run_seq ?_
    refine run_region ?_
    refine ov (xmove rfl) rfl rfl rfl ?_
    refine oc (xcall Try.call27 rfl) rfl rfl rfl (toQuestionS_ok _ _ _ xs0 _ (H0.ext E) (by omega)) ?_
    rintro _ w2 ⟨e2, q23, rfl, G23⟩
    have z2 := e2.size
    have E := E.trans e2
    refine ov (xmove rfl) rfl rfl rfl ?_
    refine oc (xcall Try.call46 rfl) rfl rfl rfl (sAnswersFor_ok _ _ _ xs0 _ (G23.sl) hc0 k1) ?_
    rintro _ w3 ⟨e3, q25_0, m25_0, d25_0, rfl, G25_0⟩
    have z3 := e3.size
    have E := E.trans e3
    replace G23 := G23.ext e3
    have lG25_0 := G25_0.len
    have hl_ := answersFor_len xs0 k1
    refine ov (xmove rfl) rfl rfl rfl ?_
    refine ov (xextract rfl rfl) rfl rfl rfl ?_
    refine ov (xextract rfl rfl) rfl rfl rfl ?_
    refine ov (xassign rfl) rfl rfl rfl ?_
    refine ov (xassign rfl) rfl rfl rfl ?_
    refine ops_nil ?_
    refine run_seq ?_
    refine run_region ?_
    refine ov (xmove rfl) rfl rfl rfl ?_
    refine oc (xcall Try.call27 rfl) rfl rfl rfl (toQuestionS_ok _ _ _ xs0 _ (H0.ext E) (by omega)) ?_
    rintro _ w4 ⟨e4, q29, rfl, G29⟩
    have z4 := e4.size
    have E := E.trans e4
    replace G23 := G23.ext e4
    replace G25_0 := G25_0.ext e4
    refine ov (xassign rfl) rfl rfl rfl ?_
    refine ops_nil ?_
    refine run_seq ?_
    refine run_region ?_
    refine ov (xmove rfl) rfl rfl rfl ?_
    refine ov (xmove rfl) rfl rfl rfl ?_
    refine oc (xcall Try.call47 rfl) rfl rfl rfl (AnswersFor_ok _ _ _ xs0 _ (G29.sl) hc0 k1) ?_
    rintro _ w5 ⟨e5, q33_0, m33_0, d33_0, rfl, G33_0⟩
    have z5 := e5.size
    have E := E.trans e5
    replace G23 := G23.ext e5
    replace G25_0 := G25_0.ext e5
    replace G29 := G29.ext e5
    have lG33_0 := G33_0.len
    have hl_ := answersFor_len xs0 k1
    refine ov (xmove rfl) rfl rfl rfl ?_
    refine ov (xextract rfl rfl) rfl rfl rfl ?_
    refine ov (xextract rfl rfl) rfl rfl rfl ?_
    refine ov (xassign rfl) rfl rfl rfl ?_
    refine ov (xassign rfl) rfl rfl rfl ?_
    refine ops_nil ?_
    refine run_seq ?_
    refine run_seq ?_
    refine run_region ?_
    refine ov (xmove rfl) rfl rfl rfl ?_
    refine ov (xmove rfl) rfl rfl rfl ?_
    refine oc (xcall Try.call35 rfl) rfl rfl rfl (eqInt64S_ok _ _ _ _ _ _ _ _ _ (G33_0.sl) (G25_0.sl)) ?_
    rintro _ w6 ⟨rfl, e6⟩
    have z6 := e6.size
    have E := E.trans e6
    replace G23 := G23.ext e6
    replace G25_0 := G25_0.ext e6
    replace G29 := G29.ext e6
    replace G33_0 := G33_0.ext e6
    refine obs (fun c38 => ?_) (fun c38 => ?_)
    ·
      refine ov (xnot rfl) rfl rfl rfl ?_
      refine ov (xmove rfl) rfl rfl rfl ?_
      refine ov (xmove rfl) rfl rfl rfl ?_
      refine ov (xmove rfl) rfl rfl rfl ?_
      refine ov (xneq rfl rfl _ rfl) rfl rfl rfl ?_
      refine ods (fun c43 => ?_) (fun c43 => ?_)
      · exfalso; first | exact absurd rfl c43 | omega
      ·
        refine ov (xpick_f rfl rfl) rfl rfl rfl ?_
        refine ops_nil ?_
        refine run_cond_f rfl ?_
        refine run_skip ?_
        refine run_seq ?_
        refine run_seq ?_
        refine run_region ?_
        refine ov (xmove rfl) rfl rfl rfl ?_
        refine ov (xmove rfl) rfl rfl rfl ?_
        refine oc (xcall Try.call27 rfl) rfl rfl rfl (toQuestionS_ok _ _ _ xs0 _ (H0.ext E) (by omega)) ?_
        rintro _ w7 ⟨e7, q47, rfl, G47⟩
        have z7 := e7.size
        have E := E.trans e7
        replace G23 := G23.ext e7
        replace G25_0 := G25_0.ext e7
        replace G29 := G29.ext e7
        replace G33_0 := G33_0.ext e7
        refine oc (xcall Try.call29 rfl) rfl rfl rfl (eqQuestionS_ok _ _ _ _ _ _ _ _ _ (G29.sl) (G47.sl)) ?_
        rintro _ w8 ⟨rfl, e8⟩
        have z8 := e8.size
        have E := E.trans e8
        replace G23 := G23.ext e8
        replace G25_0 := G25_0.ext e8
        replace G29 := G29.ext e8
        replace G33_0 := G33_0.ext e8
        replace G47 := G47.ext e8
        refine obs (fun c48 => ?_) (fun c48 => ?_)
        ·
          refine ov (xnot rfl) rfl rfl rfl ?_
          refine ops_nil ?_
          refine run_cond_f rfl ?_
          refine run_skip ?_
          refine run_seq ?_
          refine run_region ?_
          refine ov (xassign rfl) rfl rfl rfl ?_
          refine ops_nil ?_
          refine run_seq ?_
          refine run_region ?_
          refine ov (xmove rfl) rfl rfl rfl ?_
          refine ov (xmove rfl) rfl rfl rfl ?_
          refine oc (xcall Try.call43 rfl) rfl rfl rfl (markQuestionS_ok _ _ _ _ _ _ _ _ G29 (by omega) (by omega) (by omega)) ?_
          rintro _ w9 ⟨rfl, m9, g9⟩
          have z9 := m9.size
          have E := m9.toExt E (by omega)
          replace G23 := G23.off m9 (by omega)
          replace G25_0 := G25_0.off m9 (by omega)
          replace G33_0 := G33_0.off m9 (by omega)
          replace G47 := G47.off m9 (by omega)
          replace G29 := g9
          refine ov (xassign rfl) rfl rfl rfl ?_
          refine ops_nil ?_
          refine run_seq ?_
          refine run_seq ?_
          refine run_region ?_
          refine ov (xmove rfl) rfl rfl rfl ?_
          refine ov (xlss rfl rfl _ rfl) rfl rfl rfl ?_
          refine ods (fun c54 => ?_) (fun c54 => ?_)
          · exfalso; omega
          ·
            refine ov (xmove rfl) rfl rfl rfl ?_
            refine ov (xmove rfl) rfl rfl rfl ?_
            refine ov (xmove rfl) rfl rfl rfl ?_
            refine oc (xcall Try.call35 rfl) rfl rfl rfl (eqInt64S_ok _ _ _ _ _ _ _ _ _ (G33_0.sl) (G25_0.sl)) ?_
            rintro _ w10 ⟨rfl, e10⟩
            have z10 := e10.size
            have E := E.trans e10
            replace G23 := G23.ext e10
            replace G25_0 := G25_0.ext e10
            replace G29 := G29.ext e10
            replace G33_0 := G33_0.ext e10
            replace G47 := G47.ext e10
            refine obs (fun c58 => ?_) (fun c58 => ?_)
            ·
              refine ov (xnot rfl) rfl rfl rfl ?_
              refine ov (xpick_f rfl rfl) rfl rfl rfl ?_
              refine ov (xmove rfl) rfl rfl rfl ?_
              refine ov (xmove rfl) rfl rfl rfl ?_
              refine ov (xmove rfl) rfl rfl rfl ?_
              refine ov (xneq rfl rfl _ rfl) rfl rfl rfl ?_
              refine ods (fun c64 => ?_) (fun c64 => ?_)
              · exfalso; first | exact absurd rfl c64 | omega
              ·
                refine ov (xpick_f rfl rfl) rfl rfl rfl ?_
                refine ops_nil ?_
                refine run_cond_f rfl ?_
                refine run_skip ?_
                refine run_seq ?_
                refine run_region ?_
                refine ov (xassign rfl) rfl rfl rfl ?_
                refine ops_nil ?_
                refine run_seq ?_
                refine run_region ?_
                refine ov (xmove rfl) rfl rfl rfl ?_
                refine ov (xmove rfl) rfl rfl rfl ?_
                refine oc (xcall Try.call44 rfl) rfl rfl rfl (markInt64S_ok _ _ _ _ _ _ _ _ G33_0 (by omega) (by omega) (by omega)) ?_
                rintro _ w11 ⟨rfl, m11, g11⟩
                have z11 := m11.size
                have E := m11.toExt E (by omega)
                replace G23 := G23.off m11 (by omega)
                replace G25_0 := G25_0.off m11 (by omega)
                replace G29 := G29.off m11 (by omega)
                replace G47 := G47.off m11 (by omega)
                replace G33_0 := g11
                refine ov (xassign rfl) rfl rfl rfl ?_
                refine ops_nil ?_
                refine run_seq ?_
                refine run_region ?_
                refine ov (xassign rfl) rfl rfl rfl ?_
                refine ops_nil ?_
                refine run_seq ?_
                refine run_region ?_
                refine ov (xmove rfl) rfl rfl rfl ?_
                refine ov (xmove rfl) rfl rfl rfl ?_
                refine oc (xcall Try.call45 rfl) rfl rfl rfl (heldInt64S_ok _ _ _ _ _ _ (G33_0.sl) (by omega) (by omega) (by omega)) ?_
                rintro _ w12 ⟨rfl, e12⟩
                have z12 := e12.size
                have E := E.trans e12
                replace G23 := G23.ext e12
                replace G25_0 := G25_0.ext e12
                replace G29 := G29.ext e12
                replace G33_0 := G33_0.ext e12
                replace G47 := G47.ext e12
                refine ov (xassign rfl) rfl rfl rfl ?_
                refine ops_nil ?_
                refine run_seq ?_
                refine run_seq ?_
                refine run_region ?_
                refine ov (xmove rfl) rfl rfl rfl ?_
                refine ov (xlss rfl rfl _ rfl) rfl rfl rfl ?_
                refine ods (fun c73 => ?_) (fun c73 => ?_)
                · exfalso; omega
                ·
                  refine ops_nil ?_
                  refine run_cond_f rfl ?_
                  refine run_skip ?_
                  refine run_seq ?_
                  refine run_seq ?_
                  refine run_region ?_
                  refine ov (xmove rfl) rfl rfl rfl ?_
                  refine ov (xmove rfl) rfl rfl rfl ?_
                  refine ov (xneq rfl rfl _ rfl) rfl rfl rfl ?_
                  refine ods (fun c76 => ?_) (fun c76 => ?_)
                  · exfalso; first | exact absurd rfl c76 | omega
                  ·
                    refine ops_nil ?_
                    refine run_cond_f rfl ?_
                    refine run_skip ?_
                    refine run_seq ?_
                    refine run_region ?_
                    refine ov (xmove rfl) rfl rfl rfl ?_
                    refine oc (xcall Try.call27 rfl) rfl rfl rfl (toQuestionS_ok _ _ _ xs0 _ (H0.ext E) (by omega)) ?_
                    rintro _ w13 ⟨e13, q79, rfl, G79⟩
                    have z13 := e13.size
                    have E := E.trans e13
                    replace G23 := G23.ext e13
                    replace G25_0 := G25_0.ext e13
                    replace G29 := G29.ext e13
                    replace G33_0 := G33_0.ext e13
                    replace G47 := G47.ext e13
                    refine ov (xmove rfl) rfl rfl rfl ?_
                    refine oc (xcall Try.call47 rfl) rfl rfl rfl (AnswersFor_ok _ _ _ xs0 _ (G79.sl) hc0 k1) ?_
                    rintro _ w14 ⟨e14, q81_0, m81_0, d81_0, rfl, G81_0⟩
                    have z14 := e14.size
                    have E := E.trans e14
                    replace G23 := G23.ext e14
                    replace G25_0 := G25_0.ext e14
                    replace G29 := G29.ext e14
                    replace G33_0 := G33_0.ext e14
                    replace G47 := G47.ext e14
                    replace G79 := G79.ext e14
                    have lG81_0 := G81_0.len
                    have hl_ := answersFor_len xs0 k1
                    refine ov (xmove rfl) rfl rfl rfl ?_
                    refine ov (xextract rfl rfl) rfl rfl rfl ?_
                    refine ov (xextract rfl rfl) rfl rfl rfl ?_
                    refine ov (xassign rfl) rfl rfl rfl ?_
                    refine ov (xassign rfl) rfl rfl rfl ?_
                    refine ops_nil ?_
                    refine run_seq ?_
                    refine run_seq ?_
                    refine run_region ?_
                    refine ov (xmove rfl) rfl rfl rfl ?_
                    refine ov (xmove rfl) rfl rfl rfl ?_
                    refine oc (xcall Try.call35 rfl) rfl rfl rfl (eqInt64S_ok _ _ _ _ _ _ _ _ _ (G81_0.sl) (G25_0.sl)) ?_
                    rintro _ w15 ⟨rfl, e15⟩
                    have z15 := e15.size
                    have E := E.trans e15
                    replace G23 := G23.ext e15
                    replace G25_0 := G25_0.ext e15
                    replace G29 := G29.ext e15
                    replace G33_0 := G33_0.ext e15
                    replace G47 := G47.ext e15
                    replace G79 := G79.ext e15
                    replace G81_0 := G81_0.ext e15
                    refine obs (fun c86 => ?_) (fun c86 => ?_)
                    ·
                      refine ov (xnot rfl) rfl rfl rfl ?_
                      refine ov (xmove rfl) rfl rfl rfl ?_
                      refine ov (xmove rfl) rfl rfl rfl ?_
                      refine ov (xmove rfl) rfl rfl rfl ?_
                      refine ov (xneq rfl rfl _ rfl) rfl rfl rfl ?_
                      refine ods (fun c91 => ?_) (fun c91 => ?_)
                      · exfalso; first | exact absurd rfl c91 | omega
                      ·
                        refine ov (xpick_f rfl rfl) rfl rfl rfl ?_
                        refine ops_nil ?_
                        refine run_cond_f rfl ?_
                        refine run_skip ?_
                        refine run_seq ?_
                        refine run_region ?_
                        refine ov (xassign rfl) rfl rfl rfl ?_
                        refine ops_nil ?_
                        refine run_seq ?_
                        refine run_region ?_
                        refine ov (xmove rfl) rfl rfl rfl ?_
                        refine ov (xmove rfl) rfl rfl rfl ?_
                        refine oc (xcall Try.call45 rfl) rfl rfl rfl (heldInt64S_ok _ _ _ _ _ _ (G33_0.sl) (by omega) (by omega) (by omega)) ?_
                        rintro _ w16 ⟨rfl, e16⟩
                        have z16 := e16.size
                        have E := E.trans e16
                        replace G23 := G23.ext e16
                        replace G25_0 := G25_0.ext e16
                        replace G29 := G29.ext e16
                        replace G33_0 := G33_0.ext e16
                        replace G47 := G47.ext e16
                        replace G79 := G79.ext e16
                        replace G81_0 := G81_0.ext e16
                        refine ov (xassign rfl) rfl rfl rfl ?_
                        refine ops_nil ?_
                        refine run_seq ?_
                        refine run_seq ?_
                        refine run_region ?_
                        refine ov (xmove rfl) rfl rfl rfl ?_
                        refine ov (xlss rfl rfl _ rfl) rfl rfl rfl ?_
                        refine ods (fun c97 => ?_) (fun c97 => ?_)
                        · exfalso; omega
                        ·
                          refine ops_nil ?_
                          refine run_cond_f rfl ?_
                          refine run_skip ?_
                          refine run_seq ?_
                          refine run_seq ?_
                          refine run_region ?_
                          refine ov (xmove rfl) rfl rfl rfl ?_
                          refine ov (xmove rfl) rfl rfl rfl ?_
                          refine ov (xneq rfl rfl _ rfl) rfl rfl rfl ?_
                          refine ods (fun c100 => ?_) (fun c100 => ?_)
                          · exfalso; first | exact absurd rfl c100 | omega
                          ·
                            refine ops_nil ?_
                            refine run_cond_f rfl ?_
                            refine run_skip ?_
                            refine run_seq ?_
                            refine run_region ?_
                            refine ov (xassign rfl) rfl rfl rfl ?_
                            refine ops_nil ?_
                            refine run_ret Try.func8 (res1 rfl rfl) ?_
                            exact ⟨_, rfl, pv E⟩
                    · exfalso; rw [eqL_refl eqI_refl] at c86; cases c86
            · exfalso; rw [eqL_refl eqI_refl] at c58; cases c58
        · exfalso; rw [eqL_refl eqQuestion_refl] at c48; cases c48
    · exfalso; rw [eqL_refl eqI_refl] at c38; cases c38
end Go.Proofs.Ytinpkihmkfiidaa
