/-
  The walk of the law FnExactWayOf. No condition beyond those written in the theorem.
-/
import Derived.Test.YtinpkihmkfiidaaQuesRead
import Derived.Test.YtinpkihmkfiidaaPrimRead
import Derived.Test.YtinpkihmkfiidaaToB
import Derived.Test.YtinpkihmkfiidaaMarkB
import Derived.Test.YtinpkihmkfiidaaVerdict
import Derived.Test.YtinpkihmkfiidaaMarkQ
namespace Go.Proofs.Ytinpkihmkfiidaa
open Go.RowKit
set_option linter.unusedVariables false
set_option linter.unusedSimpArgs false
set_option linter.unusedSectionVars false
set_option maxRecDepth 4000

set_option maxHeartbeats 400000 in
theorem FnExactWayOf_ok (w : World) (p0 : Option Addr) (n0 c0 : Nat) (xs0 : List Question) (H0 : Sl Question.cells 3 w p0 n0 c0 xs0) (hx0 : ∀ x ∈ xs0, x.ok) (p1 : Option Addr) (n1 c1 : Nat) (xs1 : List Int) (H1 : Sl i64c 1 w p1 n1 c1 xs1) (hx1 : ∀ x ∈ xs1, I64 x) : Ret Try.prog 7 [.slice p0 n0 c0, .slice p1 n1 c1] w (Pv w (.bool true)) := by
  refine ret_of_run (N := 117) Try.func7 rfl rfl rfl ?_
  have hn0 := H0.len
  have hn1 := H1.len
  have hc0 : ∀ x ∈ xs0, x.Label.size ≤ 9223372036854775807 := fun x h => (hx0 x h).1
  have E : Ext w w := Ext.refl w
  refine run_seq ?_
  refine run_region ?_
  refine ov (xassign rfl) rfl rfl rfl ?_
  refine ops_nil ?_
  refine run_seq ?_
  refine run_seq ?_
  refine run_region ?_
  refine ov (xmove rfl) rfl rfl rfl ?_
  refine ov (xlen Try.underlying31 rfl) rfl rfl rfl ?_
  refine ov (xgtr rfl rfl _ rfl) rfl rfl rfl ?_
  refine ods (fun c19 => ?_) (fun c19 => ?_)
  ·
    refine ops_nil ?_
    refine run_cond_t rfl ?_
    refine run_seq ?_
    refine run_region ?_
    refine ov (xassign rfl) rfl rfl rfl ?_
    refine ops_nil ?_
    refine run_ret Try.func7 (res1 rfl rfl) ?_
    exact ⟨_, rfl, pv E⟩
  ·
    refine ops_nil ?_
    refine run_cond_f rfl ?_
    refine run_skip ?_
    refine run_seq ?_
    refine run_region ?_
    refine ov (xassign rfl) rfl rfl rfl ?_
    refine ops_nil ?_
    refine run_seq ?_
    refine run_region ?_
    refine ov (xmove rfl) rfl rfl rfl ?_
    refine ov (xmove rfl) rfl rfl rfl ?_
    refine oc (xcall Try.call25 rfl) rfl rfl rfl (szQuestionS_ok _ _ _ xs0 1048576 _ (H0.ext E) hx0 (by omega) (by omega)) ?_
    rintro _ w1 ⟨rfl, e1⟩
    have z1 := e1.size
    have E := E.trans e1
    refine ov (xassign rfl) rfl rfl rfl ?_
    refine ops_nil ?_
    refine run_seq ?_
    refine run_seq ?_
    refine run_region ?_
    refine ov (xmove rfl) rfl rfl rfl ?_
    refine ov (xlss rfl rfl _ rfl) rfl rfl rfl ?_
    refine ods (fun c24 => ?_) (fun c24 => ?_)
    ·
      refine ops_nil ?_
      refine run_cond_t rfl ?_
      refine run_seq ?_
      refine run_region ?_
      refine ov (xassign rfl) rfl rfl rfl ?_
      refine ops_nil ?_
      refine run_ret Try.func7 (res1 rfl rfl) ?_
      exact ⟨_, rfl, pv E⟩
    ·
      have hz0_ := szS_len szQuestion_le (by omega : 0 ≤ szS szQuestion xs0 1048576)
      refine ops_nil ?_
      refine run_cond_f rfl ?_
      refine run_skip ?_
      refine run_seq ?_
      refine run_region ?_
      refine ov (xmove rfl) rfl rfl rfl ?_
      refine oc (xcall Try.call27 rfl) rfl rfl rfl (toQuestionS_ok _ _ _ xs0 _ (H0.ext E) (by omega)) ?_
      rintro _ w2 ⟨e2, q27, rfl, G27⟩
      have z2 := e2.size
      have E := E.trans e2
      refine ov (xmove rfl) rfl rfl rfl ?_
      refine oc (xcall Try.call33 rfl) rfl rfl rfl (toInt64S_ok _ _ _ xs1 _ (H1.ext E) (by omega)) ?_
      rintro _ w3 ⟨e3, q29, rfl, G29⟩
      have z3 := e3.size
      have E := E.trans e3
      replace G27 := G27.ext e3
      refine oc (xcall Try.call41 rfl) rfl rfl rfl (sWayOf_ok _ _ _ xs0 _ _ _ xs1 _ (G27.sl) hc0 (G29.sl)) ?_
      rintro _ w4 ⟨e4, q30_0, m30_0, d30_0, rfl, G30_0⟩
      have z4 := e4.size
      have E := E.trans e4
      replace G27 := G27.ext e4
      replace G29 := G29.ext e4
      have lG30_0 := G30_0.len
      have hl_ := wayOf_len xs0 xs1
      refine ov (xmove rfl) rfl rfl rfl ?_
      refine ov (xextract rfl rfl) rfl rfl rfl ?_
      refine ov (xextract rfl rfl) rfl rfl rfl ?_
      refine ov (xassign rfl) rfl rfl rfl ?_
      refine ov (xassign rfl) rfl rfl rfl ?_
      refine ops_nil ?_
      refine run_seq ?_
      refine run_region ?_
      refine ov (xmove rfl) rfl rfl rfl ?_
      refine oc (xcall Try.call27 rfl) rfl rfl rfl (toQuestionS_ok _ _ _ xs0 _ (H0.ext E) (by omega)) ?_
      rintro _ w5 ⟨e5, q34, rfl, G34⟩
      have z5 := e5.size
      have E := E.trans e5
      replace G27 := G27.ext e5
      replace G29 := G29.ext e5
      replace G30_0 := G30_0.ext e5
      refine ov (xassign rfl) rfl rfl rfl ?_
      refine ops_nil ?_
      refine run_seq ?_
      refine run_region ?_
      refine ov (xmove rfl) rfl rfl rfl ?_
      refine oc (xcall Try.call33 rfl) rfl rfl rfl (toInt64S_ok _ _ _ xs1 _ (H1.ext E) (by omega)) ?_
      rintro _ w6 ⟨e6, q36, rfl, G36⟩
      have z6 := e6.size
      have E := E.trans e6
      replace G27 := G27.ext e6
      replace G29 := G29.ext e6
      replace G30_0 := G30_0.ext e6
      replace G34 := G34.ext e6
      refine ov (xassign rfl) rfl rfl rfl ?_
      refine ops_nil ?_
      refine run_seq ?_
      refine run_region ?_
      refine ov (xmove rfl) rfl rfl rfl ?_
      refine ov (xmove rfl) rfl rfl rfl ?_
      refine oc (xcall Try.call42 rfl) rfl rfl rfl (WayOf_ok _ _ _ xs0 _ _ _ xs1 _ (G34.sl) hc0 (G36.sl)) ?_
      rintro _ w7 ⟨e7, q40_0, m40_0, d40_0, rfl, G40_0⟩
      have z7 := e7.size
      have E := E.trans e7
      replace G27 := G27.ext e7
      replace G29 := G29.ext e7
      replace G30_0 := G30_0.ext e7
      replace G34 := G34.ext e7
      replace G36 := G36.ext e7
      have lG40_0 := G40_0.len
      have hl_ := wayOf_len xs0 xs1
      refine ov (xmove rfl) rfl rfl rfl ?_
      refine ov (xextract rfl rfl) rfl rfl rfl ?_
      refine ov (xextract rfl rfl) rfl rfl rfl ?_
      refine ov (xassign rfl) rfl rfl rfl ?_
      refine ov (xassign rfl) rfl rfl rfl ?_
      refine ops_nil ?_
      refine run_seq ?_
      refine run_seq ?_
      refine run_region ?_
      refine ov (xmove rfl) rfl rfl rfl ?_
      refine ov (xmove rfl) rfl rfl rfl ?_
      refine oc (xcall Try.call35 rfl) rfl rfl rfl (eqInt64S_ok _ _ _ _ _ _ _ _ _ (G40_0.sl) (G30_0.sl)) ?_
      rintro _ w8 ⟨rfl, e8⟩
      have z8 := e8.size
      have E := E.trans e8
      replace G27 := G27.ext e8
      replace G29 := G29.ext e8
      replace G30_0 := G30_0.ext e8
      replace G34 := G34.ext e8
      replace G36 := G36.ext e8
      replace G40_0 := G40_0.ext e8
      refine obs (fun c45 => ?_) (fun c45 => ?_)
      ·
        refine ov (xnot rfl) rfl rfl rfl ?_
        refine ov (xmove rfl) rfl rfl rfl ?_
        refine ov (xmove rfl) rfl rfl rfl ?_
        refine ov (xmove rfl) rfl rfl rfl ?_
        refine ov (xneq rfl rfl _ rfl) rfl rfl rfl ?_
        refine ods (fun c50 => ?_) (fun c50 => ?_)
        · exfalso; first | exact absurd rfl c50 | omega
        ·
          refine ov (xpick_f rfl rfl) rfl rfl rfl ?_
          refine ops_nil ?_
          refine run_cond_f rfl ?_
          refine run_skip ?_
          refine run_seq ?_
          refine run_seq ?_
          refine run_region ?_
          refine ov (xmove rfl) rfl rfl rfl ?_
          refine ov (xmove rfl) rfl rfl rfl ?_
          refine oc (xcall Try.call27 rfl) rfl rfl rfl (toQuestionS_ok _ _ _ xs0 _ (H0.ext E) (by omega)) ?_
          rintro _ w9 ⟨e9, q54, rfl, G54⟩
          have z9 := e9.size
          have E := E.trans e9
          replace G27 := G27.ext e9
          replace G29 := G29.ext e9
          replace G30_0 := G30_0.ext e9
          replace G34 := G34.ext e9
          replace G36 := G36.ext e9
          replace G40_0 := G40_0.ext e9
          refine oc (xcall Try.call29 rfl) rfl rfl rfl (eqQuestionS_ok _ _ _ _ _ _ _ _ _ (G34.sl) (G54.sl)) ?_
          rintro _ w10 ⟨rfl, e10⟩
          have z10 := e10.size
          have E := E.trans e10
          replace G27 := G27.ext e10
          replace G29 := G29.ext e10
          replace G30_0 := G30_0.ext e10
          replace G34 := G34.ext e10
          replace G36 := G36.ext e10
          replace G40_0 := G40_0.ext e10
          replace G54 := G54.ext e10
          refine obs (fun c55 => ?_) (fun c55 => ?_)
          ·
            refine ov (xnot rfl) rfl rfl rfl ?_
            refine ops_nil ?_
            refine run_cond_f rfl ?_
            refine run_skip ?_
            refine run_seq ?_
            refine run_seq ?_
            refine run_region ?_
            refine ov (xmove rfl) rfl rfl rfl ?_
            refine ov (xmove rfl) rfl rfl rfl ?_
            refine oc (xcall Try.call33 rfl) rfl rfl rfl (toInt64S_ok _ _ _ xs1 _ (H1.ext E) (by omega)) ?_
            rintro _ w11 ⟨e11, q59, rfl, G59⟩
            have z11 := e11.size
            have E := E.trans e11
            replace G27 := G27.ext e11
            replace G29 := G29.ext e11
            replace G30_0 := G30_0.ext e11
            replace G34 := G34.ext e11
            replace G36 := G36.ext e11
            replace G40_0 := G40_0.ext e11
            replace G54 := G54.ext e11
            refine oc (xcall Try.call35 rfl) rfl rfl rfl (eqInt64S_ok _ _ _ _ _ _ _ _ _ (G36.sl) (G59.sl)) ?_
            rintro _ w12 ⟨rfl, e12⟩
            have z12 := e12.size
            have E := E.trans e12
            replace G27 := G27.ext e12
            replace G29 := G29.ext e12
            replace G30_0 := G30_0.ext e12
            replace G34 := G34.ext e12
            replace G36 := G36.ext e12
            replace G40_0 := G40_0.ext e12
            replace G54 := G54.ext e12
            replace G59 := G59.ext e12
            refine obs (fun c60 => ?_) (fun c60 => ?_)
            ·
              refine ov (xnot rfl) rfl rfl rfl ?_
              refine ops_nil ?_
              refine run_cond_f rfl ?_
              refine run_skip ?_
              refine run_seq ?_
              refine run_region ?_
              refine ov (xassign rfl) rfl rfl rfl ?_
              refine ops_nil ?_
              refine run_seq ?_
              refine run_region ?_
              refine ov (xmove rfl) rfl rfl rfl ?_
              refine ov (xmove rfl) rfl rfl rfl ?_
              refine oc (xcall Try.call43 rfl) rfl rfl rfl (markQuestionS_ok _ _ _ _ _ _ _ _ G34 (by omega) (by omega) (by omega)) ?_
              rintro _ w13 ⟨rfl, m13, g13⟩
              have z13 := m13.size
              have E := m13.toExt E (by omega)
              replace G27 := G27.off m13 (by omega)
              replace G29 := G29.off m13 (by omega)
              replace G30_0 := G30_0.off m13 (by omega)
              replace G36 := G36.off m13 (by omega)
              replace G40_0 := G40_0.off m13 (by omega)
              replace G54 := G54.off m13 (by omega)
              replace G59 := G59.off m13 (by omega)
              replace G34 := g13
              refine ov (xassign rfl) rfl rfl rfl ?_
              refine ops_nil ?_
              refine run_seq ?_
              refine run_region ?_
              refine ov (xmove rfl) rfl rfl rfl ?_
              refine ov (xmove rfl) rfl rfl rfl ?_
              refine oc (xcall Try.call44 rfl) rfl rfl rfl (markInt64S_ok _ _ _ _ _ _ _ _ G36 (by omega) (by omega) (by omega)) ?_
              rintro _ w14 ⟨rfl, m14, g14⟩
              have z14 := m14.size
              have E := m14.toExt E (by omega)
              replace G27 := G27.off m14 (by omega)
              replace G29 := G29.off m14 (by omega)
              replace G30_0 := G30_0.off m14 (by omega)
              replace G34 := G34.off m14 (by omega)
              replace G40_0 := G40_0.off m14 (by omega)
              replace G54 := G54.off m14 (by omega)
              replace G59 := G59.off m14 (by omega)
              replace G36 := g14
              refine ov (xassign rfl) rfl rfl rfl ?_
              refine ops_nil ?_
              refine run_seq ?_
              refine run_seq ?_
              refine run_region ?_
              refine ov (xmove rfl) rfl rfl rfl ?_
              refine ov (xlss rfl rfl _ rfl) rfl rfl rfl ?_
              refine ods (fun c69 => ?_) (fun c69 => ?_)
              · exfalso; omega
              ·
                refine ov (xmove rfl) rfl rfl rfl ?_
                refine ov (xmove rfl) rfl rfl rfl ?_
                refine ov (xmove rfl) rfl rfl rfl ?_
                refine oc (xcall Try.call35 rfl) rfl rfl rfl (eqInt64S_ok _ _ _ _ _ _ _ _ _ (G40_0.sl) (G30_0.sl)) ?_
                rintro _ w15 ⟨rfl, e15⟩
                have z15 := e15.size
                have E := E.trans e15
                replace G27 := G27.ext e15
                replace G29 := G29.ext e15
                replace G30_0 := G30_0.ext e15
                replace G34 := G34.ext e15
                replace G36 := G36.ext e15
                replace G40_0 := G40_0.ext e15
                replace G54 := G54.ext e15
                replace G59 := G59.ext e15
                refine obs (fun c73 => ?_) (fun c73 => ?_)
                ·
                  refine ov (xnot rfl) rfl rfl rfl ?_
                  refine ov (xpick_f rfl rfl) rfl rfl rfl ?_
                  refine ov (xmove rfl) rfl rfl rfl ?_
                  refine ov (xmove rfl) rfl rfl rfl ?_
                  refine ov (xmove rfl) rfl rfl rfl ?_
                  refine ov (xneq rfl rfl _ rfl) rfl rfl rfl ?_
                  refine ods (fun c79 => ?_) (fun c79 => ?_)
                  · exfalso; first | exact absurd rfl c79 | omega
                  ·
                    refine ov (xpick_f rfl rfl) rfl rfl rfl ?_
                    refine ops_nil ?_
                    refine run_cond_f rfl ?_
                    refine run_skip ?_
                    refine run_seq ?_
                    refine run_region ?_
                    refine ov (xassign rfl) rfl rfl rfl ?_
                    refine ops_nil ?_
                    refine run_seq ?_
                    refine run_region ?_
                    refine ov (xmove rfl) rfl rfl rfl ?_
                    refine ov (xmove rfl) rfl rfl rfl ?_
                    refine oc (xcall Try.call44 rfl) rfl rfl rfl (markInt64S_ok _ _ _ _ _ _ _ _ G40_0 (by omega) (by omega) (by omega)) ?_
                    rintro _ w16 ⟨rfl, m16, g16⟩
                    have z16 := m16.size
                    have E := m16.toExt E (by omega)
                    replace G27 := G27.off m16 (by omega)
                    replace G29 := G29.off m16 (by omega)
                    replace G30_0 := G30_0.off m16 (by omega)
                    replace G34 := G34.off m16 (by omega)
                    replace G36 := G36.off m16 (by omega)
                    replace G54 := G54.off m16 (by omega)
                    replace G59 := G59.off m16 (by omega)
                    replace G40_0 := g16
                    refine ov (xassign rfl) rfl rfl rfl ?_
                    refine ops_nil ?_
                    refine run_seq ?_
                    refine run_region ?_
                    refine ov (xassign rfl) rfl rfl rfl ?_
                    refine ops_nil ?_
                    refine run_seq ?_
                    refine run_region ?_
                    refine ov (xmove rfl) rfl rfl rfl ?_
                    refine ov (xmove rfl) rfl rfl rfl ?_
                    refine oc (xcall Try.call45 rfl) rfl rfl rfl (heldInt64S_ok _ _ _ _ _ _ (G40_0.sl) (by omega) (by omega) (by omega)) ?_
                    rintro _ w17 ⟨rfl, e17⟩
                    have z17 := e17.size
                    have E := E.trans e17
                    replace G27 := G27.ext e17
                    replace G29 := G29.ext e17
                    replace G30_0 := G30_0.ext e17
                    replace G34 := G34.ext e17
                    replace G36 := G36.ext e17
                    replace G40_0 := G40_0.ext e17
                    replace G54 := G54.ext e17
                    replace G59 := G59.ext e17
                    refine ov (xassign rfl) rfl rfl rfl ?_
                    refine ops_nil ?_
                    refine run_seq ?_
                    refine run_seq ?_
                    refine run_region ?_
                    refine ov (xmove rfl) rfl rfl rfl ?_
                    refine ov (xlss rfl rfl _ rfl) rfl rfl rfl ?_
                    refine ods (fun c88 => ?_) (fun c88 => ?_)
                    · exfalso; omega
                    ·
                      refine ops_nil ?_
                      refine run_cond_f rfl ?_
                      refine run_skip ?_
                      refine run_seq ?_
                      refine run_seq ?_
                      refine run_region ?_
                      refine ov (xmove rfl) rfl rfl rfl ?_
                      refine ov (xmove rfl) rfl rfl rfl ?_
                      refine ov (xneq rfl rfl _ rfl) rfl rfl rfl ?_
                      refine ods (fun c91 => ?_) (fun c91 => ?_)
                      · exfalso; first | exact absurd rfl c91 | omega
                      ·
                        refine ops_nil ?_
                        refine run_cond_f rfl ?_
                        refine run_skip ?_
                        refine run_seq ?_
                        refine run_region ?_
                        refine ov (xmove rfl) rfl rfl rfl ?_
                        refine oc (xcall Try.call27 rfl) rfl rfl rfl (toQuestionS_ok _ _ _ xs0 _ (H0.ext E) (by omega)) ?_
                        rintro _ w18 ⟨e18, q94, rfl, G94⟩
                        have z18 := e18.size
                        have E := E.trans e18
                        replace G27 := G27.ext e18
                        replace G29 := G29.ext e18
                        replace G30_0 := G30_0.ext e18
                        replace G34 := G34.ext e18
                        replace G36 := G36.ext e18
                        replace G40_0 := G40_0.ext e18
                        replace G54 := G54.ext e18
                        replace G59 := G59.ext e18
                        refine ov (xmove rfl) rfl rfl rfl ?_
                        refine oc (xcall Try.call33 rfl) rfl rfl rfl (toInt64S_ok _ _ _ xs1 _ (H1.ext E) (by omega)) ?_
                        rintro _ w19 ⟨e19, q96, rfl, G96⟩
                        have z19 := e19.size
                        have E := E.trans e19
                        replace G27 := G27.ext e19
                        replace G29 := G29.ext e19
                        replace G30_0 := G30_0.ext e19
                        replace G34 := G34.ext e19
                        replace G36 := G36.ext e19
                        replace G40_0 := G40_0.ext e19
                        replace G54 := G54.ext e19
                        replace G59 := G59.ext e19
                        replace G94 := G94.ext e19
                        refine oc (xcall Try.call42 rfl) rfl rfl rfl (WayOf_ok _ _ _ xs0 _ _ _ xs1 _ (G94.sl) hc0 (G96.sl)) ?_
                        rintro _ w20 ⟨e20, q97_0, m97_0, d97_0, rfl, G97_0⟩
                        have z20 := e20.size
                        have E := E.trans e20
                        replace G27 := G27.ext e20
                        replace G29 := G29.ext e20
                        replace G30_0 := G30_0.ext e20
                        replace G34 := G34.ext e20
                        replace G36 := G36.ext e20
                        replace G40_0 := G40_0.ext e20
                        replace G54 := G54.ext e20
                        replace G59 := G59.ext e20
                        replace G94 := G94.ext e20
                        replace G96 := G96.ext e20
                        have lG97_0 := G97_0.len
                        have hl_ := wayOf_len xs0 xs1
                        refine ov (xmove rfl) rfl rfl rfl ?_
                        refine ov (xextract rfl rfl) rfl rfl rfl ?_
                        refine ov (xextract rfl rfl) rfl rfl rfl ?_
                        refine ov (xassign rfl) rfl rfl rfl ?_
                        refine ov (xassign rfl) rfl rfl rfl ?_
                        refine ops_nil ?_
                        refine run_seq ?_
                        refine run_seq ?_
                        refine run_region ?_
                        refine ov (xmove rfl) rfl rfl rfl ?_
                        refine ov (xmove rfl) rfl rfl rfl ?_
                        refine oc (xcall Try.call35 rfl) rfl rfl rfl (eqInt64S_ok _ _ _ _ _ _ _ _ _ (G97_0.sl) (G30_0.sl)) ?_
                        rintro _ w21 ⟨rfl, e21⟩
                        have z21 := e21.size
                        have E := E.trans e21
                        replace G27 := G27.ext e21
                        replace G29 := G29.ext e21
                        replace G30_0 := G30_0.ext e21
                        replace G34 := G34.ext e21
                        replace G36 := G36.ext e21
                        replace G40_0 := G40_0.ext e21
                        replace G54 := G54.ext e21
                        replace G59 := G59.ext e21
                        replace G94 := G94.ext e21
                        replace G96 := G96.ext e21
                        replace G97_0 := G97_0.ext e21
                        refine obs (fun c102 => ?_) (fun c102 => ?_)
                        ·
                          refine ov (xnot rfl) rfl rfl rfl ?_
                          refine ov (xmove rfl) rfl rfl rfl ?_
                          refine ov (xmove rfl) rfl rfl rfl ?_
                          refine ov (xmove rfl) rfl rfl rfl ?_
                          refine ov (xneq rfl rfl _ rfl) rfl rfl rfl ?_
                          refine ods (fun c107 => ?_) (fun c107 => ?_)
                          · exfalso; first | exact absurd rfl c107 | omega
                          ·
                            refine ov (xpick_f rfl rfl) rfl rfl rfl ?_
                            refine ops_nil ?_
                            refine run_cond_f rfl ?_
                            refine run_skip ?_
                            refine run_seq ?_
                            refine run_region ?_
                            refine ov (xassign rfl) rfl rfl rfl ?_
                            refine ops_nil ?_
                            refine run_seq ?_
                            refine run_region ?_
                            refine ov (xmove rfl) rfl rfl rfl ?_
                            refine ov (xmove rfl) rfl rfl rfl ?_
                            refine oc (xcall Try.call45 rfl) rfl rfl rfl (heldInt64S_ok _ _ _ _ _ _ (G40_0.sl) (by omega) (by omega) (by omega)) ?_
                            rintro _ w22 ⟨rfl, e22⟩
                            have z22 := e22.size
                            have E := E.trans e22
                            replace G27 := G27.ext e22
                            replace G29 := G29.ext e22
                            replace G30_0 := G30_0.ext e22
                            replace G34 := G34.ext e22
                            replace G36 := G36.ext e22
                            replace G40_0 := G40_0.ext e22
                            replace G54 := G54.ext e22
                            replace G59 := G59.ext e22
                            replace G94 := G94.ext e22
                            replace G96 := G96.ext e22
                            replace G97_0 := G97_0.ext e22
                            refine ov (xassign rfl) rfl rfl rfl ?_
                            refine ops_nil ?_
                            refine run_seq ?_
                            refine run_seq ?_
                            refine run_region ?_
                            refine ov (xmove rfl) rfl rfl rfl ?_
                            refine ov (xlss rfl rfl _ rfl) rfl rfl rfl ?_
                            refine ods (fun c113 => ?_) (fun c113 => ?_)
                            · exfalso; omega
                            ·
                              refine ops_nil ?_
                              refine run_cond_f rfl ?_
                              refine run_skip ?_
                              refine run_seq ?_
                              refine run_seq ?_
                              refine run_region ?_
                              refine ov (xmove rfl) rfl rfl rfl ?_
                              refine ov (xmove rfl) rfl rfl rfl ?_
                              refine ov (xneq rfl rfl _ rfl) rfl rfl rfl ?_
                              refine ods (fun c116 => ?_) (fun c116 => ?_)
                              · exfalso; first | exact absurd rfl c116 | omega
                              ·
                                refine ops_nil ?_
                                refine run_cond_f rfl ?_
                                refine run_skip ?_
                                refine run_seq ?_
                                refine run_region ?_
                                refine ov (xassign rfl) rfl rfl rfl ?_
                                refine ops_nil ?_
                                refine run_ret Try.func7 (res1 rfl rfl) ?_
                                exact ⟨_, rfl, pv E⟩
                        · exfalso; rw [eqL_refl eqI_refl] at c102; cases c102
                · exfalso; rw [eqL_refl eqI_refl] at c73; cases c73
            · exfalso; rw [eqL_refl eqI_refl] at c60; cases c60
          · exfalso; rw [eqL_refl eqQuestion_refl] at c55; cases c55
      · exfalso; rw [eqL_refl eqI_refl] at c45; cases c45
end Go.Proofs.Ytinpkihmkfiidaa
