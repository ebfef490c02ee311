/-
  The walk of the law FnExactVerdictOf. No condition beyond those written in the theorem.
-/
import Derived.Test.YtinpkihmkfiidaaQuesRead
import Derived.Test.YtinpkihmkfiidaaPrimRead
import Derived.Test.YtinpkihmkfiidaaToB
import Derived.Test.YtinpkihmkfiidaaVerdict
namespace Go.Proofs.Ytinpkihmkfiidaa
open Go.RowKit
set_option linter.unusedVariables false
set_option linter.unusedSimpArgs false
set_option linter.unusedSectionVars false
set_option maxRecDepth 4000

set_option maxHeartbeats 400000 in
theorem FnExactVerdictOf_ok (w : World) (p0 : Option Addr) (n0 c0 : Nat) (xs0 : List Question) (H0 : Sl Question.cells 3 w p0 n0 c0 xs0) (hx0 : ∀ x ∈ xs0, x.ok) (p1 : Option Addr) (n1 c1 : Nat) (xs1 : List Int) (H1 : Sl i64c 1 w p1 n1 c1 xs1) (hx1 : ∀ x ∈ xs1, I64 x) : Ret Try.prog 5 [.slice p0 n0 c0, .slice p1 n1 c1] w (Pv w (.bool true)) := by
  refine ret_of_run (N := 56) Try.func5 rfl rfl rfl ?_
  have hn0 := H0.len
  have hn1 := H1.len
  have hc0 : ∀ x ∈ xs0, x.Label.size ≤ 9223372036854775807 := fun x h => (hx0 x h).1
  have E : Ext w w := Ext.refl w
  refine run_seq ?_
  refine run_region ?_
  refine ov (xassign rfl) rfl rfl rfl ?_
  refine ops_nil ?_
  refine run_seq ?_
  refine run_seq ?_
  refine run_region ?_
  refine ov (xmove rfl) rfl rfl rfl ?_
  refine ov (xlen Try.underlying31 rfl) rfl rfl rfl ?_
  refine ov (xgtr rfl rfl _ rfl) rfl rfl rfl ?_
  refine ods (fun c14 => ?_) (fun c14 => ?_)
  ·
    refine ops_nil ?_
    refine run_cond_t rfl ?_
    refine run_seq ?_
    refine run_region ?_
    refine ov (xassign rfl) rfl rfl rfl ?_
    refine ops_nil ?_
    refine run_ret Try.func5 (res1 rfl rfl) ?_
    exact ⟨_, rfl, pv E⟩
  ·
    refine ops_nil ?_
    refine run_cond_f rfl ?_
    refine run_skip ?_
    refine run_seq ?_
    refine run_region ?_
    refine ov (xassign rfl) rfl rfl rfl ?_
    refine ops_nil ?_
    refine run_seq ?_
    refine run_region ?_
    refine ov (xmove rfl) rfl rfl rfl ?_
    refine ov (xmove rfl) rfl rfl rfl ?_
    refine oc (xcall Try.call25 rfl) rfl rfl rfl (szQuestionS_ok _ _ _ xs0 1048576 _ (H0.ext E) hx0 (by omega) (by omega)) ?_
    rintro _ w1 ⟨rfl, e1⟩
    have z1 := e1.size
    have E := E.trans e1
    refine ov (xassign rfl) rfl rfl rfl ?_
    refine ops_nil ?_
    refine run_seq ?_
    refine run_seq ?_
    refine run_region ?_
    refine ov (xmove rfl) rfl rfl rfl ?_
    refine ov (xlss rfl rfl _ rfl) rfl rfl rfl ?_
    refine ods (fun c19 => ?_) (fun c19 => ?_)
    ·
      refine ops_nil ?_
      refine run_cond_t rfl ?_
      refine run_seq ?_
      refine run_region ?_
      refine ov (xassign rfl) rfl rfl rfl ?_
      refine ops_nil ?_
      refine run_ret Try.func5 (res1 rfl rfl) ?_
      exact ⟨_, rfl, pv E⟩
    ·
      have hz0_ := szS_len szQuestion_le (by omega : 0 ≤ szS szQuestion xs0 1048576)
      refine ops_nil ?_
      refine run_cond_f rfl ?_
      refine run_skip ?_
      refine run_seq ?_
      refine run_region ?_
      refine ov (xmove rfl) rfl rfl rfl ?_
      refine oc (xcall Try.call27 rfl) rfl rfl rfl (toQuestionS_ok _ _ _ xs0 _ (H0.ext E) (by omega)) ?_
      rintro _ w2 ⟨e2, q22, rfl, G22⟩
      have z2 := e2.size
      have E := E.trans e2
      refine ov (xmove rfl) rfl rfl rfl ?_
      refine oc (xcall Try.call33 rfl) rfl rfl rfl (toInt64S_ok _ _ _ xs1 _ (H1.ext E) (by omega)) ?_
      rintro _ w3 ⟨e3, q24, rfl, G24⟩
      have z3 := e3.size
      have E := E.trans e3
      replace G22 := G22.ext e3
      refine oc (xcall Try.call32 rfl) rfl rfl rfl (sVerdictOf_ok _ _ _ xs0 _ _ _ xs1 _ (G22.sl) hc0 (G24.sl)) ?_
      rintro _ w4 ⟨rfl, e4⟩
      have z4 := e4.size
      have E := E.trans e4
      replace G22 := G22.ext e4
      replace G24 := G24.ext e4
      refine ov (xmove rfl) rfl rfl rfl ?_
      refine ov (xextract rfl rfl) rfl rfl rfl ?_
      refine ov (xextract rfl rfl) rfl rfl rfl ?_
      refine ov (xassign rfl) rfl rfl rfl ?_
      refine ov (xassign rfl) rfl rfl rfl ?_
      refine ops_nil ?_
      refine run_seq ?_
      refine run_region ?_
      refine ov (xmove rfl) rfl rfl rfl ?_
      refine oc (xcall Try.call27 rfl) rfl rfl rfl (toQuestionS_ok _ _ _ xs0 _ (H0.ext E) (by omega)) ?_
      rintro _ w5 ⟨e5, q29, rfl, G29⟩
      have z5 := e5.size
      have E := E.trans e5
      replace G22 := G22.ext e5
      replace G24 := G24.ext e5
      refine ov (xassign rfl) rfl rfl rfl ?_
      refine ops_nil ?_
      refine run_seq ?_
      refine run_region ?_
      refine ov (xmove rfl) rfl rfl rfl ?_
      refine oc (xcall Try.call33 rfl) rfl rfl rfl (toInt64S_ok _ _ _ xs1 _ (H1.ext E) (by omega)) ?_
      rintro _ w6 ⟨e6, q31, rfl, G31⟩
      have z6 := e6.size
      have E := E.trans e6
      replace G22 := G22.ext e6
      replace G24 := G24.ext e6
      replace G29 := G29.ext e6
      refine ov (xassign rfl) rfl rfl rfl ?_
      refine ops_nil ?_
      refine run_seq ?_
      refine run_region ?_
      refine ov (xmove rfl) rfl rfl rfl ?_
      refine ov (xmove rfl) rfl rfl rfl ?_
      refine oc (xcall Try.call34 rfl) rfl rfl rfl (VerdictOf_ok _ _ _ xs0 _ _ _ xs1 _ (G29.sl) hc0 (G31.sl)) ?_
      rintro _ w7 ⟨rfl, e7⟩
      have z7 := e7.size
      have E := E.trans e7
      replace G22 := G22.ext e7
      replace G24 := G24.ext e7
      replace G29 := G29.ext e7
      replace G31 := G31.ext e7
      refine ov (xmove rfl) rfl rfl rfl ?_
      refine ov (xextract rfl rfl) rfl rfl rfl ?_
      refine ov (xextract rfl rfl) rfl rfl rfl ?_
      refine ov (xassign rfl) rfl rfl rfl ?_
      refine ov (xassign rfl) rfl rfl rfl ?_
      refine ops_nil ?_
      refine run_seq ?_
      refine run_seq ?_
      refine run_region ?_
      refine ov (xmove rfl) rfl rfl rfl ?_
      refine ov (xmove rfl) rfl rfl rfl ?_
      refine ov (xneq rfl rfl _ rfl) rfl rfl rfl ?_
      refine ods (fun c40 => ?_) (fun c40 => ?_)
      · exfalso; first | exact absurd rfl c40 | omega
      ·
        refine ov (xmove rfl) rfl rfl rfl ?_
        refine ov (xmove rfl) rfl rfl rfl ?_
        refine ov (xmove rfl) rfl rfl rfl ?_
        refine ov (xneq rfl rfl _ rfl) rfl rfl rfl ?_
        refine ods (fun c44 => ?_) (fun c44 => ?_)
        · exfalso; first | exact absurd rfl c44 | omega
        ·
          refine ov (xpick_f rfl rfl) rfl rfl rfl ?_
          refine ops_nil ?_
          refine run_cond_f rfl ?_
          refine run_skip ?_
          refine run_seq ?_
          refine run_seq ?_
          refine run_region ?_
          refine ov (xmove rfl) rfl rfl rfl ?_
          refine ov (xmove rfl) rfl rfl rfl ?_
          refine oc (xcall Try.call27 rfl) rfl rfl rfl (toQuestionS_ok _ _ _ xs0 _ (H0.ext E) (by omega)) ?_
          rintro _ w8 ⟨e8, q48, rfl, G48⟩
          have z8 := e8.size
          have E := E.trans e8
          replace G22 := G22.ext e8
          replace G24 := G24.ext e8
          replace G29 := G29.ext e8
          replace G31 := G31.ext e8
          refine oc (xcall Try.call29 rfl) rfl rfl rfl (eqQuestionS_ok _ _ _ _ _ _ _ _ _ (G29.sl) (G48.sl)) ?_
          rintro _ w9 ⟨rfl, e9⟩
          have z9 := e9.size
          have E := E.trans e9
          replace G22 := G22.ext e9
          replace G24 := G24.ext e9
          replace G29 := G29.ext e9
          replace G31 := G31.ext e9
          replace G48 := G48.ext e9
          refine obs (fun c49 => ?_) (fun c49 => ?_)
          ·
            refine ov (xnot rfl) rfl rfl rfl ?_
            refine ops_nil ?_
            refine run_cond_f rfl ?_
            refine run_skip ?_
            refine run_seq ?_
            refine run_seq ?_
            refine run_region ?_
            refine ov (xmove rfl) rfl rfl rfl ?_
            refine ov (xmove rfl) rfl rfl rfl ?_
            refine oc (xcall Try.call33 rfl) rfl rfl rfl (toInt64S_ok _ _ _ xs1 _ (H1.ext E) (by omega)) ?_
            rintro _ w10 ⟨e10, q53, rfl, G53⟩
            have z10 := e10.size
            have E := E.trans e10
            replace G22 := G22.ext e10
            replace G24 := G24.ext e10
            replace G29 := G29.ext e10
            replace G31 := G31.ext e10
            replace G48 := G48.ext e10
            refine oc (xcall Try.call35 rfl) rfl rfl rfl (eqInt64S_ok _ _ _ _ _ _ _ _ _ (G31.sl) (G53.sl)) ?_
            rintro _ w11 ⟨rfl, e11⟩
            have z11 := e11.size
            have E := E.trans e11
            replace G22 := G22.ext e11
            replace G24 := G24.ext e11
            replace G29 := G29.ext e11
            replace G31 := G31.ext e11
            replace G48 := G48.ext e11
            replace G53 := G53.ext e11
            refine obs (fun c54 => ?_) (fun c54 => ?_)
            ·
              refine ov (xnot rfl) rfl rfl rfl ?_
              refine ops_nil ?_
              refine run_cond_f rfl ?_
              refine run_skip ?_
              refine run_seq ?_
              refine run_region ?_
              refine ov (xassign rfl) rfl rfl rfl ?_
              refine ops_nil ?_
              refine run_ret Try.func5 (res1 rfl rfl) ?_
              exact ⟨_, rfl, pv E⟩
            · exfalso; rw [eqL_refl eqI_refl] at c54; cases c54
          · exfalso; rw [eqL_refl eqQuestion_refl] at c49; cases c49
end Go.Proofs.Ytinpkihmkfiidaa
