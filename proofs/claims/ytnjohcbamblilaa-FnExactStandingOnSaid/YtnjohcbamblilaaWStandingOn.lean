/-
  The walk of the law FnExactStandingOn. No condition beyond those written in the theorem.
-/
import Derived.Test.YtnjohcbamblilaaRulRead
import Derived.Test.YtnjohcbamblilaaStanding
namespace Go.Proofs.Ytnjohcbamblilaa
open Go.RowKit
set_option linter.unusedVariables false
set_option linter.unusedSimpArgs false
set_option linter.unusedSectionVars false
set_option maxRecDepth 4000

set_option maxHeartbeats 400000 in
theorem FnExactStandingOn_ok (w : World) (p0 : Option Addr) (n0 c0 : Nat) (xs0 : List Ruling) (H0 : Sl Ruling.cells 3 w p0 n0 c0 xs0) (hx0 : ∀ x ∈ xs0, x.ok) (s1 : ByteArray) (hs1 : s1.size ≤ 9223372036854775807) (k2 : Int) (hk2 : I64 k2) : Ret Try.prog 4 [.slice p0 n0 c0, .string s1, .int .i64 k2] w (Pv w (.bool true)) := by
  refine ret_of_run (N := 51) Try.func4 rfl rfl rfl ?_
  have hn0 := H0.len
  have hc0 := fun x (h : x ∈ xs0) => (hx0 x h).2.1
  have E : Ext w w := Ext.refl w
  refine run_seq ?_
  refine run_region ?_
  refine ov (xassign rfl) rfl rfl rfl ?_
  refine ops_nil ?_
  refine run_seq ?_
  refine run_seq ?_
  refine run_region ?_
  refine ov (xmove rfl) rfl rfl rfl ?_
  refine ov (xlens Try.underlying9 rfl) rfl rfl rfl ?_
  refine ov (xgtr rfl rfl _ rfl) rfl rfl rfl ?_
  refine ods (fun c15 => ?_) (fun c15 => ?_)
  ·
    refine ops_nil ?_
    refine run_cond_t rfl ?_
    refine run_seq ?_
    refine run_region ?_
    refine ov (xassign rfl) rfl rfl rfl ?_
    refine ops_nil ?_
    refine run_ret Try.func4 (res1 rfl rfl) ?_
    exact ⟨_, rfl, pv E⟩
  ·
    refine ops_nil ?_
    refine run_cond_f rfl ?_
    refine run_skip ?_
    refine run_seq ?_
    refine run_region ?_
    refine ov (xassign rfl) rfl rfl rfl ?_
    refine ops_nil ?_
    refine run_seq ?_
    refine run_region ?_
    refine ov (xmove rfl) rfl rfl rfl ?_
    refine ov (xmove rfl) rfl rfl rfl ?_
    refine oc (xcall Try.call18 rfl) rfl rfl rfl (szRulingS_ok _ _ _ xs0 1048576 _ (H0.ext E) hx0 (by omega) (by omega)) ?_
    rintro _ w1 ⟨rfl, e1⟩
    have z1 := e1.size
    have E := E.trans e1
    refine ov (xassign rfl) rfl rfl rfl ?_
    refine ops_nil ?_
    refine run_seq ?_
    refine run_seq ?_
    refine run_region ?_
    refine ov (xmove rfl) rfl rfl rfl ?_
    refine ov (xlss rfl rfl _ rfl) rfl rfl rfl ?_
    refine ods (fun c20 => ?_) (fun c20 => ?_)
    ·
      refine ops_nil ?_
      refine run_cond_t rfl ?_
      refine run_seq ?_
      refine run_region ?_
      refine ov (xassign rfl) rfl rfl rfl ?_
      refine ops_nil ?_
      refine run_ret Try.func4 (res1 rfl rfl) ?_
      exact ⟨_, rfl, pv E⟩
    ·
      have hz0_ := szS_len szRuling_le (by omega : 0 ≤ szS szRuling xs0 1048576)
      refine ops_nil ?_
      refine run_cond_f rfl ?_
      refine run_skip ?_
      refine run_seq ?_
      refine run_region ?_
      refine ov (xmove rfl) rfl rfl rfl ?_
      refine oc (xcall Try.call20 rfl) rfl rfl rfl (toRulingS_ok _ _ _ xs0 _ (H0.ext E) (by omega)) ?_
      rintro _ w2 ⟨e2, q23, rfl, G23⟩
      have z2 := e2.size
      have E := E.trans e2
      refine ov (xmove rfl) rfl rfl rfl ?_
      refine ov (xmove rfl) rfl rfl rfl ?_
      refine oc (xcall Try.call23 rfl) rfl rfl rfl (sStandingOn_ok _ _ _ xs0 s1 k2 _ (G23.sl) hc0 hs1) ?_
      rintro _ w3 ⟨rfl, e3⟩
      have z3 := e3.size
      have E := E.trans e3
      replace G23 := G23.ext e3
      refine ov (xmove rfl) rfl rfl rfl ?_
      refine ov (xextract rfl rfl) rfl rfl rfl ?_
      refine ov (xextract rfl rfl) rfl rfl rfl ?_
      refine ov (xassign rfl) rfl rfl rfl ?_
      refine ov (xassign rfl) rfl rfl rfl ?_
      refine ops_nil ?_
      refine run_seq ?_
      refine run_region ?_
      refine ov (xmove rfl) rfl rfl rfl ?_
      refine oc (xcall Try.call20 rfl) rfl rfl rfl (toRulingS_ok _ _ _ xs0 _ (H0.ext E) (by omega)) ?_
      rintro _ w4 ⟨e4, q30, rfl, G30⟩
      have z4 := e4.size
      have E := E.trans e4
      replace G23 := G23.ext e4
      refine ov (xassign rfl) rfl rfl rfl ?_
      refine ops_nil ?_
      refine run_seq ?_
      refine run_region ?_
      refine ov (xmove rfl) rfl rfl rfl ?_
      refine ov (xmove rfl) rfl rfl rfl ?_
      refine ov (xmove rfl) rfl rfl rfl ?_
      refine oc (xcall Try.call24 rfl) rfl rfl rfl (StandingOn_ok _ _ _ xs0 s1 k2 _ (G30.sl) hc0 hs1) ?_
      rintro _ w5 ⟨rfl, e5⟩
      have z5 := e5.size
      have E := E.trans e5
      replace G23 := G23.ext e5
      replace G30 := G30.ext e5
      refine ov (xmove rfl) rfl rfl rfl ?_
      refine ov (xextract rfl rfl) rfl rfl rfl ?_
      refine ov (xextract rfl rfl) rfl rfl rfl ?_
      refine ov (xassign rfl) rfl rfl rfl ?_
      refine ov (xassign rfl) rfl rfl rfl ?_
      refine ops_nil ?_
      refine run_seq ?_
      refine run_seq ?_
      refine run_region ?_
      refine ov (xmove rfl) rfl rfl rfl ?_
      refine ov (xmove rfl) rfl rfl rfl ?_
      refine ov (xneq rfl rfl _ rfl) rfl rfl rfl ?_
      refine ods (fun c40 => ?_) (fun c40 => ?_)
      · exfalso; exact absurd rfl c40
      ·
        refine ov (xmove rfl) rfl rfl rfl ?_
        refine ov (xmove rfl) rfl rfl rfl ?_
        refine ov (xmove rfl) rfl rfl rfl ?_
        refine ov (xneq rfl rfl _ rfl) rfl rfl rfl ?_
        refine ods (fun c44 => ?_) (fun c44 => ?_)
        · exfalso; exact absurd rfl c44
        ·
          refine ov (xpick_f rfl rfl) rfl rfl rfl ?_
          refine ops_nil ?_
          refine run_cond_f rfl ?_
          refine run_skip ?_
          refine run_seq ?_
          refine run_seq ?_
          refine run_region ?_
          refine ov (xmove rfl) rfl rfl rfl ?_
          refine ov (xmove rfl) rfl rfl rfl ?_
          refine oc (xcall Try.call20 rfl) rfl rfl rfl (toRulingS_ok _ _ _ xs0 _ (H0.ext E) (by omega)) ?_
          rintro _ w6 ⟨e6, q48, rfl, G48⟩
          have z6 := e6.size
          have E := E.trans e6
          replace G23 := G23.ext e6
          replace G30 := G30.ext e6
          refine oc (xcall Try.call22 rfl) rfl rfl rfl (eqRulingS_ok _ _ _ _ _ _ _ _ _ (G30.sl) (G48.sl)) ?_
          rintro _ w7 ⟨rfl, e7⟩
          have z7 := e7.size
          have E := E.trans e7
          replace G23 := G23.ext e7
          replace G30 := G30.ext e7
          replace G48 := G48.ext e7
          refine obs (fun c49 => ?_) (fun c49 => ?_)
          ·
            refine ov (xnot rfl) rfl rfl rfl ?_
            refine ops_nil ?_
            refine run_cond_f rfl ?_
            refine run_skip ?_
            refine run_seq ?_
            refine run_region ?_
            refine ov (xassign rfl) rfl rfl rfl ?_
            refine ops_nil ?_
            refine run_ret Try.func4 (res1 rfl rfl) ?_
            exact ⟨_, rfl, pv E⟩
          · exfalso; rw [eqL_refl eqRuling_refl] at c49; cases c49
end Go.Proofs.Ytnjohcbamblilaa
