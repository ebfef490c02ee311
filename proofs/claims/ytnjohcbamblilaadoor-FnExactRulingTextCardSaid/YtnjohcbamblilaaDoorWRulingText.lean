/-
  The walk of the law FnExactRulingText. No condition beyond those written in the theorem.
-/
import Derived.Test.YtnjohcbamblilaaDoorRulRead
import Derived.Test.YtnjohcbamblilaaDoorRulText
namespace Go.Proofs.YtnjohcbamblilaaDoor
open Go.RowKit
set_option linter.unusedVariables false
set_option linter.unusedSimpArgs false
set_option linter.unusedSectionVars false
set_option maxRecDepth 4000

set_option maxHeartbeats 400000 in
theorem FnExactRulingText_ok (w : World) (r0 : Ruling) (hr0 : r0.ok) (hT : Tab w) : Ret Tryd.prog 3 [.agg #[.int .i64 r0.Day, .string r0.Code, .int .i64 r0.Kind]] w (Pv w (.bool true)) := by
  refine ret_of_run (N := 33) Tryd.func3 rfl rfl rfl ?_
  have E : Ext w w := Ext.refl w
  refine run_seq ?_
  refine run_region ?_
  refine obox rfl rfl rfl ?_
  intro b1 w1 e1 hb1 hz1 O1
  have E := E.trans e1
  replace O1 : Own w1 b1 [.int .i64 r0.Day, .string r0.Code, .int .i64 r0.Kind] 23 := O1
  refine ov (xassign rfl) rfl rfl rfl ?_
  refine ops_nil ?_
  refine run_seq ?_
  refine run_region ?_
  refine ov (xassign rfl) rfl rfl rfl ?_
  refine ops_nil ?_
  refine run_seq ?_
  refine run_region ?_
  refine ov (v := .agg #[.int .i64 r0.Day, .string r0.Code, .int .i64 r0.Kind]) (xloadN Tryd.isAgg23 Tryd.sizeOf23 rfl (O1.cells) rfl) rfl rfl rfl ?_
  refine ov (xmove rfl) rfl rfl rfl ?_
  refine oc (xcall Tryd.call6 rfl) rfl rfl rfl (szRuling_ok r0 1048576 _ hr0 (by omega) (by omega)) ?_
  rintro _ w2 ⟨rfl, e2⟩
  have z2 := e2.size
  have E := E.trans e2
  replace O1 := O1.ext e2
  refine ov (xassign rfl) rfl rfl rfl ?_
  refine ops_nil ?_
  refine run_seq ?_
  refine run_seq ?_
  refine run_region ?_
  refine ov (xmove rfl) rfl rfl rfl ?_
  refine ov (xlss rfl rfl _ rfl) rfl rfl rfl ?_
  refine ods (fun c12 => ?_) (fun c12 => ?_)
  ·
    refine ops_nil ?_
    refine run_cond_t rfl ?_
    refine run_seq ?_
    refine run_region ?_
    refine ov (xassign rfl) rfl rfl rfl ?_
    refine ops_nil ?_
    refine run_ret Tryd.func3 (res1 rfl rfl) ?_
    exact ⟨_, rfl, pv E⟩
  ·
    have hz0_ := (szRuling_le r0 1048576 (by omega)).2
    refine ops_nil ?_
    refine run_cond_f rfl ?_
    refine run_skip ?_
    refine run_seq ?_
    refine run_region ?_
    refine ov (v := .agg #[.int .i64 r0.Day, .string r0.Code, .int .i64 r0.Kind]) (xloadN Tryd.isAgg23 Tryd.sizeOf23 rfl (O1.cells) rfl) rfl rfl rfl ?_
    refine oc (xcall Tryd.call8 rfl) rfl rfl rfl (toRuling_ok r0 _) ?_
    rintro _ w3 ⟨rfl, e3⟩
    have z3 := e3.size
    have E := E.trans e3
    replace O1 := O1.ext e3
    refine oc (xcall Tryd.call7 rfl) rfl rfl rfl (sRulingText_ok r0 _ (by first | omega | exact hr0.2.1)) ?_
    rintro _ w4 ⟨rfl, e4⟩
    have z4 := e4.size
    have E := E.trans e4
    replace O1 := O1.ext e4
    refine ov (xmove rfl) rfl rfl rfl ?_
    refine ov (xextract rfl rfl) rfl rfl rfl ?_
    refine ov (xextract rfl rfl) rfl rfl rfl ?_
    refine ov (xassign rfl) rfl rfl rfl ?_
    refine ov (xassign rfl) rfl rfl rfl ?_
    refine ops_nil ?_
    refine run_seq ?_
    refine run_region ?_
    refine ov (v := .agg #[.int .i64 r0.Day, .string r0.Code, .int .i64 r0.Kind]) (xloadN Tryd.isAgg23 Tryd.sizeOf23 rfl (O1.cells) rfl) rfl rfl rfl ?_
    refine oc (xcall Tryd.call8 rfl) rfl rfl rfl (toRuling_ok r0 _) ?_
    rintro _ w5 ⟨rfl, e5⟩
    have z5 := e5.size
    have E := E.trans e5
    replace O1 := O1.ext e5
    refine oc (xcall Tryd.call9 rfl) rfl rfl rfl (RulingText_ok r0 _ (by first | omega | exact hr0.2.1) (hT.ext E)) ?_
    rintro _ w6 ⟨rfl, e6⟩
    have z6 := e6.size
    have E := E.trans e6
    replace O1 := O1.ext e6
    refine ov (xmove rfl) rfl rfl rfl ?_
    refine ov (xextract rfl rfl) rfl rfl rfl ?_
    refine ov (xextract rfl rfl) rfl rfl rfl ?_
    refine ov (xassign rfl) rfl rfl rfl ?_
    refine ov (xassign rfl) rfl rfl rfl ?_
    refine ops_nil ?_
    refine run_seq ?_
    refine run_seq ?_
    refine run_region ?_
    refine ov (xmove rfl) rfl rfl rfl ?_
    refine ov (xmove rfl) rfl rfl rfl ?_
    refine ov (xsneq rfl rfl _ rfl) rfl rfl rfl ?_
    refine ods (fun c27 => ?_) (fun c27 => ?_)
    · exfalso; exact absurd rfl c27
    ·
      refine ov (xmove rfl) rfl rfl rfl ?_
      refine ov (xmove rfl) rfl rfl rfl ?_
      refine ov (xmove rfl) rfl rfl rfl ?_
      refine ov (xneq rfl rfl _ rfl) rfl rfl rfl ?_
      refine ods (fun c31 => ?_) (fun c31 => ?_)
      · exfalso; first | exact absurd rfl c31 | omega
      ·
        refine ov (xpick_f rfl rfl) rfl rfl rfl ?_
        refine ops_nil ?_
        refine run_cond_f rfl ?_
        refine run_skip ?_
        refine run_seq ?_
        refine run_region ?_
        refine ov (xassign rfl) rfl rfl rfl ?_
        refine ops_nil ?_
        refine run_ret Tryd.func3 (res1 rfl rfl) ?_
        exact ⟨_, rfl, pv E⟩
end Go.Proofs.YtnjohcbamblilaaDoor
