/-
  The walk of the law FnExactReadRuling. No condition beyond those written in the theorem.
-/
import Derived.Test.YtnjohcbamblilaaDoorRulRead
import Derived.Test.YtnjohcbamblilaaDoorDoorRow
namespace Go.Proofs.YtnjohcbamblilaaDoor
open Go.RowKit
set_option linter.unusedVariables false
set_option linter.unusedSimpArgs false
set_option linter.unusedSectionVars false
set_option maxRecDepth 4000

set_option maxHeartbeats 400000 in
theorem FnExactReadRuling_ok (w : World) (s0 : ByteArray) (hs0 : s0.size ≤ 9223372036854775807) (hD : Dl w) : Ret Tryd.prog 4 [.string s0] w (Pv w (.bool true)) := by
  refine ret_of_run (N := 29) Tryd.func4 rfl rfl rfl ?_
  have E : Ext w w := Ext.refl w
  refine run_seq ?_
  refine run_region ?_
  refine ov (xassign rfl) rfl rfl rfl ?_
  refine ops_nil ?_
  refine run_seq ?_
  refine run_seq ?_
  refine run_region ?_
  refine ov (xmove rfl) rfl rfl rfl ?_
  refine ov (xlens Tryd.underlying9 rfl) rfl rfl rfl ?_
  refine ov (xgtr rfl rfl _ rfl) rfl rfl rfl ?_
  refine ods (fun c9 => ?_) (fun c9 => ?_)
  ·
    refine ops_nil ?_
    refine run_cond_t rfl ?_
    refine run_seq ?_
    refine run_region ?_
    refine ov (xassign rfl) rfl rfl rfl ?_
    refine ops_nil ?_
    refine run_ret Tryd.func4 (res1 rfl rfl) ?_
    exact ⟨_, rfl, pv E⟩
  ·
    refine ops_nil ?_
    refine run_cond_f rfl ?_
    refine run_skip ?_
    refine run_seq ?_
    refine run_region ?_
    refine ov (xmove rfl) rfl rfl rfl ?_
    refine oc (xcall Tryd.call10 rfl) rfl rfl rfl (sReadRuling_ok s0 _ (by omega)) ?_
    rintro _ w1 ⟨rfl, e1⟩
    have z1 := e1.size
    have E := E.trans e1
    refine ov (xmove rfl) rfl rfl rfl ?_
    refine ov (xextract rfl rfl) rfl rfl rfl ?_
    refine ov (xextract rfl rfl) rfl rfl rfl ?_
    refine oalloc Tryd.zeroValue27 rfl rfl ?_
    intro b2 w2 e2 hb2 hz2 O2
    have E := E.trans e2
    replace O2 : Own w2 b2 [.int .i64 0, .string ⟨#[]⟩, .int .i64 0] 27 := O2
    refine ostoreN (vs := _) Tryd.sizeOf27 rfl rfl O2 rfl (by simp) (by simp [Value.oneCell']) rfl ?_
    intro w3 on3 O3
    have hz3 := on3.size
    have E := on3.ext E (by omega)
    replace O3 : Own w3 b2 [.int .i64 (readR s0).1.Day, .string (readR s0).1.Code, .int .i64 (readR s0).1.Kind] 27 := O3
    refine ov (xassign rfl) rfl rfl rfl ?_
    refine ops_nil ?_
    refine run_seq ?_
    refine run_region ?_
    refine ov (xmove rfl) rfl rfl rfl ?_
    refine oc (xcall Tryd.call11 rfl) rfl rfl rfl (ReadRuling_ok s0 _ (by omega) (hD.ext E)) ?_
    rintro _ w4 ⟨rfl, e4⟩
    have z4 := e4.size
    have E := E.trans e4
    replace O3 := O3.ext e4
    refine ov (xmove rfl) rfl rfl rfl ?_
    refine ov (xextract rfl rfl) rfl rfl rfl ?_
    refine ov (xextract rfl rfl) rfl rfl rfl ?_
    refine oalloc Tryd.zeroValue27 rfl rfl ?_
    intro b5 w5 e5 hb5 hz5 O5
    have E := E.trans e5
    replace O3 := O3.ext e5
    replace O5 : Own w5 b5 [.int .i64 0, .string ⟨#[]⟩, .int .i64 0] 27 := O5
    refine ostoreN (vs := _) Tryd.sizeOf27 rfl rfl O5 rfl (by simp) (by simp [Value.oneCell']) rfl ?_
    intro w6 on6 O6
    have hz6 := on6.size
    have E := on6.ext E (by omega)
    replace O3 := on6.own O3 (by omega)
    replace O6 : Own w6 b5 [.int .i64 (readR s0).1.Day, .string (readR s0).1.Code, .int .i64 (readR s0).1.Kind] 27 := O6
    refine ov (xassign rfl) rfl rfl rfl ?_
    refine ops_nil ?_
    refine run_seq ?_
    refine run_seq ?_
    refine run_region ?_
    refine ov (v := .agg #[.int .i64 (readR s0).1.Day, .string (readR s0).1.Code, .int .i64 (readR s0).1.Kind]) (xloadN Tryd.isAgg27 Tryd.sizeOf27 rfl (O6.cells) rfl) rfl rfl rfl ?_
    refine ov (v := .agg #[.int .i64 (readR s0).1.Day, .string (readR s0).1.Code, .int .i64 (readR s0).1.Kind]) (xloadN Tryd.isAgg27 Tryd.sizeOf27 rfl (O3.cells) rfl) rfl rfl rfl ?_
    refine oc (xcall Tryd.call12 rfl) rfl rfl rfl (eqRuling_ok (readR s0).1 (readR s0).1 _) ?_
    rintro _ w7 ⟨rfl, e7⟩
    have z7 := e7.size
    have E := E.trans e7
    replace O3 := O3.ext e7
    replace O6 := O6.ext e7
    refine obs (fun c22 => ?_) (fun c22 => ?_)
    ·
      refine ov (xnot rfl) rfl rfl rfl ?_
      refine ov (xmove rfl) rfl rfl rfl ?_
      refine ov (xmove rfl) rfl rfl rfl ?_
      refine ov (xmove rfl) rfl rfl rfl ?_
      refine ov (xneq rfl rfl _ rfl) rfl rfl rfl ?_
      refine ods (fun c27 => ?_) (fun c27 => ?_)
      · exfalso; first | exact absurd rfl c27 | omega
      ·
        refine ov (xpick_f rfl rfl) rfl rfl rfl ?_
        refine ops_nil ?_
        refine run_cond_f rfl ?_
        refine run_skip ?_
        refine run_seq ?_
        refine run_region ?_
        refine ov (xassign rfl) rfl rfl rfl ?_
        refine ops_nil ?_
        refine run_ret Tryd.func4 (res1 rfl rfl) ?_
        exact ⟨_, rfl, pv E⟩
    · exfalso; rw [eqRuling_refl] at c22; cases c22
end Go.Proofs.YtnjohcbamblilaaDoor
