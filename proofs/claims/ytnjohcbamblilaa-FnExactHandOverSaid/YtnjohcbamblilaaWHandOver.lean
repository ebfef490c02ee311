/-
  The walk of the law FnExactHandOver. No condition beyond those written in the theorem.
-/
import Derived.Test.YtnjohcbamblilaaExhRead
import Derived.Test.YtnjohcbamblilaaHandO
import Derived.Test.YtnjohcbamblilaaTExhM
namespace Go.Proofs.Ytnjohcbamblilaa
open Go.RowKit
set_option linter.unusedVariables false
set_option linter.unusedSimpArgs false
set_option linter.unusedSectionVars false
set_option maxRecDepth 4000

set_option maxHeartbeats 400000 in
theorem FnExactHandOver_ok (w : World) (r0 : Exhibit) (p0_Chain : Option Addr) (n0_Chain c0_Chain : Nat) (H0_Chain : Sl Handing.cells 4 w p0_Chain n0_Chain c0_Chain r0.Chain) (hr0 : r0.ok) (r1 : Handing) (hr1 : r1.ok) : Ret Try.prog 11 [.agg #[.string r0.Code, .string r0.Found, .int .i64 r0.Day, .int .i64 r0.Seal, .slice p0_Chain n0_Chain c0_Chain], .agg #[.int .i64 r1.Day, .string r1.From, .string r1.To, .int .i64 r1.Seal]] w (Pv w (.bool true)) := by
  refine ret_of_run (N := 109) Try.func11 rfl rfl rfl ?_
  have hn0_Chain := H0_Chain.len
  have hn60_Chain := H0_Chain.n64
  have hc0 : exSmall r0 := ⟨hr0.1, hr0.2.1, fun h hh => ⟨(hr0.2.2.2.2 h hh).2.1, (hr0.2.2.2.2 h hh).2.2.1⟩⟩
  have hc1 : r1.From.size ≤ 9223372036854775807 ∧ r1.To.size ≤ 9223372036854775807 := ⟨hr1.2.1, hr1.2.2.1⟩
  have E : Ext w w := Ext.refl w
  refine run_seq ?_
  refine run_region ?_
  refine obox rfl rfl rfl ?_
  intro b1 w1 e1 hb1 hz1 O1
  have E := E.trans e1
  replace O1 : Own w1 b1 [.string r0.Code, .string r0.Found, .int .i64 r0.Day, .int .i64 r0.Seal, .slice p0_Chain n0_Chain c0_Chain] 43 := O1
  refine obox rfl rfl rfl ?_
  intro b2 w2 e2 hb2 hz2 O2
  have E := E.trans e2
  replace O1 := O1.ext e2
  replace O2 : Own w2 b2 [.int .i64 r1.Day, .string r1.From, .string r1.To, .int .i64 r1.Seal] 73 := O2
  refine ov (xassign rfl) rfl rfl rfl ?_
  refine ops_nil ?_
  refine run_seq ?_
  refine run_region ?_
  refine ov (xassign rfl) rfl rfl rfl ?_
  refine ops_nil ?_
  refine run_seq ?_
  refine run_region ?_
  refine ov (v := .agg #[.string r0.Code, .string r0.Found, .int .i64 r0.Day, .int .i64 r0.Seal, .slice p0_Chain n0_Chain c0_Chain]) (xloadN Try.isAgg43 Try.sizeOf43 rfl (O1.cells) rfl) rfl rfl rfl ?_
  refine ov (xmove rfl) rfl rfl rfl ?_
  refine oc (xcall Try.call31 rfl) rfl rfl rfl (szExhibit_ok r0 1048576 _ _ _ _ (H0_Chain.ext E) hr0 (by omega) (by omega)) ?_
  rintro _ w3 ⟨rfl, e3⟩
  have z3 := e3.size
  have E := E.trans e3
  replace O1 := O1.ext e3
  replace O2 := O2.ext e3
  refine ov (xassign rfl) rfl rfl rfl ?_
  refine ops_nil ?_
  refine run_seq ?_
  refine run_seq ?_
  refine run_region ?_
  refine ov (xmove rfl) rfl rfl rfl ?_
  refine ov (xlss rfl rfl _ rfl) rfl rfl rfl ?_
  refine ods (fun c20 => ?_) (fun c20 => ?_)
  ·
    refine ops_nil ?_
    refine run_cond_t rfl ?_
    refine run_seq ?_
    refine run_region ?_
    refine ov (xassign rfl) rfl rfl rfl ?_
    refine ops_nil ?_
    refine run_ret Try.func11 (res1 rfl rfl) ?_
    exact ⟨_, rfl, pv E⟩
  ·
    have hz0_ := szExhibit_nn (by omega : 0 ≤ szExhibit r0 1048576)
    refine ops_nil ?_
    refine run_cond_f rfl ?_
    refine run_skip ?_
    refine run_seq ?_
    refine run_region ?_
    refine ov (v := .agg #[.int .i64 r1.Day, .string r1.From, .string r1.To, .int .i64 r1.Seal]) (xloadN Try.isAgg73 Try.sizeOf73 rfl (O2.cells) rfl) rfl rfl rfl ?_
    refine ov (xmove rfl) rfl rfl rfl ?_
    refine oc (xcall Try.call53 rfl) rfl rfl rfl (szHanding_ok r1 (szExhibit r0 1048576) _ hr1 (by omega) (by omega)) ?_
    rintro _ w4 ⟨rfl, e4⟩
    have z4 := e4.size
    have E := E.trans e4
    replace O1 := O1.ext e4
    replace O2 := O2.ext e4
    refine ov (xassign rfl) rfl rfl rfl ?_
    refine ops_nil ?_
    refine run_seq ?_
    refine run_seq ?_
    refine run_region ?_
    refine ov (xmove rfl) rfl rfl rfl ?_
    refine ov (xlss rfl rfl _ rfl) rfl rfl rfl ?_
    refine ods (fun c25 => ?_) (fun c25 => ?_)
    ·
      refine ops_nil ?_
      refine run_cond_t rfl ?_
      refine run_seq ?_
      refine run_region ?_
      refine ov (xassign rfl) rfl rfl rfl ?_
      refine ops_nil ?_
      refine run_ret Try.func11 (res1 rfl rfl) ?_
      exact ⟨_, rfl, pv E⟩
    ·
      have hz1_ := (szHanding_le r1 (szExhibit r0 1048576) (by omega)).2
      refine ops_nil ?_
      refine run_cond_f rfl ?_
      refine run_skip ?_
      refine run_seq ?_
      have RE := E
      have RO1 := O1
      have RO2 := O2
      refine run_held (ι := Option Addr × Nat × Nat × Nat × Nat × Nat) (fun x_ w' => match x_ with | (q8_0, m8_0, d8_0, la8_0, ha8_0, bx6) => Ext w4 w' ∧ Ow Handing.cells 4 77 w' la8_0 ha8_0 q8_0 m8_0 d8_0 ((handOver r0 r1).1.Chain) ∧ w4.heap.size ≤ bx6 ∧ Own w' bx6 [.string (handOver r0 r1).1.Code, .string (handOver r0 r1).1.Found, .int .i64 (handOver r0 r1).1.Day, .int .i64 (handOver r0 r1).1.Seal, .slice q8_0 m8_0 d8_0] 49 ∧ (w4.heap.size ≤ la8_0 ∧ ha8_0 ≤ w'.heap.size ∧ (bx6 < la8_0 ∨ ha8_0 ≤ bx6))) (fun x_ => match x_ with | (q8_0, m8_0, d8_0, la8_0, ha8_0, bx6) => [(2, .pointer (some ⟨b1, 0, none⟩)), (3, .pointer (some ⟨b2, 0, none⟩)), (4, .bool false), (7, .int .i64 (handOver r0 r1).2), (6, .pointer (some ⟨bx6, 0, none⟩))]) (by kernel_rfl) ?_ ?_
      · intro w0_ F
        have z0_ := F.size
        have E := E.trans F
        replace O1 := O1.ext F
        replace O2 := O2.ext F
        refine h_take 0 (v := .agg #[.string r0.Code, .string r0.Found, .int .i64 r0.Day, .int .i64 r0.Seal, .slice p0_Chain n0_Chain c0_Chain]) rfl (by kernel_rfl) (by kernel_rfl) (by kernel_rfl) (fun w' x_ => xloadN Try.isAgg43 Try.sizeOf43 rfl ((RO1.cells).ext x_) rfl) rfl rfl rfl F ?_
        refine h_take 2 (v := .agg #[.int .i64 r1.Day, .string r1.From, .string r1.To, .int .i64 r1.Seal]) rfl (by kernel_rfl) (by kernel_rfl) (by kernel_rfl) (fun w' x_ => xloadN Try.isAgg73 Try.sizeOf73 rfl ((RO2.cells).ext x_) rfl) rfl rfl rfl F ?_
        refine h_ready (rs := [1, 8]) (by kernel_rfl) (by decide) ⟨?_, ?_, trivial⟩
        ·
          refine hs_call rfl (xcall Try.call33 rfl) rfl rfl rfl (toExhibit_ok r0 _ _ _ _ (H0_Chain.ext E) (by omega)) ?_
          rintro _ w5 ⟨e5, q28_Chain, rfl, G28_Chain⟩
          have z5 := e5.size
          have E := E.trans e5
          replace O1 := O1.ext e5
          replace O2 := O2.ext e5
          have F := F.trans e5
          refine ⟨F, ?_⟩
          refine h_ready (rs := [3, 8]) (by kernel_rfl) (by decide) ⟨?_, ?_, trivial⟩
          ·
            refine hs_call rfl (xcall Try.call55 rfl) rfl rfl rfl (toHanding_ok r1 _) ?_
            rintro _ w6 ⟨rfl, e6⟩
            have z6 := e6.size
            have E := E.trans e6
            replace G28_Chain := G28_Chain.ext e6
            replace O1 := O1.ext e6
            replace O2 := O2.ext e6
            have F := F.trans e6
            refine ⟨F, ?_⟩
            refine h_ready (rs := [4, 8]) (by kernel_rfl) (by decide) ⟨?_, ?_, trivial⟩
            ·
              refine hs_call rfl (xcall Try.call54 rfl) rfl rfl rfl (sHandOver_ok _ _ _ r0 r1 _ (G28_Chain.sl) hc0 hc1) ?_
              rintro _ w7 ⟨e7, q31_0, m31_0, d31_0, rfl, G31_0⟩
              have z7 := e7.size
              have E := E.trans e7
              replace G28_Chain := G28_Chain.ext e7
              replace O1 := O1.ext e7
              replace O2 := O2.ext e7
              have F := F.trans e7
              have lG31_0 := G31_0.len
              have hl_ := handOver_len r0 r1
              refine ⟨F, ?_⟩
              refine h_take 5 rfl (by kernel_rfl) (by kernel_rfl) (by kernel_rfl) (fun w' x_ => xmove rfl) rfl rfl rfl F ?_
              refine h_take 6 rfl (by kernel_rfl) (by kernel_rfl) (by kernel_rfl) (fun w' x_ => xextract rfl rfl) rfl rfl rfl F ?_
              refine h_take 7 rfl (by kernel_rfl) (by kernel_rfl) (by kernel_rfl) (fun w' x_ => xextract rfl rfl) rfl rfl rfl F ?_
              refine h_ready (rs := [8]) (by kernel_rfl) (by decide) ⟨?_, trivial⟩
              ·
                refine hs_alloc Try.zeroValue49 F rfl rfl rfl ?_
                intro b8 w8 e8 hb8 hz8 O8
                have E := E.trans e8
                replace G28_Chain := G28_Chain.ext e8
                replace G31_0 := G31_0.ext e8
                replace O1 := O1.ext e8
                replace O2 := O2.ext e8
                have F := F.trans e8
                replace O8 : Own w8 b8 [.string ⟨#[]⟩, .string ⟨#[]⟩, .int .i64 0, .int .i64 0, .slice none 0 0] 49 := O8
                refine h_ready (rs := [9]) (by kernel_rfl) (by decide) ⟨?_, trivial⟩
                ·
                  refine hs_storeN (vs := [.string (handOver r0 r1).1.Code, .string (handOver r0 r1).1.Found, .int .i64 (handOver r0 r1).1.Day, .int .i64 (handOver r0 r1).1.Seal, .slice q31_0 m31_0 d31_0]) Try.sizeOf49 rfl rfl O8 rfl (by simp) (by simp [Value.oneCell']) F (by omega) rfl rfl ?_
                  intro w9 on9 O9
                  have hz9 := on9.size
                  have E := on9.ext E (by omega)
                  replace G28_Chain := G28_Chain.only on9 (by omega)
                  replace G31_0 := G31_0.only on9 (by omega)
                  replace O1 := on9.own O1 (by omega)
                  replace O2 := on9.own O2 (by omega)
                  have F := on9.ext F (by omega)
                  replace O9 : Own w9 b8 [.string (handOver r0 r1).1.Code, .string (handOver r0 r1).1.Found, .int .i64 (handOver r0 r1).1.Day, .int .i64 (handOver r0 r1).1.Seal, .slice q31_0 m31_0 d31_0] 49 := O9
                  refine h_take 10 rfl (by kernel_rfl) (by kernel_rfl) (by kernel_rfl) (fun w' x_ => xassign rfl) rfl rfl rfl F ?_
                  refine h_done (by kernel_rfl) ?_
                  intro a_ ha_
                  exact ⟨(q31_0, m31_0, d31_0, _, _, b8), ⟨F, ⟨G31_0, by omega, O9, by omega⟩⟩, ha_.sub ⟨rfl, rfl, rfl, rfl, rfl, trivial⟩⟩
            ·
              refine hs_alloc Try.zeroValue49 F rfl rfl rfl ?_
              intro b7 w7 e7 hb7 hz7 O7
              have E := E.trans e7
              replace G28_Chain := G28_Chain.ext e7
              replace O1 := O1.ext e7
              replace O2 := O2.ext e7
              have F := F.trans e7
              replace O7 : Own w7 b7 [.string ⟨#[]⟩, .string ⟨#[]⟩, .int .i64 0, .int .i64 0, .slice none 0 0] 49 := O7
              refine h_ready (rs := [4]) (by kernel_rfl) (by decide) ⟨?_, trivial⟩
              ·
                refine hs_call rfl (xcall Try.call54 rfl) rfl rfl rfl (sHandOver_ok _ _ _ r0 r1 _ (G28_Chain.sl) hc0 hc1) ?_
                rintro _ w8 ⟨e8, q31_0, m31_0, d31_0, rfl, G31_0⟩
                have z8 := e8.size
                have E := E.trans e8
                replace G28_Chain := G28_Chain.ext e8
                replace O1 := O1.ext e8
                replace O2 := O2.ext e8
                replace O7 := O7.ext e8
                have F := F.trans e8
                have lG31_0 := G31_0.len
                have hl_ := handOver_len r0 r1
                refine ⟨F, ?_⟩
                refine h_take 5 rfl (by kernel_rfl) (by kernel_rfl) (by kernel_rfl) (fun w' x_ => xmove rfl) rfl rfl rfl F ?_
                refine h_take 6 rfl (by kernel_rfl) (by kernel_rfl) (by kernel_rfl) (fun w' x_ => xextract rfl rfl) rfl rfl rfl F ?_
                refine h_take 7 rfl (by kernel_rfl) (by kernel_rfl) (by kernel_rfl) (fun w' x_ => xextract rfl rfl) rfl rfl rfl F ?_
                refine h_ready (rs := [9]) (by kernel_rfl) (by decide) ⟨?_, trivial⟩
                ·
                  refine hs_storeN (vs := [.string (handOver r0 r1).1.Code, .string (handOver r0 r1).1.Found, .int .i64 (handOver r0 r1).1.Day, .int .i64 (handOver r0 r1).1.Seal, .slice q31_0 m31_0 d31_0]) Try.sizeOf49 rfl rfl O7 rfl (by simp) (by simp [Value.oneCell']) F (by omega) rfl rfl ?_
                  intro w9 on9 O9
                  have hz9 := on9.size
                  have E := on9.ext E (by omega)
                  replace G28_Chain := G28_Chain.only on9 (by omega)
                  replace G31_0 := G31_0.only on9 (by omega)
                  replace O1 := on9.own O1 (by omega)
                  replace O2 := on9.own O2 (by omega)
                  have F := on9.ext F (by omega)
                  replace O9 : Own w9 b7 [.string (handOver r0 r1).1.Code, .string (handOver r0 r1).1.Found, .int .i64 (handOver r0 r1).1.Day, .int .i64 (handOver r0 r1).1.Seal, .slice q31_0 m31_0 d31_0] 49 := O9
                  refine h_take 10 rfl (by kernel_rfl) (by kernel_rfl) (by kernel_rfl) (fun w' x_ => xassign rfl) rfl rfl rfl F ?_
                  refine h_done (by kernel_rfl) ?_
                  intro a_ ha_
                  exact ⟨(q31_0, m31_0, d31_0, _, _, b7), ⟨F, ⟨G31_0, by omega, O9, by omega⟩⟩, ha_.sub ⟨rfl, rfl, rfl, rfl, rfl, trivial⟩⟩
          ·
            refine hs_alloc Try.zeroValue49 F rfl rfl rfl ?_
            intro b6 w6 e6 hb6 hz6 O6
            have E := E.trans e6
            replace G28_Chain := G28_Chain.ext e6
            replace O1 := O1.ext e6
            replace O2 := O2.ext e6
            have F := F.trans e6
            replace O6 : Own w6 b6 [.string ⟨#[]⟩, .string ⟨#[]⟩, .int .i64 0, .int .i64 0, .slice none 0 0] 49 := O6
            refine h_ready (rs := [3]) (by kernel_rfl) (by decide) ⟨?_, trivial⟩
            ·
              refine hs_call rfl (xcall Try.call55 rfl) rfl rfl rfl (toHanding_ok r1 _) ?_
              rintro _ w7 ⟨rfl, e7⟩
              have z7 := e7.size
              have E := E.trans e7
              replace G28_Chain := G28_Chain.ext e7
              replace O1 := O1.ext e7
              replace O2 := O2.ext e7
              replace O6 := O6.ext e7
              have F := F.trans e7
              refine ⟨F, ?_⟩
              refine h_ready (rs := [4]) (by kernel_rfl) (by decide) ⟨?_, trivial⟩
              ·
                refine hs_call rfl (xcall Try.call54 rfl) rfl rfl rfl (sHandOver_ok _ _ _ r0 r1 _ (G28_Chain.sl) hc0 hc1) ?_
                rintro _ w8 ⟨e8, q31_0, m31_0, d31_0, rfl, G31_0⟩
                have z8 := e8.size
                have E := E.trans e8
                replace G28_Chain := G28_Chain.ext e8
                replace O1 := O1.ext e8
                replace O2 := O2.ext e8
                replace O6 := O6.ext e8
                have F := F.trans e8
                have lG31_0 := G31_0.len
                have hl_ := handOver_len r0 r1
                refine ⟨F, ?_⟩
                refine h_take 5 rfl (by kernel_rfl) (by kernel_rfl) (by kernel_rfl) (fun w' x_ => xmove rfl) rfl rfl rfl F ?_
                refine h_take 6 rfl (by kernel_rfl) (by kernel_rfl) (by kernel_rfl) (fun w' x_ => xextract rfl rfl) rfl rfl rfl F ?_
                refine h_take 7 rfl (by kernel_rfl) (by kernel_rfl) (by kernel_rfl) (fun w' x_ => xextract rfl rfl) rfl rfl rfl F ?_
                refine h_ready (rs := [9]) (by kernel_rfl) (by decide) ⟨?_, trivial⟩
                ·
                  refine hs_storeN (vs := [.string (handOver r0 r1).1.Code, .string (handOver r0 r1).1.Found, .int .i64 (handOver r0 r1).1.Day, .int .i64 (handOver r0 r1).1.Seal, .slice q31_0 m31_0 d31_0]) Try.sizeOf49 rfl rfl O6 rfl (by simp) (by simp [Value.oneCell']) F (by omega) rfl rfl ?_
                  intro w9 on9 O9
                  have hz9 := on9.size
                  have E := on9.ext E (by omega)
                  replace G28_Chain := G28_Chain.only on9 (by omega)
                  replace G31_0 := G31_0.only on9 (by omega)
                  replace O1 := on9.own O1 (by omega)
                  replace O2 := on9.own O2 (by omega)
                  have F := on9.ext F (by omega)
                  replace O9 : Own w9 b6 [.string (handOver r0 r1).1.Code, .string (handOver r0 r1).1.Found, .int .i64 (handOver r0 r1).1.Day, .int .i64 (handOver r0 r1).1.Seal, .slice q31_0 m31_0 d31_0] 49 := O9
                  refine h_take 10 rfl (by kernel_rfl) (by kernel_rfl) (by kernel_rfl) (fun w' x_ => xassign rfl) rfl rfl rfl F ?_
                  refine h_done (by kernel_rfl) ?_
                  intro a_ ha_
                  exact ⟨(q31_0, m31_0, d31_0, _, _, b6), ⟨F, ⟨G31_0, by omega, O9, by omega⟩⟩, ha_.sub ⟨rfl, rfl, rfl, rfl, rfl, trivial⟩⟩
        ·
          refine hs_alloc Try.zeroValue49 F rfl rfl rfl ?_
          intro b5 w5 e5 hb5 hz5 O5
          have E := E.trans e5
          replace O1 := O1.ext e5
          replace O2 := O2.ext e5
          have F := F.trans e5
          replace O5 : Own w5 b5 [.string ⟨#[]⟩, .string ⟨#[]⟩, .int .i64 0, .int .i64 0, .slice none 0 0] 49 := O5
          refine h_ready (rs := [1]) (by kernel_rfl) (by decide) ⟨?_, trivial⟩
          ·
            refine hs_call rfl (xcall Try.call33 rfl) rfl rfl rfl (toExhibit_ok r0 _ _ _ _ (H0_Chain.ext E) (by omega)) ?_
            rintro _ w6 ⟨e6, q28_Chain, rfl, G28_Chain⟩
            have z6 := e6.size
            have E := E.trans e6
            replace O1 := O1.ext e6
            replace O2 := O2.ext e6
            replace O5 := O5.ext e6
            have F := F.trans e6
            refine ⟨F, ?_⟩
            refine h_ready (rs := [3]) (by kernel_rfl) (by decide) ⟨?_, trivial⟩
            ·
              refine hs_call rfl (xcall Try.call55 rfl) rfl rfl rfl (toHanding_ok r1 _) ?_
              rintro _ w7 ⟨rfl, e7⟩
              have z7 := e7.size
              have E := E.trans e7
              replace G28_Chain := G28_Chain.ext e7
              replace O1 := O1.ext e7
              replace O2 := O2.ext e7
              replace O5 := O5.ext e7
              have F := F.trans e7
              refine ⟨F, ?_⟩
              refine h_ready (rs := [4]) (by kernel_rfl) (by decide) ⟨?_, trivial⟩
              ·
                refine hs_call rfl (xcall Try.call54 rfl) rfl rfl rfl (sHandOver_ok _ _ _ r0 r1 _ (G28_Chain.sl) hc0 hc1) ?_
                rintro _ w8 ⟨e8, q31_0, m31_0, d31_0, rfl, G31_0⟩
                have z8 := e8.size
                have E := E.trans e8
                replace G28_Chain := G28_Chain.ext e8
                replace O1 := O1.ext e8
                replace O2 := O2.ext e8
                replace O5 := O5.ext e8
                have F := F.trans e8
                have lG31_0 := G31_0.len
                have hl_ := handOver_len r0 r1
                refine ⟨F, ?_⟩
                refine h_take 5 rfl (by kernel_rfl) (by kernel_rfl) (by kernel_rfl) (fun w' x_ => xmove rfl) rfl rfl rfl F ?_
                refine h_take 6 rfl (by kernel_rfl) (by kernel_rfl) (by kernel_rfl) (fun w' x_ => xextract rfl rfl) rfl rfl rfl F ?_
                refine h_take 7 rfl (by kernel_rfl) (by kernel_rfl) (by kernel_rfl) (fun w' x_ => xextract rfl rfl) rfl rfl rfl F ?_
                refine h_ready (rs := [9]) (by kernel_rfl) (by decide) ⟨?_, trivial⟩
                ·
                  refine hs_storeN (vs := [.string (handOver r0 r1).1.Code, .string (handOver r0 r1).1.Found, .int .i64 (handOver r0 r1).1.Day, .int .i64 (handOver r0 r1).1.Seal, .slice q31_0 m31_0 d31_0]) Try.sizeOf49 rfl rfl O5 rfl (by simp) (by simp [Value.oneCell']) F (by omega) rfl rfl ?_
                  intro w9 on9 O9
                  have hz9 := on9.size
                  have E := on9.ext E (by omega)
                  replace G28_Chain := G28_Chain.only on9 (by omega)
                  replace G31_0 := G31_0.only on9 (by omega)
                  replace O1 := on9.own O1 (by omega)
                  replace O2 := on9.own O2 (by omega)
                  have F := on9.ext F (by omega)
                  replace O9 : Own w9 b5 [.string (handOver r0 r1).1.Code, .string (handOver r0 r1).1.Found, .int .i64 (handOver r0 r1).1.Day, .int .i64 (handOver r0 r1).1.Seal, .slice q31_0 m31_0 d31_0] 49 := O9
                  refine h_take 10 rfl (by kernel_rfl) (by kernel_rfl) (by kernel_rfl) (fun w' x_ => xassign rfl) rfl rfl rfl F ?_
                  refine h_done (by kernel_rfl) ?_
                  intro a_ ha_
                  exact ⟨(q31_0, m31_0, d31_0, _, _, b5), ⟨F, ⟨G31_0, by omega, O9, by omega⟩⟩, ha_.sub ⟨rfl, rfl, rfl, rfl, rfl, trivial⟩⟩
      · intro x_
        obtain ⟨q8_0, m8_0, d8_0, la8_0, ha8_0, bx6⟩ := x_
        rintro w5 ⟨e5, X8_0, hbx6, OX6, hla8_0⟩
        have z5 := e5.size
        have E := E.trans e5
        replace O1 := O1.ext e5
        replace O2 := O2.ext e5
        have lX8_0 := X8_0.len
        have ltOX6 := OX6.lt
        have hl_ := handOver_len r0 r1
        refine run_seq ?_
        refine run_region ?_
        refine ov (v := .agg #[.string r0.Code, .string r0.Found, .int .i64 r0.Day, .int .i64 r0.Seal, .slice p0_Chain n0_Chain c0_Chain]) (xloadN Try.isAgg43 Try.sizeOf43 rfl (O1.cells) rfl) rfl rfl rfl ?_
        refine oc (xcall Try.call33 rfl) rfl rfl rfl (toExhibit_ok r0 _ _ _ _ (H0_Chain.ext E) (by omega)) ?_
        rintro _ w6 ⟨e6, q35_Chain, rfl, G35_Chain⟩
        have z6 := e6.size
        have E := E.trans e6
        replace X8_0 := X8_0.ext e6
        replace O1 := O1.ext e6
        replace O2 := O2.ext e6
        replace OX6 := OX6.ext e6
        refine oalloc Try.zeroValue49 rfl rfl ?_
        intro b7 w7 e7 hb7 hz7 O7
        have E := E.trans e7
        replace X8_0 := X8_0.ext e7
        replace G35_Chain := G35_Chain.ext e7
        replace O1 := O1.ext e7
        replace O2 := O2.ext e7
        replace OX6 := OX6.ext e7
        replace O7 : Own w7 b7 [.string ⟨#[]⟩, .string ⟨#[]⟩, .int .i64 0, .int .i64 0, .slice none 0 0] 49 := O7
        refine ostoreN (vs := _) Try.sizeOf49 rfl rfl O7 rfl (by simp) (by simp [Value.oneCell']) rfl ?_
        intro w8 on8 O8
        have hz8 := on8.size
        have E := on8.ext E (by omega)
        replace X8_0 := X8_0.only on8 (by omega)
        replace G35_Chain := G35_Chain.only on8 (by omega)
        replace O1 := on8.own O1 (by omega)
        replace O2 := on8.own O2 (by omega)
        replace OX6 := on8.own OX6 (by omega)
        replace O8 : Own w8 b7 [.string r0.Code, .string r0.Found, .int .i64 r0.Day, .int .i64 r0.Seal, .slice (some q35_Chain) n0_Chain n0_Chain] 49 := O8
        refine ops_nil ?_
        refine run_seq ?_
        have RE := E
        have RO1 := O1
        have RO2 := O2
        have ROX6 := OX6
        have RO8 := O8
        refine run_held (ι := Option Addr × Nat × Nat × Nat × Nat × Nat) (fun x_ w' => match x_ with | (q10_0, m10_0, d10_0, la10_0, ha10_0, bx9) => Ext w8 w' ∧ Ow Handing.cells 4 77 w' la10_0 ha10_0 q10_0 m10_0 d10_0 ((handOver r0 r1).1.Chain) ∧ w8.heap.size ≤ bx9 ∧ Own w' bx9 [.string (handOver r0 r1).1.Code, .string (handOver r0 r1).1.Found, .int .i64 (handOver r0 r1).1.Day, .int .i64 (handOver r0 r1).1.Seal, .slice q10_0 m10_0 d10_0] 49 ∧ (w8.heap.size ≤ la10_0 ∧ ha10_0 ≤ w'.heap.size ∧ (bx9 < la10_0 ∨ ha10_0 ≤ bx9))) (fun x_ => match x_ with | (q10_0, m10_0, d10_0, la10_0, ha10_0, bx9) => [(2, .pointer (some ⟨b1, 0, none⟩)), (3, .pointer (some ⟨b2, 0, none⟩)), (4, .bool false), (6, .pointer (some ⟨bx6, 0, none⟩)), (7, .int .i64 (handOver r0 r1).2), (8, .pointer (some ⟨b7, 0, none⟩)), (10, .int .i64 (handOver r0 r1).2), (9, .pointer (some ⟨bx9, 0, none⟩))]) (by kernel_rfl) ?_ ?_
        · intro w0_ F
          have z0_ := F.size
          have E := E.trans F
          replace X8_0 := X8_0.ext F
          replace G35_Chain := G35_Chain.ext F
          replace O1 := O1.ext F
          replace O2 := O2.ext F
          replace OX6 := OX6.ext F
          replace O8 := O8.ext F
          refine h_take 0 (v := .agg #[.string r0.Code, .string r0.Found, .int .i64 r0.Day, .int .i64 r0.Seal, .slice (some q35_Chain) n0_Chain n0_Chain]) rfl (by kernel_rfl) (by kernel_rfl) (by kernel_rfl) (fun w' x_ => xloadN Try.isAgg49 Try.sizeOf49 rfl ((RO8.cells).ext x_) rfl) rfl rfl rfl F ?_
          refine h_take 1 (v := .agg #[.int .i64 r1.Day, .string r1.From, .string r1.To, .int .i64 r1.Seal]) rfl (by kernel_rfl) (by kernel_rfl) (by kernel_rfl) (fun w' x_ => xloadN Try.isAgg73 Try.sizeOf73 rfl ((RO2.cells).ext x_) rfl) rfl rfl rfl F ?_
          refine h_ready (rs := [2, 7]) (by kernel_rfl) (by decide) ⟨?_, ?_, trivial⟩
          ·
            refine hs_call rfl (xcall Try.call55 rfl) rfl rfl rfl (toHanding_ok r1 _) ?_
            rintro _ w9 ⟨rfl, e9⟩
            have z9 := e9.size
            have E := E.trans e9
            replace X8_0 := X8_0.ext e9
            replace G35_Chain := G35_Chain.ext e9
            replace O1 := O1.ext e9
            replace O2 := O2.ext e9
            replace OX6 := OX6.ext e9
            replace O8 := O8.ext e9
            have F := F.trans e9
            refine ⟨F, ?_⟩
            refine h_ready (rs := [3, 7]) (by kernel_rfl) (by decide) ⟨?_, ?_, trivial⟩
            ·
              refine hs_call rfl (xcall Try.call56 rfl) rfl rfl rfl (HandOver_ok _ _ _ r0 r1 _ (G35_Chain.sl) hc0 hc1) ?_
              rintro _ w10 ⟨e10, q40_0, m40_0, d40_0, rfl, G40_0⟩
              have z10 := e10.size
              have E := E.trans e10
              replace X8_0 := X8_0.ext e10
              replace G35_Chain := G35_Chain.ext e10
              replace O1 := O1.ext e10
              replace O2 := O2.ext e10
              replace OX6 := OX6.ext e10
              replace O8 := O8.ext e10
              have F := F.trans e10
              have lG40_0 := G40_0.len
              have hl_ := handOver_len r0 r1
              refine ⟨F, ?_⟩
              refine h_take 4 rfl (by kernel_rfl) (by kernel_rfl) (by kernel_rfl) (fun w' x_ => xmove rfl) rfl rfl rfl F ?_
              refine h_take 5 rfl (by kernel_rfl) (by kernel_rfl) (by kernel_rfl) (fun w' x_ => xextract rfl rfl) rfl rfl rfl F ?_
              refine h_take 6 rfl (by kernel_rfl) (by kernel_rfl) (by kernel_rfl) (fun w' x_ => xextract rfl rfl) rfl rfl rfl F ?_
              refine h_ready (rs := [7]) (by kernel_rfl) (by decide) ⟨?_, trivial⟩
              ·
                refine hs_alloc Try.zeroValue49 F rfl rfl rfl ?_
                intro b11 w11 e11 hb11 hz11 O11
                have E := E.trans e11
                replace X8_0 := X8_0.ext e11
                replace G35_Chain := G35_Chain.ext e11
                replace G40_0 := G40_0.ext e11
                replace O1 := O1.ext e11
                replace O2 := O2.ext e11
                replace OX6 := OX6.ext e11
                replace O8 := O8.ext e11
                have F := F.trans e11
                replace O11 : Own w11 b11 [.string ⟨#[]⟩, .string ⟨#[]⟩, .int .i64 0, .int .i64 0, .slice none 0 0] 49 := O11
                refine h_ready (rs := [8]) (by kernel_rfl) (by decide) ⟨?_, trivial⟩
                ·
                  refine hs_storeN (vs := [.string (handOver r0 r1).1.Code, .string (handOver r0 r1).1.Found, .int .i64 (handOver r0 r1).1.Day, .int .i64 (handOver r0 r1).1.Seal, .slice q40_0 m40_0 d40_0]) Try.sizeOf49 rfl rfl O11 rfl (by simp) (by simp [Value.oneCell']) F (by omega) rfl rfl ?_
                  intro w12 on12 O12
                  have hz12 := on12.size
                  have E := on12.ext E (by omega)
                  replace X8_0 := X8_0.only on12 (by omega)
                  replace G35_Chain := G35_Chain.only on12 (by omega)
                  replace G40_0 := G40_0.only on12 (by omega)
                  replace O1 := on12.own O1 (by omega)
                  replace O2 := on12.own O2 (by omega)
                  replace OX6 := on12.own OX6 (by omega)
                  replace O8 := on12.own O8 (by omega)
                  have F := on12.ext F (by omega)
                  replace O12 : Own w12 b11 [.string (handOver r0 r1).1.Code, .string (handOver r0 r1).1.Found, .int .i64 (handOver r0 r1).1.Day, .int .i64 (handOver r0 r1).1.Seal, .slice q40_0 m40_0 d40_0] 49 := O12
                  refine h_take 9 rfl (by kernel_rfl) (by kernel_rfl) (by kernel_rfl) (fun w' x_ => xassign rfl) rfl rfl rfl F ?_
                  refine h_done (by kernel_rfl) ?_
                  intro a_ ha_
                  exact ⟨(q40_0, m40_0, d40_0, _, _, b11), ⟨F, ⟨G40_0, by omega, O12, by omega⟩⟩, ha_.sub ⟨rfl, rfl, rfl, rfl, rfl, rfl, rfl, rfl, trivial⟩⟩
            ·
              refine hs_alloc Try.zeroValue49 F rfl rfl rfl ?_
              intro b10 w10 e10 hb10 hz10 O10
              have E := E.trans e10
              replace X8_0 := X8_0.ext e10
              replace G35_Chain := G35_Chain.ext e10
              replace O1 := O1.ext e10
              replace O2 := O2.ext e10
              replace OX6 := OX6.ext e10
              replace O8 := O8.ext e10
              have F := F.trans e10
              replace O10 : Own w10 b10 [.string ⟨#[]⟩, .string ⟨#[]⟩, .int .i64 0, .int .i64 0, .slice none 0 0] 49 := O10
              refine h_ready (rs := [3]) (by kernel_rfl) (by decide) ⟨?_, trivial⟩
              ·
                refine hs_call rfl (xcall Try.call56 rfl) rfl rfl rfl (HandOver_ok _ _ _ r0 r1 _ (G35_Chain.sl) hc0 hc1) ?_
                rintro _ w11 ⟨e11, q40_0, m40_0, d40_0, rfl, G40_0⟩
                have z11 := e11.size
                have E := E.trans e11
                replace X8_0 := X8_0.ext e11
                replace G35_Chain := G35_Chain.ext e11
                replace O1 := O1.ext e11
                replace O2 := O2.ext e11
                replace OX6 := OX6.ext e11
                replace O8 := O8.ext e11
                replace O10 := O10.ext e11
                have F := F.trans e11
                have lG40_0 := G40_0.len
                have hl_ := handOver_len r0 r1
                refine ⟨F, ?_⟩
                refine h_take 4 rfl (by kernel_rfl) (by kernel_rfl) (by kernel_rfl) (fun w' x_ => xmove rfl) rfl rfl rfl F ?_
                refine h_take 5 rfl (by kernel_rfl) (by kernel_rfl) (by kernel_rfl) (fun w' x_ => xextract rfl rfl) rfl rfl rfl F ?_
                refine h_take 6 rfl (by kernel_rfl) (by kernel_rfl) (by kernel_rfl) (fun w' x_ => xextract rfl rfl) rfl rfl rfl F ?_
                refine h_ready (rs := [8]) (by kernel_rfl) (by decide) ⟨?_, trivial⟩
                ·
                  refine hs_storeN (vs := [.string (handOver r0 r1).1.Code, .string (handOver r0 r1).1.Found, .int .i64 (handOver r0 r1).1.Day, .int .i64 (handOver r0 r1).1.Seal, .slice q40_0 m40_0 d40_0]) Try.sizeOf49 rfl rfl O10 rfl (by simp) (by simp [Value.oneCell']) F (by omega) rfl rfl ?_
                  intro w12 on12 O12
                  have hz12 := on12.size
                  have E := on12.ext E (by omega)
                  replace X8_0 := X8_0.only on12 (by omega)
                  replace G35_Chain := G35_Chain.only on12 (by omega)
                  replace G40_0 := G40_0.only on12 (by omega)
                  replace O1 := on12.own O1 (by omega)
                  replace O2 := on12.own O2 (by omega)
                  replace OX6 := on12.own OX6 (by omega)
                  replace O8 := on12.own O8 (by omega)
                  have F := on12.ext F (by omega)
                  replace O12 : Own w12 b10 [.string (handOver r0 r1).1.Code, .string (handOver r0 r1).1.Found, .int .i64 (handOver r0 r1).1.Day, .int .i64 (handOver r0 r1).1.Seal, .slice q40_0 m40_0 d40_0] 49 := O12
                  refine h_take 9 rfl (by kernel_rfl) (by kernel_rfl) (by kernel_rfl) (fun w' x_ => xassign rfl) rfl rfl rfl F ?_
                  refine h_done (by kernel_rfl) ?_
                  intro a_ ha_
                  exact ⟨(q40_0, m40_0, d40_0, _, _, b10), ⟨F, ⟨G40_0, by omega, O12, by omega⟩⟩, ha_.sub ⟨rfl, rfl, rfl, rfl, rfl, rfl, rfl, rfl, trivial⟩⟩
          ·
            refine hs_alloc Try.zeroValue49 F rfl rfl rfl ?_
            intro b9 w9 e9 hb9 hz9 O9
            have E := E.trans e9
            replace X8_0 := X8_0.ext e9
            replace G35_Chain := G35_Chain.ext e9
            replace O1 := O1.ext e9
            replace O2 := O2.ext e9
            replace OX6 := OX6.ext e9
            replace O8 := O8.ext e9
            have F := F.trans e9
            replace O9 : Own w9 b9 [.string ⟨#[]⟩, .string ⟨#[]⟩, .int .i64 0, .int .i64 0, .slice none 0 0] 49 := O9
            refine h_ready (rs := [2]) (by kernel_rfl) (by decide) ⟨?_, trivial⟩
            ·
              refine hs_call rfl (xcall Try.call55 rfl) rfl rfl rfl (toHanding_ok r1 _) ?_
              rintro _ w10 ⟨rfl, e10⟩
              have z10 := e10.size
              have E := E.trans e10
              replace X8_0 := X8_0.ext e10
              replace G35_Chain := G35_Chain.ext e10
              replace O1 := O1.ext e10
              replace O2 := O2.ext e10
              replace OX6 := OX6.ext e10
              replace O8 := O8.ext e10
              replace O9 := O9.ext e10
              have F := F.trans e10
              refine ⟨F, ?_⟩
              refine h_ready (rs := [3]) (by kernel_rfl) (by decide) ⟨?_, trivial⟩
              ·
                refine hs_call rfl (xcall Try.call56 rfl) rfl rfl rfl (HandOver_ok _ _ _ r0 r1 _ (G35_Chain.sl) hc0 hc1) ?_
                rintro _ w11 ⟨e11, q40_0, m40_0, d40_0, rfl, G40_0⟩
                have z11 := e11.size
                have E := E.trans e11
                replace X8_0 := X8_0.ext e11
                replace G35_Chain := G35_Chain.ext e11
                replace O1 := O1.ext e11
                replace O2 := O2.ext e11
                replace OX6 := OX6.ext e11
                replace O8 := O8.ext e11
                replace O9 := O9.ext e11
                have F := F.trans e11
                have lG40_0 := G40_0.len
                have hl_ := handOver_len r0 r1
                refine ⟨F, ?_⟩
                refine h_take 4 rfl (by kernel_rfl) (by kernel_rfl) (by kernel_rfl) (fun w' x_ => xmove rfl) rfl rfl rfl F ?_
                refine h_take 5 rfl (by kernel_rfl) (by kernel_rfl) (by kernel_rfl) (fun w' x_ => xextract rfl rfl) rfl rfl rfl F ?_
                refine h_take 6 rfl (by kernel_rfl) (by kernel_rfl) (by kernel_rfl) (fun w' x_ => xextract rfl rfl) rfl rfl rfl F ?_
                refine h_ready (rs := [8]) (by kernel_rfl) (by decide) ⟨?_, trivial⟩
                ·
                  refine hs_storeN (vs := [.string (handOver r0 r1).1.Code, .string (handOver r0 r1).1.Found, .int .i64 (handOver r0 r1).1.Day, .int .i64 (handOver r0 r1).1.Seal, .slice q40_0 m40_0 d40_0]) Try.sizeOf49 rfl rfl O9 rfl (by simp) (by simp [Value.oneCell']) F (by omega) rfl rfl ?_
                  intro w12 on12 O12
                  have hz12 := on12.size
                  have E := on12.ext E (by omega)
                  replace X8_0 := X8_0.only on12 (by omega)
                  replace G35_Chain := G35_Chain.only on12 (by omega)
                  replace G40_0 := G40_0.only on12 (by omega)
                  replace O1 := on12.own O1 (by omega)
                  replace O2 := on12.own O2 (by omega)
                  replace OX6 := on12.own OX6 (by omega)
                  replace O8 := on12.own O8 (by omega)
                  have F := on12.ext F (by omega)
                  replace O12 : Own w12 b9 [.string (handOver r0 r1).1.Code, .string (handOver r0 r1).1.Found, .int .i64 (handOver r0 r1).1.Day, .int .i64 (handOver r0 r1).1.Seal, .slice q40_0 m40_0 d40_0] 49 := O12
                  refine h_take 9 rfl (by kernel_rfl) (by kernel_rfl) (by kernel_rfl) (fun w' x_ => xassign rfl) rfl rfl rfl F ?_
                  refine h_done (by kernel_rfl) ?_
                  intro a_ ha_
                  exact ⟨(q40_0, m40_0, d40_0, _, _, b9), ⟨F, ⟨G40_0, by omega, O12, by omega⟩⟩, ha_.sub ⟨rfl, rfl, rfl, rfl, rfl, rfl, rfl, rfl, trivial⟩⟩
        · intro x_
          obtain ⟨q10_0, m10_0, d10_0, la10_0, ha10_0, bx9⟩ := x_
          rintro w9 ⟨e9, X10_0, hbx9, OX9, hla10_0⟩
          have z9 := e9.size
          have E := E.trans e9
          replace X8_0 := X8_0.ext e9
          replace G35_Chain := G35_Chain.ext e9
          replace O1 := O1.ext e9
          replace O2 := O2.ext e9
          replace OX6 := OX6.ext e9
          replace O8 := O8.ext e9
          have lX10_0 := X10_0.len
          have ltOX9 := OX9.lt
          have hl_ := handOver_len r0 r1
          refine run_seq ?_
          refine run_seq ?_
          refine run_region ?_
          refine ov (v := .agg #[.string (handOver r0 r1).1.Code, .string (handOver r0 r1).1.Found, .int .i64 (handOver r0 r1).1.Day, .int .i64 (handOver r0 r1).1.Seal, .slice q10_0 m10_0 d10_0]) (xloadN Try.isAgg49 Try.sizeOf49 rfl (OX9.cells) rfl) rfl rfl rfl ?_
          refine ov (v := .agg #[.string (handOver r0 r1).1.Code, .string (handOver r0 r1).1.Found, .int .i64 (handOver r0 r1).1.Day, .int .i64 (handOver r0 r1).1.Seal, .slice q8_0 m8_0 d8_0]) (xloadN Try.isAgg49 Try.sizeOf49 rfl (OX6.cells) rfl) rfl rfl rfl ?_
          refine oc (xcall Try.call35 rfl) rfl rfl rfl (eqExhibit_ok _ _ _ _ _ _ (X10_0.sl) _ _ _ (X8_0.sl)) ?_
          rintro _ w10 ⟨rfl, e10⟩
          have z10 := e10.size
          have E := E.trans e10
          replace X8_0 := X8_0.ext e10
          replace G35_Chain := G35_Chain.ext e10
          replace X10_0 := X10_0.ext e10
          replace O1 := O1.ext e10
          replace O2 := O2.ext e10
          replace OX6 := OX6.ext e10
          replace O8 := O8.ext e10
          replace OX9 := OX9.ext e10
          refine obs (fun c45 => ?_) (fun c45 => ?_)
          ·
            refine ov (xnot rfl) rfl rfl rfl ?_
            refine ov (xmove rfl) rfl rfl rfl ?_
            refine ov (xmove rfl) rfl rfl rfl ?_
            refine ov (xmove rfl) rfl rfl rfl ?_
            refine ov (xneq rfl rfl _ rfl) rfl rfl rfl ?_
            refine ods (fun c50 => ?_) (fun c50 => ?_)
            · exfalso; first | exact absurd rfl c50 | omega
            ·
              refine ov (xpick_f rfl rfl) rfl rfl rfl ?_
              refine ops_nil ?_
              refine run_cond_f rfl ?_
              refine run_skip ?_
              refine run_seq ?_
              refine run_seq ?_
              have RE := E
              have RO1 := O1
              have RO2 := O2
              have ROX6 := OX6
              have RO8 := O8
              have ROX9 := OX9
              refine run_held (ι := Unit) (fun x_ w' => match x_ with | () => Ext w10 w' ∧ True) (fun x_ => match x_ with | () => [(2, .pointer (some ⟨b1, 0, none⟩)), (3, .pointer (some ⟨b2, 0, none⟩)), (4, .bool false), (6, .pointer (some ⟨bx6, 0, none⟩)), (7, .int .i64 (handOver r0 r1).2), (8, .pointer (some ⟨b7, 0, none⟩)), (9, .pointer (some ⟨bx9, 0, none⟩)), (10, .int .i64 (handOver r0 r1).2), (56, .bool false)]) (by kernel_rfl) ?_ ?_
              · intro w0_ F
                have z0_ := F.size
                have E := E.trans F
                replace X8_0 := X8_0.ext F
                replace G35_Chain := G35_Chain.ext F
                replace X10_0 := X10_0.ext F
                replace O1 := O1.ext F
                replace O2 := O2.ext F
                replace OX6 := OX6.ext F
                replace O8 := O8.ext F
                replace OX9 := OX9.ext F
                refine h_take 0 (v := .agg #[.string r0.Code, .string r0.Found, .int .i64 r0.Day, .int .i64 r0.Seal, .slice (some q35_Chain) n0_Chain n0_Chain]) rfl (by kernel_rfl) (by kernel_rfl) (by kernel_rfl) (fun w' x_ => xloadN Try.isAgg49 Try.sizeOf49 rfl ((RO8.cells).ext x_) rfl) rfl rfl rfl F ?_
                refine h_take 1 (v := .agg #[.string r0.Code, .string r0.Found, .int .i64 r0.Day, .int .i64 r0.Seal, .slice p0_Chain n0_Chain c0_Chain]) rfl (by kernel_rfl) (by kernel_rfl) (by kernel_rfl) (fun w' x_ => xloadN Try.isAgg43 Try.sizeOf43 rfl ((RO1.cells).ext x_) rfl) rfl rfl rfl F ?_
                refine h_ready (rs := [2]) (by kernel_rfl) (by decide) ⟨?_, trivial⟩
                ·
                  refine hs_call rfl (xcall Try.call33 rfl) rfl rfl rfl (toExhibit_ok r0 _ _ _ _ (H0_Chain.ext E) (by omega)) ?_
                  rintro _ w11 ⟨e11, q54_Chain, rfl, G54_Chain⟩
                  have z11 := e11.size
                  have E := E.trans e11
                  replace X8_0 := X8_0.ext e11
                  replace G35_Chain := G35_Chain.ext e11
                  replace X10_0 := X10_0.ext e11
                  replace O1 := O1.ext e11
                  replace O2 := O2.ext e11
                  replace OX6 := OX6.ext e11
                  replace O8 := O8.ext e11
                  replace OX9 := OX9.ext e11
                  have F := F.trans e11
                  refine ⟨F, ?_⟩
                  refine h_ready (rs := [3]) (by kernel_rfl) (by decide) ⟨?_, trivial⟩
                  ·
                    refine hs_call rfl (xcall Try.call35 rfl) rfl rfl rfl (eqExhibit_ok _ _ _ _ _ _ (G35_Chain.sl) _ _ _ (G54_Chain.sl)) ?_
                    rintro _ w12 ⟨rfl, e12⟩
                    have z12 := e12.size
                    have E := E.trans e12
                    replace X8_0 := X8_0.ext e12
                    replace G35_Chain := G35_Chain.ext e12
                    replace X10_0 := X10_0.ext e12
                    replace G54_Chain := G54_Chain.ext e12
                    replace O1 := O1.ext e12
                    replace O2 := O2.ext e12
                    replace OX6 := OX6.ext e12
                    replace O8 := O8.ext e12
                    replace OX9 := OX9.ext e12
                    have F := F.trans e12
                    refine ⟨F, ?_⟩
                    refine h_bs (fun c55 => ?_) (fun c55 => ?_)
                    ·
                      refine h_take 4 rfl (by kernel_rfl) (by kernel_rfl) (by kernel_rfl) (fun w' x_ => xnot rfl) rfl rfl rfl F ?_
                      refine h_done (by kernel_rfl) ?_
                      intro a_ ha_
                      exact ⟨(), ⟨F, trivial⟩, ha_.sub ⟨rfl, rfl, rfl, rfl, rfl, rfl, rfl, rfl, rfl, trivial⟩⟩
                    · exfalso; rw [eqExhibit_refl] at c55; cases c55
              · intro x_
                obtain ⟨⟩ := x_
                rintro w11 ⟨e11, _⟩
                have z11 := e11.size
                have E := E.trans e11
                replace X8_0 := X8_0.ext e11
                replace G35_Chain := G35_Chain.ext e11
                replace X10_0 := X10_0.ext e11
                replace O1 := O1.ext e11
                replace O2 := O2.ext e11
                replace OX6 := OX6.ext e11
                replace O8 := O8.ext e11
                replace OX9 := OX9.ext e11
                refine run_cond_f rfl ?_
                refine run_skip ?_
                refine run_seq ?_
                refine run_region ?_
                refine ov (xassign rfl) rfl rfl rfl ?_
                refine ops_nil ?_
                refine run_seq ?_
                refine run_region ?_
                refine ov (v := .agg #[.string r0.Code, .string r0.Found, .int .i64 r0.Day, .int .i64 r0.Seal, .slice (some q35_Chain) n0_Chain n0_Chain]) (xloadN Try.isAgg49 Try.sizeOf49 rfl (O8.cells) rfl) rfl rfl rfl ?_
                refine ov (xmove rfl) rfl rfl rfl ?_
                refine oc (xcall Try.call41 rfl) rfl rfl rfl (markExhibit_ok _ _ _ _ _ _ _ _ _ _ _ _ G35_Chain (by omega) (by omega) (by omega) (by omega)) ?_
                rintro _ w12 ⟨rfl, m12, g12⟩
                have z12 := m12.size
                have E := m12.toExt E (by omega)
                replace X8_0 := X8_0.off m12 (by omega)
                replace X10_0 := X10_0.off m12 (by omega)
                replace O1 := m12.own O1 (by omega)
                replace O2 := m12.own O2 (by omega)
                replace OX6 := m12.own OX6 (by omega)
                replace O8 := m12.own O8 (by omega)
                replace OX9 := m12.own OX9 (by omega)
                replace G35_Chain := g12
                refine ov (xassign rfl) rfl rfl rfl ?_
                refine ops_nil ?_
                refine run_seq ?_
                refine run_seq ?_
                refine run_region ?_
                refine ov (xmove rfl) rfl rfl rfl ?_
                refine ov (xlss rfl rfl _ rfl) rfl rfl rfl ?_
                refine ods (fun c61 => ?_) (fun c61 => ?_)
                · exfalso; omega
                ·
                  refine ov (xmove rfl) rfl rfl rfl ?_
                  refine ov (v := .agg #[.string (handOver r0 r1).1.Code, .string (handOver r0 r1).1.Found, .int .i64 (handOver r0 r1).1.Day, .int .i64 (handOver r0 r1).1.Seal, .slice q10_0 m10_0 d10_0]) (xloadN Try.isAgg49 Try.sizeOf49 rfl (OX9.cells) rfl) rfl rfl rfl ?_
                  refine ov (v := .agg #[.string (handOver r0 r1).1.Code, .string (handOver r0 r1).1.Found, .int .i64 (handOver r0 r1).1.Day, .int .i64 (handOver r0 r1).1.Seal, .slice q8_0 m8_0 d8_0]) (xloadN Try.isAgg49 Try.sizeOf49 rfl (OX6.cells) rfl) rfl rfl rfl ?_
                  refine oc (xcall Try.call35 rfl) rfl rfl rfl (eqExhibit_ok _ _ _ _ _ _ (X10_0.sl) _ _ _ (X8_0.sl)) ?_
                  rintro _ w13 ⟨rfl, e13⟩
                  have z13 := e13.size
                  have E := E.trans e13
                  replace X8_0 := X8_0.ext e13
                  replace G35_Chain := G35_Chain.ext e13
                  replace X10_0 := X10_0.ext e13
                  replace O1 := O1.ext e13
                  replace O2 := O2.ext e13
                  replace OX6 := OX6.ext e13
                  replace O8 := O8.ext e13
                  replace OX9 := OX9.ext e13
                  refine obs (fun c65 => ?_) (fun c65 => ?_)
                  ·
                    refine ov (xnot rfl) rfl rfl rfl ?_
                    refine ov (xpick_f rfl rfl) rfl rfl rfl ?_
                    refine ov (xmove rfl) rfl rfl rfl ?_
                    refine ov (xmove rfl) rfl rfl rfl ?_
                    refine ov (xmove rfl) rfl rfl rfl ?_
                    refine ov (xneq rfl rfl _ rfl) rfl rfl rfl ?_
                    refine ods (fun c71 => ?_) (fun c71 => ?_)
                    · exfalso; first | exact absurd rfl c71 | omega
                    ·
                      refine ov (xpick_f rfl rfl) rfl rfl rfl ?_
                      refine ops_nil ?_
                      refine run_cond_f rfl ?_
                      refine run_skip ?_
                      refine run_seq ?_
                      refine run_region ?_
                      refine ov (xassign rfl) rfl rfl rfl ?_
                      refine ops_nil ?_
                      refine run_seq ?_
                      refine run_region ?_
                      refine ov (v := .agg #[.string (handOver r0 r1).1.Code, .string (handOver r0 r1).1.Found, .int .i64 (handOver r0 r1).1.Day, .int .i64 (handOver r0 r1).1.Seal, .slice q10_0 m10_0 d10_0]) (xloadN Try.isAgg49 Try.sizeOf49 rfl (OX9.cells) rfl) rfl rfl rfl ?_
                      refine ov (xmove rfl) rfl rfl rfl ?_
                      refine oc (xcall Try.call41 rfl) rfl rfl rfl (markExhibit_ok _ _ _ _ _ _ _ _ _ _ _ _ X10_0 (by omega) (by omega) (by omega) (by omega)) ?_
                      rintro _ w14 ⟨rfl, m14, g14⟩
                      have z14 := m14.size
                      have E := m14.toExt E (by omega)
                      replace X8_0 := X8_0.off m14 (by omega)
                      replace G35_Chain := G35_Chain.off m14 (by omega)
                      replace O1 := m14.own O1 (by omega)
                      replace O2 := m14.own O2 (by omega)
                      replace OX6 := m14.own OX6 (by omega)
                      replace O8 := m14.own O8 (by omega)
                      replace OX9 := m14.own OX9 (by omega)
                      replace X10_0 := g14
                      refine ov (xassign rfl) rfl rfl rfl ?_
                      refine ops_nil ?_
                      refine run_seq ?_
                      refine run_region ?_
                      refine ov (xassign rfl) rfl rfl rfl ?_
                      refine ops_nil ?_
                      refine run_seq ?_
                      refine run_region ?_
                      refine ov (v := .agg #[.string (handOver r0 r1).1.Code, .string (handOver r0 r1).1.Found, .int .i64 (handOver r0 r1).1.Day, .int .i64 (handOver r0 r1).1.Seal, .slice q10_0 m10_0 d10_0]) (xloadN Try.isAgg49 Try.sizeOf49 rfl (OX9.cells) rfl) rfl rfl rfl ?_
                      refine ov (xmove rfl) rfl rfl rfl ?_
                      refine oc (xcall Try.call57 rfl) rfl rfl rfl (heldExhibit_ok _ _ _ _ _ _ _ _ _ _ (X10_0.sl) (by omega) (by omega) (by omega)) ?_
                      rintro _ w15 ⟨rfl, e15⟩
                      have z15 := e15.size
                      have E := E.trans e15
                      replace X8_0 := X8_0.ext e15
                      replace G35_Chain := G35_Chain.ext e15
                      replace X10_0 := X10_0.ext e15
                      replace O1 := O1.ext e15
                      replace O2 := O2.ext e15
                      replace OX6 := OX6.ext e15
                      replace O8 := O8.ext e15
                      replace OX9 := OX9.ext e15
                      refine ov (xassign rfl) rfl rfl rfl ?_
                      refine ops_nil ?_
                      refine run_seq ?_
                      refine run_seq ?_
                      refine run_region ?_
                      refine ov (xmove rfl) rfl rfl rfl ?_
                      refine ov (xlss rfl rfl _ rfl) rfl rfl rfl ?_
                      refine ods (fun c80 => ?_) (fun c80 => ?_)
                      · exfalso; omega
                      ·
                        refine ops_nil ?_
                        refine run_cond_f rfl ?_
                        refine run_skip ?_
                        refine run_seq ?_
                        refine run_seq ?_
                        refine run_region ?_
                        refine ov (xmove rfl) rfl rfl rfl ?_
                        refine ov (xmove rfl) rfl rfl rfl ?_
                        refine ov (xneq rfl rfl _ rfl) rfl rfl rfl ?_
                        refine ods (fun c83 => ?_) (fun c83 => ?_)
                        · exfalso; first | exact absurd rfl c83 | omega
                        ·
                          refine ops_nil ?_
                          refine run_cond_f rfl ?_
                          refine run_skip ?_
                          refine run_seq ?_
                          have RE := E
                          have RO1 := O1
                          have RO2 := O2
                          have ROX6 := OX6
                          have RO8 := O8
                          have ROX9 := OX9
                          refine run_held (ι := Option Addr × Nat × Nat × Nat × Nat × Nat) (fun x_ w' => match x_ with | (q27_0, m27_0, d27_0, la27_0, ha27_0, bx14) => Ext w15 w' ∧ Ow Handing.cells 4 77 w' la27_0 ha27_0 q27_0 m27_0 d27_0 ((handOver r0 r1).1.Chain) ∧ w15.heap.size ≤ bx14 ∧ Own w' bx14 [.string (handOver r0 r1).1.Code, .string (handOver r0 r1).1.Found, .int .i64 (handOver r0 r1).1.Day, .int .i64 (handOver r0 r1).1.Seal, .slice q27_0 m27_0 d27_0] 49 ∧ (w15.heap.size ≤ la27_0 ∧ ha27_0 ≤ w'.heap.size ∧ (bx14 < la27_0 ∨ ha27_0 ≤ bx14))) (fun x_ => match x_ with | (q27_0, m27_0, d27_0, la27_0, ha27_0, bx14) => [(4, .bool false), (6, .pointer (some ⟨bx6, 0, none⟩)), (7, .int .i64 (handOver r0 r1).2), (9, .pointer (some ⟨bx9, 0, none⟩)), (12, .int .i64 (1 + 4 * (m10_0 : Int))), (13, .int .i64 (1 + 4 * (m10_0 : Int))), (15, .int .i64 (handOver r0 r1).2), (14, .pointer (some ⟨bx14, 0, none⟩))]) (by kernel_rfl) ?_ ?_
                          · intro w0_ F
                            have z0_ := F.size
                            have E := E.trans F
                            replace X8_0 := X8_0.ext F
                            replace G35_Chain := G35_Chain.ext F
                            replace X10_0 := X10_0.ext F
                            replace O1 := O1.ext F
                            replace O2 := O2.ext F
                            replace OX6 := OX6.ext F
                            replace O8 := O8.ext F
                            replace OX9 := OX9.ext F
                            refine h_take 0 (v := .agg #[.string r0.Code, .string r0.Found, .int .i64 r0.Day, .int .i64 r0.Seal, .slice p0_Chain n0_Chain c0_Chain]) rfl (by kernel_rfl) (by kernel_rfl) (by kernel_rfl) (fun w' x_ => xloadN Try.isAgg43 Try.sizeOf43 rfl ((RO1.cells).ext x_) rfl) rfl rfl rfl F ?_
                            refine h_take 2 (v := .agg #[.int .i64 r1.Day, .string r1.From, .string r1.To, .int .i64 r1.Seal]) rfl (by kernel_rfl) (by kernel_rfl) (by kernel_rfl) (fun w' x_ => xloadN Try.isAgg73 Try.sizeOf73 rfl ((RO2.cells).ext x_) rfl) rfl rfl rfl F ?_
                            refine h_ready (rs := [1, 8]) (by kernel_rfl) (by decide) ⟨?_, ?_, trivial⟩
                            ·
                              refine hs_call rfl (xcall Try.call33 rfl) rfl rfl rfl (toExhibit_ok r0 _ _ _ _ (H0_Chain.ext E) (by omega)) ?_
                              rintro _ w16 ⟨e16, q86_Chain, rfl, G86_Chain⟩
                              have z16 := e16.size
                              have E := E.trans e16
                              replace X8_0 := X8_0.ext e16
                              replace G35_Chain := G35_Chain.ext e16
                              replace X10_0 := X10_0.ext e16
                              replace O1 := O1.ext e16
                              replace O2 := O2.ext e16
                              replace OX6 := OX6.ext e16
                              replace O8 := O8.ext e16
                              replace OX9 := OX9.ext e16
                              have F := F.trans e16
                              refine ⟨F, ?_⟩
                              refine h_ready (rs := [3, 8]) (by kernel_rfl) (by decide) ⟨?_, ?_, trivial⟩
                              ·
                                refine hs_call rfl (xcall Try.call55 rfl) rfl rfl rfl (toHanding_ok r1 _) ?_
                                rintro _ w17 ⟨rfl, e17⟩
                                have z17 := e17.size
                                have E := E.trans e17
                                replace X8_0 := X8_0.ext e17
                                replace G35_Chain := G35_Chain.ext e17
                                replace X10_0 := X10_0.ext e17
                                replace G86_Chain := G86_Chain.ext e17
                                replace O1 := O1.ext e17
                                replace O2 := O2.ext e17
                                replace OX6 := OX6.ext e17
                                replace O8 := O8.ext e17
                                replace OX9 := OX9.ext e17
                                have F := F.trans e17
                                refine ⟨F, ?_⟩
                                refine h_ready (rs := [4, 8]) (by kernel_rfl) (by decide) ⟨?_, ?_, trivial⟩
                                ·
                                  refine hs_call rfl (xcall Try.call56 rfl) rfl rfl rfl (HandOver_ok _ _ _ r0 r1 _ (G86_Chain.sl) hc0 hc1) ?_
                                  rintro _ w18 ⟨e18, q89_0, m89_0, d89_0, rfl, G89_0⟩
                                  have z18 := e18.size
                                  have E := E.trans e18
                                  replace X8_0 := X8_0.ext e18
                                  replace G35_Chain := G35_Chain.ext e18
                                  replace X10_0 := X10_0.ext e18
                                  replace G86_Chain := G86_Chain.ext e18
                                  replace O1 := O1.ext e18
                                  replace O2 := O2.ext e18
                                  replace OX6 := OX6.ext e18
                                  replace O8 := O8.ext e18
                                  replace OX9 := OX9.ext e18
                                  have F := F.trans e18
                                  have lG89_0 := G89_0.len
                                  have hl_ := handOver_len r0 r1
                                  refine ⟨F, ?_⟩
                                  refine h_take 5 rfl (by kernel_rfl) (by kernel_rfl) (by kernel_rfl) (fun w' x_ => xmove rfl) rfl rfl rfl F ?_
                                  refine h_take 6 rfl (by kernel_rfl) (by kernel_rfl) (by kernel_rfl) (fun w' x_ => xextract rfl rfl) rfl rfl rfl F ?_
                                  refine h_take 7 rfl (by kernel_rfl) (by kernel_rfl) (by kernel_rfl) (fun w' x_ => xextract rfl rfl) rfl rfl rfl F ?_
                                  refine h_ready (rs := [8]) (by kernel_rfl) (by decide) ⟨?_, trivial⟩
                                  ·
                                    refine hs_alloc Try.zeroValue49 F rfl rfl rfl ?_
                                    intro b19 w19 e19 hb19 hz19 O19
                                    have E := E.trans e19
                                    replace X8_0 := X8_0.ext e19
                                    replace G35_Chain := G35_Chain.ext e19
                                    replace X10_0 := X10_0.ext e19
                                    replace G86_Chain := G86_Chain.ext e19
                                    replace G89_0 := G89_0.ext e19
                                    replace O1 := O1.ext e19
                                    replace O2 := O2.ext e19
                                    replace OX6 := OX6.ext e19
                                    replace O8 := O8.ext e19
                                    replace OX9 := OX9.ext e19
                                    have F := F.trans e19
                                    replace O19 : Own w19 b19 [.string ⟨#[]⟩, .string ⟨#[]⟩, .int .i64 0, .int .i64 0, .slice none 0 0] 49 := O19
                                    refine h_ready (rs := [9]) (by kernel_rfl) (by decide) ⟨?_, trivial⟩
                                    ·
                                      refine hs_storeN (vs := [.string (handOver r0 r1).1.Code, .string (handOver r0 r1).1.Found, .int .i64 (handOver r0 r1).1.Day, .int .i64 (handOver r0 r1).1.Seal, .slice q89_0 m89_0 d89_0]) Try.sizeOf49 rfl rfl O19 rfl (by simp) (by simp [Value.oneCell']) F (by omega) rfl rfl ?_
                                      intro w20 on20 O20
                                      have hz20 := on20.size
                                      have E := on20.ext E (by omega)
                                      replace X8_0 := X8_0.only on20 (by omega)
                                      replace G35_Chain := G35_Chain.only on20 (by omega)
                                      replace X10_0 := X10_0.only on20 (by omega)
                                      replace G86_Chain := G86_Chain.only on20 (by omega)
                                      replace G89_0 := G89_0.only on20 (by omega)
                                      replace O1 := on20.own O1 (by omega)
                                      replace O2 := on20.own O2 (by omega)
                                      replace OX6 := on20.own OX6 (by omega)
                                      replace O8 := on20.own O8 (by omega)
                                      replace OX9 := on20.own OX9 (by omega)
                                      have F := on20.ext F (by omega)
                                      replace O20 : Own w20 b19 [.string (handOver r0 r1).1.Code, .string (handOver r0 r1).1.Found, .int .i64 (handOver r0 r1).1.Day, .int .i64 (handOver r0 r1).1.Seal, .slice q89_0 m89_0 d89_0] 49 := O20
                                      refine h_take 10 rfl (by kernel_rfl) (by kernel_rfl) (by kernel_rfl) (fun w' x_ => xassign rfl) rfl rfl rfl F ?_
                                      refine h_done (by kernel_rfl) ?_
                                      intro a_ ha_
                                      exact ⟨(q89_0, m89_0, d89_0, _, _, b19), ⟨F, ⟨G89_0, by omega, O20, by omega⟩⟩, ha_.sub ⟨rfl, rfl, rfl, rfl, rfl, rfl, rfl, rfl, trivial⟩⟩
                                ·
                                  refine hs_alloc Try.zeroValue49 F rfl rfl rfl ?_
                                  intro b18 w18 e18 hb18 hz18 O18
                                  have E := E.trans e18
                                  replace X8_0 := X8_0.ext e18
                                  replace G35_Chain := G35_Chain.ext e18
                                  replace X10_0 := X10_0.ext e18
                                  replace G86_Chain := G86_Chain.ext e18
                                  replace O1 := O1.ext e18
                                  replace O2 := O2.ext e18
                                  replace OX6 := OX6.ext e18
                                  replace O8 := O8.ext e18
                                  replace OX9 := OX9.ext e18
                                  have F := F.trans e18
                                  replace O18 : Own w18 b18 [.string ⟨#[]⟩, .string ⟨#[]⟩, .int .i64 0, .int .i64 0, .slice none 0 0] 49 := O18
                                  refine h_ready (rs := [4]) (by kernel_rfl) (by decide) ⟨?_, trivial⟩
                                  ·
                                    refine hs_call rfl (xcall Try.call56 rfl) rfl rfl rfl (HandOver_ok _ _ _ r0 r1 _ (G86_Chain.sl) hc0 hc1) ?_
                                    rintro _ w19 ⟨e19, q89_0, m89_0, d89_0, rfl, G89_0⟩
                                    have z19 := e19.size
                                    have E := E.trans e19
                                    replace X8_0 := X8_0.ext e19
                                    replace G35_Chain := G35_Chain.ext e19
                                    replace X10_0 := X10_0.ext e19
                                    replace G86_Chain := G86_Chain.ext e19
                                    replace O1 := O1.ext e19
                                    replace O2 := O2.ext e19
                                    replace OX6 := OX6.ext e19
                                    replace O8 := O8.ext e19
                                    replace OX9 := OX9.ext e19
                                    replace O18 := O18.ext e19
                                    have F := F.trans e19
                                    have lG89_0 := G89_0.len
                                    have hl_ := handOver_len r0 r1
                                    refine ⟨F, ?_⟩
                                    refine h_take 5 rfl (by kernel_rfl) (by kernel_rfl) (by kernel_rfl) (fun w' x_ => xmove rfl) rfl rfl rfl F ?_
                                    refine h_take 6 rfl (by kernel_rfl) (by kernel_rfl) (by kernel_rfl) (fun w' x_ => xextract rfl rfl) rfl rfl rfl F ?_
                                    refine h_take 7 rfl (by kernel_rfl) (by kernel_rfl) (by kernel_rfl) (fun w' x_ => xextract rfl rfl) rfl rfl rfl F ?_
                                    refine h_ready (rs := [9]) (by kernel_rfl) (by decide) ⟨?_, trivial⟩
                                    ·
                                      refine hs_storeN (vs := [.string (handOver r0 r1).1.Code, .string (handOver r0 r1).1.Found, .int .i64 (handOver r0 r1).1.Day, .int .i64 (handOver r0 r1).1.Seal, .slice q89_0 m89_0 d89_0]) Try.sizeOf49 rfl rfl O18 rfl (by simp) (by simp [Value.oneCell']) F (by omega) rfl rfl ?_
                                      intro w20 on20 O20
                                      have hz20 := on20.size
                                      have E := on20.ext E (by omega)
                                      replace X8_0 := X8_0.only on20 (by omega)
                                      replace G35_Chain := G35_Chain.only on20 (by omega)
                                      replace X10_0 := X10_0.only on20 (by omega)
                                      replace G86_Chain := G86_Chain.only on20 (by omega)
                                      replace G89_0 := G89_0.only on20 (by omega)
                                      replace O1 := on20.own O1 (by omega)
                                      replace O2 := on20.own O2 (by omega)
                                      replace OX6 := on20.own OX6 (by omega)
                                      replace O8 := on20.own O8 (by omega)
                                      replace OX9 := on20.own OX9 (by omega)
                                      have F := on20.ext F (by omega)
                                      replace O20 : Own w20 b18 [.string (handOver r0 r1).1.Code, .string (handOver r0 r1).1.Found, .int .i64 (handOver r0 r1).1.Day, .int .i64 (handOver r0 r1).1.Seal, .slice q89_0 m89_0 d89_0] 49 := O20
                                      refine h_take 10 rfl (by kernel_rfl) (by kernel_rfl) (by kernel_rfl) (fun w' x_ => xassign rfl) rfl rfl rfl F ?_
                                      refine h_done (by kernel_rfl) ?_
                                      intro a_ ha_
                                      exact ⟨(q89_0, m89_0, d89_0, _, _, b18), ⟨F, ⟨G89_0, by omega, O20, by omega⟩⟩, ha_.sub ⟨rfl, rfl, rfl, rfl, rfl, rfl, rfl, rfl, trivial⟩⟩
                              ·
                                refine hs_alloc Try.zeroValue49 F rfl rfl rfl ?_
                                intro b17 w17 e17 hb17 hz17 O17
                                have E := E.trans e17
                                replace X8_0 := X8_0.ext e17
                                replace G35_Chain := G35_Chain.ext e17
                                replace X10_0 := X10_0.ext e17
                                replace G86_Chain := G86_Chain.ext e17
                                replace O1 := O1.ext e17
                                replace O2 := O2.ext e17
                                replace OX6 := OX6.ext e17
                                replace O8 := O8.ext e17
                                replace OX9 := OX9.ext e17
                                have F := F.trans e17
                                replace O17 : Own w17 b17 [.string ⟨#[]⟩, .string ⟨#[]⟩, .int .i64 0, .int .i64 0, .slice none 0 0] 49 := O17
                                refine h_ready (rs := [3]) (by kernel_rfl) (by decide) ⟨?_, trivial⟩
                                ·
                                  refine hs_call rfl (xcall Try.call55 rfl) rfl rfl rfl (toHanding_ok r1 _) ?_
                                  rintro _ w18 ⟨rfl, e18⟩
                                  have z18 := e18.size
                                  have E := E.trans e18
                                  replace X8_0 := X8_0.ext e18
                                  replace G35_Chain := G35_Chain.ext e18
                                  replace X10_0 := X10_0.ext e18
                                  replace G86_Chain := G86_Chain.ext e18
                                  replace O1 := O1.ext e18
                                  replace O2 := O2.ext e18
                                  replace OX6 := OX6.ext e18
                                  replace O8 := O8.ext e18
                                  replace OX9 := OX9.ext e18
                                  replace O17 := O17.ext e18
                                  have F := F.trans e18
                                  refine ⟨F, ?_⟩
                                  refine h_ready (rs := [4]) (by kernel_rfl) (by decide) ⟨?_, trivial⟩
                                  ·
                                    refine hs_call rfl (xcall Try.call56 rfl) rfl rfl rfl (HandOver_ok _ _ _ r0 r1 _ (G86_Chain.sl) hc0 hc1) ?_
                                    rintro _ w19 ⟨e19, q89_0, m89_0, d89_0, rfl, G89_0⟩
                                    have z19 := e19.size
                                    have E := E.trans e19
                                    replace X8_0 := X8_0.ext e19
                                    replace G35_Chain := G35_Chain.ext e19
                                    replace X10_0 := X10_0.ext e19
                                    replace G86_Chain := G86_Chain.ext e19
                                    replace O1 := O1.ext e19
                                    replace O2 := O2.ext e19
                                    replace OX6 := OX6.ext e19
                                    replace O8 := O8.ext e19
                                    replace OX9 := OX9.ext e19
                                    replace O17 := O17.ext e19
                                    have F := F.trans e19
                                    have lG89_0 := G89_0.len
                                    have hl_ := handOver_len r0 r1
                                    refine ⟨F, ?_⟩
                                    refine h_take 5 rfl (by kernel_rfl) (by kernel_rfl) (by kernel_rfl) (fun w' x_ => xmove rfl) rfl rfl rfl F ?_
                                    refine h_take 6 rfl (by kernel_rfl) (by kernel_rfl) (by kernel_rfl) (fun w' x_ => xextract rfl rfl) rfl rfl rfl F ?_
                                    refine h_take 7 rfl (by kernel_rfl) (by kernel_rfl) (by kernel_rfl) (fun w' x_ => xextract rfl rfl) rfl rfl rfl F ?_
                                    refine h_ready (rs := [9]) (by kernel_rfl) (by decide) ⟨?_, trivial⟩
                                    ·
                                      refine hs_storeN (vs := [.string (handOver r0 r1).1.Code, .string (handOver r0 r1).1.Found, .int .i64 (handOver r0 r1).1.Day, .int .i64 (handOver r0 r1).1.Seal, .slice q89_0 m89_0 d89_0]) Try.sizeOf49 rfl rfl O17 rfl (by simp) (by simp [Value.oneCell']) F (by omega) rfl rfl ?_
                                      intro w20 on20 O20
                                      have hz20 := on20.size
                                      have E := on20.ext E (by omega)
                                      replace X8_0 := X8_0.only on20 (by omega)
                                      replace G35_Chain := G35_Chain.only on20 (by omega)
                                      replace X10_0 := X10_0.only on20 (by omega)
                                      replace G86_Chain := G86_Chain.only on20 (by omega)
                                      replace G89_0 := G89_0.only on20 (by omega)
                                      replace O1 := on20.own O1 (by omega)
                                      replace O2 := on20.own O2 (by omega)
                                      replace OX6 := on20.own OX6 (by omega)
                                      replace O8 := on20.own O8 (by omega)
                                      replace OX9 := on20.own OX9 (by omega)
                                      have F := on20.ext F (by omega)
                                      replace O20 : Own w20 b17 [.string (handOver r0 r1).1.Code, .string (handOver r0 r1).1.Found, .int .i64 (handOver r0 r1).1.Day, .int .i64 (handOver r0 r1).1.Seal, .slice q89_0 m89_0 d89_0] 49 := O20
                                      refine h_take 10 rfl (by kernel_rfl) (by kernel_rfl) (by kernel_rfl) (fun w' x_ => xassign rfl) rfl rfl rfl F ?_
                                      refine h_done (by kernel_rfl) ?_
                                      intro a_ ha_
                                      exact ⟨(q89_0, m89_0, d89_0, _, _, b17), ⟨F, ⟨G89_0, by omega, O20, by omega⟩⟩, ha_.sub ⟨rfl, rfl, rfl, rfl, rfl, rfl, rfl, rfl, trivial⟩⟩
                            ·
                              refine hs_alloc Try.zeroValue49 F rfl rfl rfl ?_
                              intro b16 w16 e16 hb16 hz16 O16
                              have E := E.trans e16
                              replace X8_0 := X8_0.ext e16
                              replace G35_Chain := G35_Chain.ext e16
                              replace X10_0 := X10_0.ext e16
                              replace O1 := O1.ext e16
                              replace O2 := O2.ext e16
                              replace OX6 := OX6.ext e16
                              replace O8 := O8.ext e16
                              replace OX9 := OX9.ext e16
                              have F := F.trans e16
                              replace O16 : Own w16 b16 [.string ⟨#[]⟩, .string ⟨#[]⟩, .int .i64 0, .int .i64 0, .slice none 0 0] 49 := O16
                              refine h_ready (rs := [1]) (by kernel_rfl) (by decide) ⟨?_, trivial⟩
                              ·
                                refine hs_call rfl (xcall Try.call33 rfl) rfl rfl rfl (toExhibit_ok r0 _ _ _ _ (H0_Chain.ext E) (by omega)) ?_
                                rintro _ w17 ⟨e17, q86_Chain, rfl, G86_Chain⟩
                                have z17 := e17.size
                                have E := E.trans e17
                                replace X8_0 := X8_0.ext e17
                                replace G35_Chain := G35_Chain.ext e17
                                replace X10_0 := X10_0.ext e17
                                replace O1 := O1.ext e17
                                replace O2 := O2.ext e17
                                replace OX6 := OX6.ext e17
                                replace O8 := O8.ext e17
                                replace OX9 := OX9.ext e17
                                replace O16 := O16.ext e17
                                have F := F.trans e17
                                refine ⟨F, ?_⟩
                                refine h_ready (rs := [3]) (by kernel_rfl) (by decide) ⟨?_, trivial⟩
                                ·
                                  refine hs_call rfl (xcall Try.call55 rfl) rfl rfl rfl (toHanding_ok r1 _) ?_
                                  rintro _ w18 ⟨rfl, e18⟩
                                  have z18 := e18.size
                                  have E := E.trans e18
                                  replace X8_0 := X8_0.ext e18
                                  replace G35_Chain := G35_Chain.ext e18
                                  replace X10_0 := X10_0.ext e18
                                  replace G86_Chain := G86_Chain.ext e18
                                  replace O1 := O1.ext e18
                                  replace O2 := O2.ext e18
                                  replace OX6 := OX6.ext e18
                                  replace O8 := O8.ext e18
                                  replace OX9 := OX9.ext e18
                                  replace O16 := O16.ext e18
                                  have F := F.trans e18
                                  refine ⟨F, ?_⟩
                                  refine h_ready (rs := [4]) (by kernel_rfl) (by decide) ⟨?_, trivial⟩
                                  ·
                                    refine hs_call rfl (xcall Try.call56 rfl) rfl rfl rfl (HandOver_ok _ _ _ r0 r1 _ (G86_Chain.sl) hc0 hc1) ?_
                                    rintro _ w19 ⟨e19, q89_0, m89_0, d89_0, rfl, G89_0⟩
                                    have z19 := e19.size
                                    have E := E.trans e19
                                    replace X8_0 := X8_0.ext e19
                                    replace G35_Chain := G35_Chain.ext e19
                                    replace X10_0 := X10_0.ext e19
                                    replace G86_Chain := G86_Chain.ext e19
                                    replace O1 := O1.ext e19
                                    replace O2 := O2.ext e19
                                    replace OX6 := OX6.ext e19
                                    replace O8 := O8.ext e19
                                    replace OX9 := OX9.ext e19
                                    replace O16 := O16.ext e19
                                    have F := F.trans e19
                                    have lG89_0 := G89_0.len
                                    have hl_ := handOver_len r0 r1
                                    refine ⟨F, ?_⟩
                                    refine h_take 5 rfl (by kernel_rfl) (by kernel_rfl) (by kernel_rfl) (fun w' x_ => xmove rfl) rfl rfl rfl F ?_
                                    refine h_take 6 rfl (by kernel_rfl) (by kernel_rfl) (by kernel_rfl) (fun w' x_ => xextract rfl rfl) rfl rfl rfl F ?_
                                    refine h_take 7 rfl (by kernel_rfl) (by kernel_rfl) (by kernel_rfl) (fun w' x_ => xextract rfl rfl) rfl rfl rfl F ?_
                                    refine h_ready (rs := [9]) (by kernel_rfl) (by decide) ⟨?_, trivial⟩
                                    ·
                                      refine hs_storeN (vs := [.string (handOver r0 r1).1.Code, .string (handOver r0 r1).1.Found, .int .i64 (handOver r0 r1).1.Day, .int .i64 (handOver r0 r1).1.Seal, .slice q89_0 m89_0 d89_0]) Try.sizeOf49 rfl rfl O16 rfl (by simp) (by simp [Value.oneCell']) F (by omega) rfl rfl ?_
                                      intro w20 on20 O20
                                      have hz20 := on20.size
                                      have E := on20.ext E (by omega)
                                      replace X8_0 := X8_0.only on20 (by omega)
                                      replace G35_Chain := G35_Chain.only on20 (by omega)
                                      replace X10_0 := X10_0.only on20 (by omega)
                                      replace G86_Chain := G86_Chain.only on20 (by omega)
                                      replace G89_0 := G89_0.only on20 (by omega)
                                      replace O1 := on20.own O1 (by omega)
                                      replace O2 := on20.own O2 (by omega)
                                      replace OX6 := on20.own OX6 (by omega)
                                      replace O8 := on20.own O8 (by omega)
                                      replace OX9 := on20.own OX9 (by omega)
                                      have F := on20.ext F (by omega)
                                      replace O20 : Own w20 b16 [.string (handOver r0 r1).1.Code, .string (handOver r0 r1).1.Found, .int .i64 (handOver r0 r1).1.Day, .int .i64 (handOver r0 r1).1.Seal, .slice q89_0 m89_0 d89_0] 49 := O20
                                      refine h_take 10 rfl (by kernel_rfl) (by kernel_rfl) (by kernel_rfl) (fun w' x_ => xassign rfl) rfl rfl rfl F ?_
                                      refine h_done (by kernel_rfl) ?_
                                      intro a_ ha_
                                      exact ⟨(q89_0, m89_0, d89_0, _, _, b16), ⟨F, ⟨G89_0, by omega, O20, by omega⟩⟩, ha_.sub ⟨rfl, rfl, rfl, rfl, rfl, rfl, rfl, rfl, trivial⟩⟩
                          · intro x_
                            obtain ⟨q27_0, m27_0, d27_0, la27_0, ha27_0, bx14⟩ := x_
                            rintro w16 ⟨e16, X27_0, hbx14, OX14, hla27_0⟩
                            have z16 := e16.size
                            have E := E.trans e16
                            replace X8_0 := X8_0.ext e16
                            replace G35_Chain := G35_Chain.ext e16
                            replace X10_0 := X10_0.ext e16
                            replace O1 := O1.ext e16
                            replace O2 := O2.ext e16
                            replace OX6 := OX6.ext e16
                            replace O8 := O8.ext e16
                            replace OX9 := OX9.ext e16
                            have lX27_0 := X27_0.len
                            have ltOX14 := OX14.lt
                            have hl_ := handOver_len r0 r1
                            refine run_seq ?_
                            refine run_seq ?_
                            refine run_region ?_
                            refine ov (v := .agg #[.string (handOver r0 r1).1.Code, .string (handOver r0 r1).1.Found, .int .i64 (handOver r0 r1).1.Day, .int .i64 (handOver r0 r1).1.Seal, .slice q27_0 m27_0 d27_0]) (xloadN Try.isAgg49 Try.sizeOf49 rfl (OX14.cells) rfl) rfl rfl rfl ?_
                            refine ov (v := .agg #[.string (handOver r0 r1).1.Code, .string (handOver r0 r1).1.Found, .int .i64 (handOver r0 r1).1.Day, .int .i64 (handOver r0 r1).1.Seal, .slice q8_0 m8_0 d8_0]) (xloadN Try.isAgg49 Try.sizeOf49 rfl (OX6.cells) rfl) rfl rfl rfl ?_
                            refine oc (xcall Try.call35 rfl) rfl rfl rfl (eqExhibit_ok _ _ _ _ _ _ (X27_0.sl) _ _ _ (X8_0.sl)) ?_
                            rintro _ w17 ⟨rfl, e17⟩
                            have z17 := e17.size
                            have E := E.trans e17
                            replace X8_0 := X8_0.ext e17
                            replace G35_Chain := G35_Chain.ext e17
                            replace X10_0 := X10_0.ext e17
                            replace X27_0 := X27_0.ext e17
                            replace O1 := O1.ext e17
                            replace O2 := O2.ext e17
                            replace OX6 := OX6.ext e17
                            replace O8 := O8.ext e17
                            replace OX9 := OX9.ext e17
                            replace OX14 := OX14.ext e17
                            refine obs (fun c94 => ?_) (fun c94 => ?_)
                            ·
                              refine ov (xnot rfl) rfl rfl rfl ?_
                              refine ov (xmove rfl) rfl rfl rfl ?_
                              refine ov (xmove rfl) rfl rfl rfl ?_
                              refine ov (xmove rfl) rfl rfl rfl ?_
                              refine ov (xneq rfl rfl _ rfl) rfl rfl rfl ?_
                              refine ods (fun c99 => ?_) (fun c99 => ?_)
                              · exfalso; first | exact absurd rfl c99 | omega
                              ·
                                refine ov (xpick_f rfl rfl) rfl rfl rfl ?_
                                refine ops_nil ?_
                                refine run_cond_f rfl ?_
                                refine run_skip ?_
                                refine run_seq ?_
                                refine run_region ?_
                                refine ov (xassign rfl) rfl rfl rfl ?_
                                refine ops_nil ?_
                                refine run_seq ?_
                                refine run_region ?_
                                refine ov (v := .agg #[.string (handOver r0 r1).1.Code, .string (handOver r0 r1).1.Found, .int .i64 (handOver r0 r1).1.Day, .int .i64 (handOver r0 r1).1.Seal, .slice q10_0 m10_0 d10_0]) (xloadN Try.isAgg49 Try.sizeOf49 rfl (OX9.cells) rfl) rfl rfl rfl ?_
                                refine ov (xmove rfl) rfl rfl rfl ?_
                                refine oc (xcall Try.call57 rfl) rfl rfl rfl (heldExhibit_ok _ _ _ _ _ _ _ _ _ _ (X10_0.sl) (by omega) (by omega) (by omega)) ?_
                                rintro _ w18 ⟨rfl, e18⟩
                                have z18 := e18.size
                                have E := E.trans e18
                                replace X8_0 := X8_0.ext e18
                                replace G35_Chain := G35_Chain.ext e18
                                replace X10_0 := X10_0.ext e18
                                replace X27_0 := X27_0.ext e18
                                replace O1 := O1.ext e18
                                replace O2 := O2.ext e18
                                replace OX6 := OX6.ext e18
                                replace O8 := O8.ext e18
                                replace OX9 := OX9.ext e18
                                replace OX14 := OX14.ext e18
                                refine ov (xassign rfl) rfl rfl rfl ?_
                                refine ops_nil ?_
                                refine run_seq ?_
                                refine run_seq ?_
                                refine run_region ?_
                                refine ov (xmove rfl) rfl rfl rfl ?_
                                refine ov (xlss rfl rfl _ rfl) rfl rfl rfl ?_
                                refine ods (fun c105 => ?_) (fun c105 => ?_)
                                · exfalso; omega
                                ·
                                  refine ops_nil ?_
                                  refine run_cond_f rfl ?_
                                  refine run_skip ?_
                                  refine run_seq ?_
                                  refine run_seq ?_
                                  refine run_region ?_
                                  refine ov (xmove rfl) rfl rfl rfl ?_
                                  refine ov (xmove rfl) rfl rfl rfl ?_
                                  refine ov (xneq rfl rfl _ rfl) rfl rfl rfl ?_
                                  refine ods (fun c108 => ?_) (fun c108 => ?_)
                                  · exfalso; first | exact absurd rfl c108 | omega
                                  ·
                                    refine ops_nil ?_
                                    refine run_cond_f rfl ?_
                                    refine run_skip ?_
                                    refine run_seq ?_
                                    refine run_region ?_
                                    refine ov (xassign rfl) rfl rfl rfl ?_
                                    refine ops_nil ?_
                                    refine run_ret Try.func11 (res1 rfl rfl) ?_
                                    exact ⟨_, rfl, pv E⟩
                            · exfalso; rw [eqExhibit_refl] at c94; cases c94
                  · exfalso; rw [eqExhibit_refl] at c65; cases c65
          · exfalso; rw [eqExhibit_refl] at c45; cases c45
end Go.Proofs.Ytnjohcbamblilaa
