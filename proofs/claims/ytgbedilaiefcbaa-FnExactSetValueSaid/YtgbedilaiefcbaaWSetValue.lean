/-
  The walk of the law FnExactSetValue. No condition beyond those written in the theorem.
-/
import Derived.Test.YtgbedilaiefcbaaValRead
import Derived.Test.YtgbedilaiefcbaaVals2
import Derived.Test.YtgbedilaiefcbaaMarkV
namespace Go.Proofs.Ytgbedilaiefcbaa
open Go.RowKit
set_option linter.unusedVariables false
set_option linter.unusedSimpArgs false
set_option linter.unusedSectionVars false
set_option maxRecDepth 4000

set_option maxHeartbeats 400000 in
theorem FnExactSetValue_ok (w : World) (p0 : Option Addr) (n0 c0 : Nat) (xs0 : List Val) (H0 : Sl Val.cells 2 w p0 n0 c0 xs0) (hx0 : ∀ x ∈ xs0, x.ok) (r1 : Val) (hr1 : r1.ok) : Ret Try.prog 5 [.slice p0 n0 c0, .agg #[.string r1.Name, .string r1.Text]] w (Pv w (.bool true)) := by
  refine ret_of_run (N := 109) Try.func5 rfl rfl rfl ?_
  have hn0 := H0.len
  have E : Ext w w := Ext.refl w
  refine run_seq ?_
  refine run_region ?_
  refine obox rfl rfl rfl ?_
  intro b1 w1 e1 hb1 hz1 O1
  have E := E.trans e1
  replace O1 : Own w1 b1 [.string r1.Name, .string r1.Text] 33 := O1
  refine ov (xassign rfl) rfl rfl rfl ?_
  refine ops_nil ?_
  refine run_seq ?_
  refine run_region ?_
  refine ov (xassign rfl) rfl rfl rfl ?_
  refine ops_nil ?_
  refine run_seq ?_
  refine run_region ?_
  refine ov (xmove rfl) rfl rfl rfl ?_
  refine ov (xmove rfl) rfl rfl rfl ?_
  refine oc (xcall Try.call11 rfl) rfl rfl rfl (szValS_ok _ _ _ xs0 1048576 _ (H0.ext E) hx0 (by omega) (by omega)) ?_
  rintro _ w2 ⟨rfl, e2⟩
  have z2 := e2.size
  have E := E.trans e2
  replace O1 := O1.ext e2
  refine ov (xassign rfl) rfl rfl rfl ?_
  refine ops_nil ?_
  refine run_seq ?_
  refine run_seq ?_
  refine run_region ?_
  refine ov (xmove rfl) rfl rfl rfl ?_
  refine ov (xlss rfl rfl _ rfl) rfl rfl rfl ?_
  refine ods (fun c20 => ?_) (fun c20 => ?_)
  ·
    refine ops_nil ?_
    refine run_cond_t rfl ?_
    refine run_seq ?_
    refine run_region ?_
    refine ov (xassign rfl) rfl rfl rfl ?_
    refine ops_nil ?_
    refine run_ret Try.func5 (res1 rfl rfl) ?_
    exact ⟨_, rfl, pv E⟩
  ·
    have hz0_ := szS_len szVal_le (by omega : 0 ≤ szS szVal xs0 1048576)
    refine ops_nil ?_
    refine run_cond_f rfl ?_
    refine run_skip ?_
    refine run_seq ?_
    refine run_region ?_
    refine ov (v := .agg #[.string r1.Name, .string r1.Text]) (xloadN Try.isAgg33 Try.sizeOf33 rfl (O1.cells) rfl) rfl rfl rfl ?_
    refine ov (xmove rfl) rfl rfl rfl ?_
    refine oc (xcall Try.call18 rfl) rfl rfl rfl (szVal_ok r1 (szS szVal xs0 1048576) _ hr1 (by omega) (by omega)) ?_
    rintro _ w3 ⟨rfl, e3⟩
    have z3 := e3.size
    have E := E.trans e3
    replace O1 := O1.ext e3
    refine ov (xassign rfl) rfl rfl rfl ?_
    refine ops_nil ?_
    refine run_seq ?_
    refine run_seq ?_
    refine run_region ?_
    refine ov (xmove rfl) rfl rfl rfl ?_
    refine ov (xlss rfl rfl _ rfl) rfl rfl rfl ?_
    refine ods (fun c25 => ?_) (fun c25 => ?_)
    ·
      refine ops_nil ?_
      refine run_cond_t rfl ?_
      refine run_seq ?_
      refine run_region ?_
      refine ov (xassign rfl) rfl rfl rfl ?_
      refine ops_nil ?_
      refine run_ret Try.func5 (res1 rfl rfl) ?_
      exact ⟨_, rfl, pv E⟩
    ·
      have hz1_ := (szVal_le r1 (szS szVal xs0 1048576) (by omega)).2
      refine ops_nil ?_
      refine run_cond_f rfl ?_
      refine run_skip ?_
      refine run_seq ?_
      have RE := E
      have RO1 := O1
      refine run_held (ι := Option Addr × Nat × Nat) (fun x_ w' => match x_ with | (q8_0, m8_0, d8_0) => Ext w3 w' ∧ Ow Val.cells 2 37 w' w3.heap.size w'.heap.size q8_0 m8_0 d8_0 ((setValue xs0 r1).1)) (fun x_ => match x_ with | (q8_0, m8_0, d8_0) => [(0, .slice p0 n0 c0), (3, .pointer (some ⟨b1, 0, none⟩)), (4, .bool false), (6, .slice q8_0 m8_0 d8_0), (7, .int .i64 (setValue xs0 r1).2)]) (by kernel_rfl) ?_ ?_
      · intro w0_ F
        have z0_ := F.size
        have E := E.trans F
        replace O1 := O1.ext F
        refine h_take 0 rfl (by kernel_rfl) (by kernel_rfl) (by kernel_rfl) (fun w' x_ => xmove rfl) rfl rfl rfl F ?_
        refine h_take 2 (v := .agg #[.string r1.Name, .string r1.Text]) rfl (by kernel_rfl) (by kernel_rfl) (by kernel_rfl) (fun w' x_ => xloadN Try.isAgg33 Try.sizeOf33 rfl ((RO1.cells).ext x_) rfl) rfl rfl rfl F ?_
        refine h_ready (rs := [1]) (by kernel_rfl) (by decide) ⟨?_, trivial⟩
        ·
          refine hs_call rfl (xcall Try.call13 rfl) rfl rfl rfl (toValS_ok _ _ _ xs0 _ (H0.ext E) (by omega)) ?_
          rintro _ w4 ⟨e4, q28, rfl, G28⟩
          have z4 := e4.size
          have E := E.trans e4
          replace O1 := O1.ext e4
          have F := F.trans e4
          refine ⟨F, ?_⟩
          refine h_ready (rs := [3]) (by kernel_rfl) (by decide) ⟨?_, trivial⟩
          ·
            refine hs_call rfl (xcall Try.call20 rfl) rfl rfl rfl (toVal_ok r1 _) ?_
            rintro _ w5 ⟨rfl, e5⟩
            have z5 := e5.size
            have E := E.trans e5
            replace G28 := G28.ext e5
            replace O1 := O1.ext e5
            have F := F.trans e5
            refine ⟨F, ?_⟩
            refine h_ready (rs := [4]) (by kernel_rfl) (by decide) ⟨?_, trivial⟩
            ·
              refine hs_call rfl (xcall Try.call19 rfl) rfl rfl rfl (sSetValue_ok _ _ _ xs0 r1 _ (G28.sl) hx0 hr1 (ow_nil G28)) ?_
              rintro _ w6 ⟨e6, q31_0, m31_0, d31_0, rfl, G31_0⟩
              have z6 := e6.size
              have E := E.trans e6
              replace G28 := G28.ext e6
              replace O1 := O1.ext e6
              have F := F.trans e6
              have lG31_0 := G31_0.len
              have hl_ := setValue_len xs0 r1
              refine ⟨F, ?_⟩
              refine h_take 5 rfl (by kernel_rfl) (by kernel_rfl) (by kernel_rfl) (fun w' x_ => xmove rfl) rfl rfl rfl F ?_
              refine h_take 6 rfl (by kernel_rfl) (by kernel_rfl) (by kernel_rfl) (fun w' x_ => xextract rfl rfl) rfl rfl rfl F ?_
              refine h_take 7 rfl (by kernel_rfl) (by kernel_rfl) (by kernel_rfl) (fun w' x_ => xextract rfl rfl) rfl rfl rfl F ?_
              refine h_take 8 rfl (by kernel_rfl) (by kernel_rfl) (by kernel_rfl) (fun w' x_ => xassign rfl) rfl rfl rfl F ?_
              refine h_take 9 rfl (by kernel_rfl) (by kernel_rfl) (by kernel_rfl) (fun w' x_ => xassign rfl) rfl rfl rfl F ?_
              refine h_done (by kernel_rfl) ?_
              intro a_ ha_
              exact ⟨(q31_0, m31_0, d31_0), ⟨F, G31_0.wide (by omega) (by omega)⟩, ha_.sub ⟨rfl, rfl, rfl, rfl, rfl, trivial⟩⟩
      · intro x_
        obtain ⟨q8_0, m8_0, d8_0⟩ := x_
        rintro w4 ⟨e4, X8_0⟩
        have z4 := e4.size
        have E := E.trans e4
        replace O1 := O1.ext e4
        have lX8_0 := X8_0.len
        have hl_ := setValue_len xs0 r1
        refine run_seq ?_
        refine run_region ?_
        refine ov (xmove rfl) rfl rfl rfl ?_
        refine oc (xcall Try.call13 rfl) rfl rfl rfl (toValS_ok _ _ _ xs0 _ (H0.ext E) (by omega)) ?_
        rintro _ w5 ⟨e5, q35, rfl, G35⟩
        have z5 := e5.size
        have E := E.trans e5
        replace X8_0 := X8_0.ext e5
        replace O1 := O1.ext e5
        refine ov (xassign rfl) rfl rfl rfl ?_
        refine ops_nil ?_
        refine run_seq ?_
        refine run_region ?_
        refine ov (xmove rfl) rfl rfl rfl ?_
        refine ov (v := .agg #[.string r1.Name, .string r1.Text]) (xloadN Try.isAgg33 Try.sizeOf33 rfl (O1.cells) rfl) rfl rfl rfl ?_
        refine oc (xcall Try.call20 rfl) rfl rfl rfl (toVal_ok r1 _) ?_
        rintro _ w6 ⟨rfl, e6⟩
        have z6 := e6.size
        have E := E.trans e6
        replace X8_0 := X8_0.ext e6
        replace G35 := G35.ext e6
        replace O1 := O1.ext e6
        refine oc (xcall Try.call21 rfl) rfl rfl rfl (SetValue_ok _ _ _ xs0 r1 _ (G35.sl) hx0 hr1 (ow_nil G35)) ?_
        rintro _ w7 ⟨e7, q40_0, m40_0, d40_0, rfl, G40_0⟩
        have z7 := e7.size
        have E := E.trans e7
        replace X8_0 := X8_0.ext e7
        replace G35 := G35.ext e7
        replace O1 := O1.ext e7
        have lG40_0 := G40_0.len
        have hl_ := setValue_len xs0 r1
        refine ov (xmove rfl) rfl rfl rfl ?_
        refine ov (xextract rfl rfl) rfl rfl rfl ?_
        refine ov (xextract rfl rfl) rfl rfl rfl ?_
        refine ov (xassign rfl) rfl rfl rfl ?_
        refine ov (xassign rfl) rfl rfl rfl ?_
        refine ops_nil ?_
        refine run_seq ?_
        refine run_seq ?_
        refine run_region ?_
        refine ov (xmove rfl) rfl rfl rfl ?_
        refine ov (xmove rfl) rfl rfl rfl ?_
        refine oc (xcall Try.call15 rfl) rfl rfl rfl (eqValS_ok _ _ _ _ _ _ _ _ _ (G40_0.sl) (X8_0.sl)) ?_
        rintro _ w8 ⟨rfl, e8⟩
        have z8 := e8.size
        have E := E.trans e8
        replace X8_0 := X8_0.ext e8
        replace G35 := G35.ext e8
        replace G40_0 := G40_0.ext e8
        replace O1 := O1.ext e8
        refine obs (fun c45 => ?_) (fun c45 => ?_)
        ·
          refine ov (xnot rfl) rfl rfl rfl ?_
          refine ov (xmove rfl) rfl rfl rfl ?_
          refine ov (xmove rfl) rfl rfl rfl ?_
          refine ov (xmove rfl) rfl rfl rfl ?_
          refine ov (xneq rfl rfl _ rfl) rfl rfl rfl ?_
          refine ods (fun c50 => ?_) (fun c50 => ?_)
          · exfalso; first | exact absurd rfl c50 | omega
          ·
            refine ov (xpick_f rfl rfl) rfl rfl rfl ?_
            refine ops_nil ?_
            refine run_cond_f rfl ?_
            refine run_skip ?_
            refine run_seq ?_
            refine run_seq ?_
            refine run_region ?_
            refine ov (xmove rfl) rfl rfl rfl ?_
            refine ov (xmove rfl) rfl rfl rfl ?_
            refine oc (xcall Try.call13 rfl) rfl rfl rfl (toValS_ok _ _ _ xs0 _ (H0.ext E) (by omega)) ?_
            rintro _ w9 ⟨e9, q54, rfl, G54⟩
            have z9 := e9.size
            have E := E.trans e9
            replace X8_0 := X8_0.ext e9
            replace G35 := G35.ext e9
            replace G40_0 := G40_0.ext e9
            replace O1 := O1.ext e9
            refine oc (xcall Try.call15 rfl) rfl rfl rfl (eqValS_ok _ _ _ _ _ _ _ _ _ (G35.sl) (G54.sl)) ?_
            rintro _ w10 ⟨rfl, e10⟩
            have z10 := e10.size
            have E := E.trans e10
            replace X8_0 := X8_0.ext e10
            replace G35 := G35.ext e10
            replace G40_0 := G40_0.ext e10
            replace G54 := G54.ext e10
            replace O1 := O1.ext e10
            refine obs (fun c55 => ?_) (fun c55 => ?_)
            ·
              refine ov (xnot rfl) rfl rfl rfl ?_
              refine ops_nil ?_
              refine run_cond_f rfl ?_
              refine run_skip ?_
              refine run_seq ?_
              refine run_region ?_
              refine ov (xassign rfl) rfl rfl rfl ?_
              refine ops_nil ?_
              refine run_seq ?_
              refine run_region ?_
              refine ov (xmove rfl) rfl rfl rfl ?_
              refine ov (xmove rfl) rfl rfl rfl ?_
              refine oc (xcall Try.call22 rfl) rfl rfl rfl (markValueS_ok _ _ _ _ _ _ _ _ G35 (by omega) (by omega) (by omega)) ?_
              rintro _ w11 ⟨rfl, m11, g11⟩
              have z11 := m11.size
              have E := m11.toExt E (by omega)
              replace X8_0 := X8_0.off m11 (by omega)
              replace G40_0 := G40_0.off m11 (by omega)
              replace G54 := G54.off m11 (by omega)
              replace O1 := m11.own O1 (by omega)
              replace G35 := g11
              refine ov (xassign rfl) rfl rfl rfl ?_
              refine ops_nil ?_
              refine run_seq ?_
              refine run_seq ?_
              refine run_region ?_
              refine ov (xmove rfl) rfl rfl rfl ?_
              refine ov (xlss rfl rfl _ rfl) rfl rfl rfl ?_
              refine ods (fun c61 => ?_) (fun c61 => ?_)
              · exfalso; omega
              ·
                refine ov (xmove rfl) rfl rfl rfl ?_
                refine ov (xmove rfl) rfl rfl rfl ?_
                refine ov (xmove rfl) rfl rfl rfl ?_
                refine oc (xcall Try.call15 rfl) rfl rfl rfl (eqValS_ok _ _ _ _ _ _ _ _ _ (G40_0.sl) (X8_0.sl)) ?_
                rintro _ w12 ⟨rfl, e12⟩
                have z12 := e12.size
                have E := E.trans e12
                replace X8_0 := X8_0.ext e12
                replace G35 := G35.ext e12
                replace G40_0 := G40_0.ext e12
                replace G54 := G54.ext e12
                replace O1 := O1.ext e12
                refine obs (fun c65 => ?_) (fun c65 => ?_)
                ·
                  refine ov (xnot rfl) rfl rfl rfl ?_
                  refine ov (xpick_f rfl rfl) rfl rfl rfl ?_
                  refine ov (xmove rfl) rfl rfl rfl ?_
                  refine ov (xmove rfl) rfl rfl rfl ?_
                  refine ov (xmove rfl) rfl rfl rfl ?_
                  refine ov (xneq rfl rfl _ rfl) rfl rfl rfl ?_
                  refine ods (fun c71 => ?_) (fun c71 => ?_)
                  · exfalso; first | exact absurd rfl c71 | omega
                  ·
                    refine ov (xpick_f rfl rfl) rfl rfl rfl ?_
                    refine ops_nil ?_
                    refine run_cond_f rfl ?_
                    refine run_skip ?_
                    refine run_seq ?_
                    refine run_region ?_
                    refine ov (xassign rfl) rfl rfl rfl ?_
                    refine ops_nil ?_
                    refine run_seq ?_
                    refine run_region ?_
                    refine ov (xmove rfl) rfl rfl rfl ?_
                    refine ov (xmove rfl) rfl rfl rfl ?_
                    refine oc (xcall Try.call22 rfl) rfl rfl rfl (markValueS_ok _ _ _ _ _ _ _ _ G40_0 (by omega) (by omega) (by omega)) ?_
                    rintro _ w13 ⟨rfl, m13, g13⟩
                    have z13 := m13.size
                    have E := m13.toExt E (by omega)
                    replace X8_0 := X8_0.off m13 (by omega)
                    replace G35 := G35.off m13 (by omega)
                    replace G54 := G54.off m13 (by omega)
                    replace O1 := m13.own O1 (by omega)
                    replace G40_0 := g13
                    refine ov (xassign rfl) rfl rfl rfl ?_
                    refine ops_nil ?_
                    refine run_seq ?_
                    refine run_region ?_
                    refine ov (xassign rfl) rfl rfl rfl ?_
                    refine ops_nil ?_
                    refine run_seq ?_
                    refine run_region ?_
                    refine ov (xmove rfl) rfl rfl rfl ?_
                    refine ov (xmove rfl) rfl rfl rfl ?_
                    refine oc (xcall Try.call23 rfl) rfl rfl rfl (heldValueS_ok _ _ _ _ _ _ (G40_0.sl) (by omega) (by omega) (by omega)) ?_
                    rintro _ w14 ⟨rfl, e14⟩
                    have z14 := e14.size
                    have E := E.trans e14
                    replace X8_0 := X8_0.ext e14
                    replace G35 := G35.ext e14
                    replace G40_0 := G40_0.ext e14
                    replace G54 := G54.ext e14
                    replace O1 := O1.ext e14
                    refine ov (xassign rfl) rfl rfl rfl ?_
                    refine ops_nil ?_
                    refine run_seq ?_
                    refine run_seq ?_
                    refine run_region ?_
                    refine ov (xmove rfl) rfl rfl rfl ?_
                    refine ov (xlss rfl rfl _ rfl) rfl rfl rfl ?_
                    refine ods (fun c80 => ?_) (fun c80 => ?_)
                    · exfalso; omega
                    ·
                      refine ops_nil ?_
                      refine run_cond_f rfl ?_
                      refine run_skip ?_
                      refine run_seq ?_
                      refine run_seq ?_
                      refine run_region ?_
                      refine ov (xmove rfl) rfl rfl rfl ?_
                      refine ov (xmove rfl) rfl rfl rfl ?_
                      refine ov (xneq rfl rfl _ rfl) rfl rfl rfl ?_
                      refine ods (fun c83 => ?_) (fun c83 => ?_)
                      · exfalso; first | exact absurd rfl c83 | omega
                      ·
                        refine ops_nil ?_
                        refine run_cond_f rfl ?_
                        refine run_skip ?_
                        refine run_seq ?_
                        have RE := E
                        have RO1 := O1
                        refine run_held (ι := Option Addr × Nat × Nat) (fun x_ w' => match x_ with | (q27_0, m27_0, d27_0) => Ext w14 w' ∧ Ow Val.cells 2 37 w' w14.heap.size w'.heap.size q27_0 m27_0 d27_0 ((setValue xs0 r1).1)) (fun x_ => match x_ with | (q27_0, m27_0, d27_0) => [(4, .bool false), (6, .slice q8_0 m8_0 d8_0), (7, .int .i64 (setValue xs0 r1).2), (9, .slice q40_0 m40_0 d40_0), (12, .int .i64 (1 + 2 * (m40_0 : Int))), (13, .int .i64 (1 + 2 * (m40_0 : Int))), (14, .slice q27_0 m27_0 d27_0), (15, .int .i64 (setValue xs0 r1).2)]) (by kernel_rfl) ?_ ?_
                        · intro w0_ F
                          have z0_ := F.size
                          have E := E.trans F
                          replace X8_0 := X8_0.ext F
                          replace G35 := G35.ext F
                          replace G40_0 := G40_0.ext F
                          replace G54 := G54.ext F
                          replace O1 := O1.ext F
                          refine h_take 0 rfl (by kernel_rfl) (by kernel_rfl) (by kernel_rfl) (fun w' x_ => xmove rfl) rfl rfl rfl F ?_
                          refine h_take 2 (v := .agg #[.string r1.Name, .string r1.Text]) rfl (by kernel_rfl) (by kernel_rfl) (by kernel_rfl) (fun w' x_ => xloadN Try.isAgg33 Try.sizeOf33 rfl ((RO1.cells).ext x_) rfl) rfl rfl rfl F ?_
                          refine h_ready (rs := [1]) (by kernel_rfl) (by decide) ⟨?_, trivial⟩
                          ·
                            refine hs_call rfl (xcall Try.call13 rfl) rfl rfl rfl (toValS_ok _ _ _ xs0 _ (H0.ext E) (by omega)) ?_
                            rintro _ w15 ⟨e15, q86, rfl, G86⟩
                            have z15 := e15.size
                            have E := E.trans e15
                            replace X8_0 := X8_0.ext e15
                            replace G35 := G35.ext e15
                            replace G40_0 := G40_0.ext e15
                            replace G54 := G54.ext e15
                            replace O1 := O1.ext e15
                            have F := F.trans e15
                            refine ⟨F, ?_⟩
                            refine h_ready (rs := [3]) (by kernel_rfl) (by decide) ⟨?_, trivial⟩
                            ·
                              refine hs_call rfl (xcall Try.call20 rfl) rfl rfl rfl (toVal_ok r1 _) ?_
                              rintro _ w16 ⟨rfl, e16⟩
                              have z16 := e16.size
                              have E := E.trans e16
                              replace X8_0 := X8_0.ext e16
                              replace G35 := G35.ext e16
                              replace G40_0 := G40_0.ext e16
                              replace G54 := G54.ext e16
                              replace G86 := G86.ext e16
                              replace O1 := O1.ext e16
                              have F := F.trans e16
                              refine ⟨F, ?_⟩
                              refine h_ready (rs := [4]) (by kernel_rfl) (by decide) ⟨?_, trivial⟩
                              ·
                                refine hs_call rfl (xcall Try.call21 rfl) rfl rfl rfl (SetValue_ok _ _ _ xs0 r1 _ (G86.sl) hx0 hr1 (ow_nil G86)) ?_
                                rintro _ w17 ⟨e17, q89_0, m89_0, d89_0, rfl, G89_0⟩
                                have z17 := e17.size
                                have E := E.trans e17
                                replace X8_0 := X8_0.ext e17
                                replace G35 := G35.ext e17
                                replace G40_0 := G40_0.ext e17
                                replace G54 := G54.ext e17
                                replace G86 := G86.ext e17
                                replace O1 := O1.ext e17
                                have F := F.trans e17
                                have lG89_0 := G89_0.len
                                have hl_ := setValue_len xs0 r1
                                refine ⟨F, ?_⟩
                                refine h_take 5 rfl (by kernel_rfl) (by kernel_rfl) (by kernel_rfl) (fun w' x_ => xmove rfl) rfl rfl rfl F ?_
                                refine h_take 6 rfl (by kernel_rfl) (by kernel_rfl) (by kernel_rfl) (fun w' x_ => xextract rfl rfl) rfl rfl rfl F ?_
                                refine h_take 7 rfl (by kernel_rfl) (by kernel_rfl) (by kernel_rfl) (fun w' x_ => xextract rfl rfl) rfl rfl rfl F ?_
                                refine h_take 8 rfl (by kernel_rfl) (by kernel_rfl) (by kernel_rfl) (fun w' x_ => xassign rfl) rfl rfl rfl F ?_
                                refine h_take 9 rfl (by kernel_rfl) (by kernel_rfl) (by kernel_rfl) (fun w' x_ => xassign rfl) rfl rfl rfl F ?_
                                refine h_done (by kernel_rfl) ?_
                                intro a_ ha_
                                exact ⟨(q89_0, m89_0, d89_0), ⟨F, G89_0.wide (by omega) (by omega)⟩, ha_.sub ⟨rfl, rfl, rfl, rfl, rfl, rfl, rfl, rfl, trivial⟩⟩
                        · intro x_
                          obtain ⟨q27_0, m27_0, d27_0⟩ := x_
                          rintro w15 ⟨e15, X27_0⟩
                          have z15 := e15.size
                          have E := E.trans e15
                          replace X8_0 := X8_0.ext e15
                          replace G35 := G35.ext e15
                          replace G40_0 := G40_0.ext e15
                          replace G54 := G54.ext e15
                          replace O1 := O1.ext e15
                          have lX27_0 := X27_0.len
                          have hl_ := setValue_len xs0 r1
                          refine run_seq ?_
                          refine run_seq ?_
                          refine run_region ?_
                          refine ov (xmove rfl) rfl rfl rfl ?_
                          refine ov (xmove rfl) rfl rfl rfl ?_
                          refine oc (xcall Try.call15 rfl) rfl rfl rfl (eqValS_ok _ _ _ _ _ _ _ _ _ (X27_0.sl) (X8_0.sl)) ?_
                          rintro _ w16 ⟨rfl, e16⟩
                          have z16 := e16.size
                          have E := E.trans e16
                          replace X8_0 := X8_0.ext e16
                          replace G35 := G35.ext e16
                          replace G40_0 := G40_0.ext e16
                          replace G54 := G54.ext e16
                          replace X27_0 := X27_0.ext e16
                          replace O1 := O1.ext e16
                          refine obs (fun c94 => ?_) (fun c94 => ?_)
                          ·
                            refine ov (xnot rfl) rfl rfl rfl ?_
                            refine ov (xmove rfl) rfl rfl rfl ?_
                            refine ov (xmove rfl) rfl rfl rfl ?_
                            refine ov (xmove rfl) rfl rfl rfl ?_
                            refine ov (xneq rfl rfl _ rfl) rfl rfl rfl ?_
                            refine ods (fun c99 => ?_) (fun c99 => ?_)
                            · exfalso; first | exact absurd rfl c99 | omega
                            ·
                              refine ov (xpick_f rfl rfl) rfl rfl rfl ?_
                              refine ops_nil ?_
                              refine run_cond_f rfl ?_
                              refine run_skip ?_
                              refine run_seq ?_
                              refine run_region ?_
                              refine ov (xassign rfl) rfl rfl rfl ?_
                              refine ops_nil ?_
                              refine run_seq ?_
                              refine run_region ?_
                              refine ov (xmove rfl) rfl rfl rfl ?_
                              refine ov (xmove rfl) rfl rfl rfl ?_
                              refine oc (xcall Try.call23 rfl) rfl rfl rfl (heldValueS_ok _ _ _ _ _ _ (G40_0.sl) (by omega) (by omega) (by omega)) ?_
                              rintro _ w17 ⟨rfl, e17⟩
                              have z17 := e17.size
                              have E := E.trans e17
                              replace X8_0 := X8_0.ext e17
                              replace G35 := G35.ext e17
                              replace G40_0 := G40_0.ext e17
                              replace G54 := G54.ext e17
                              replace X27_0 := X27_0.ext e17
                              replace O1 := O1.ext e17
                              refine ov (xassign rfl) rfl rfl rfl ?_
                              refine ops_nil ?_
                              refine run_seq ?_
                              refine run_seq ?_
                              refine run_region ?_
                              refine ov (xmove rfl) rfl rfl rfl ?_
                              refine ov (xlss rfl rfl _ rfl) rfl rfl rfl ?_
                              refine ods (fun c105 => ?_) (fun c105 => ?_)
                              · exfalso; omega
                              ·
                                refine ops_nil ?_
                                refine run_cond_f rfl ?_
                                refine run_skip ?_
                                refine run_seq ?_
                                refine run_seq ?_
                                refine run_region ?_
                                refine ov (xmove rfl) rfl rfl rfl ?_
                                refine ov (xmove rfl) rfl rfl rfl ?_
                                refine ov (xneq rfl rfl _ rfl) rfl rfl rfl ?_
                                refine ods (fun c108 => ?_) (fun c108 => ?_)
                                · exfalso; first | exact absurd rfl c108 | omega
                                ·
                                  refine ops_nil ?_
                                  refine run_cond_f rfl ?_
                                  refine run_skip ?_
                                  refine run_seq ?_
                                  refine run_region ?_
                                  refine ov (xassign rfl) rfl rfl rfl ?_
                                  refine ops_nil ?_
                                  refine run_ret Try.func5 (res1 rfl rfl) ?_
                                  exact ⟨_, rfl, pv E⟩
                          · exfalso; rw [eqL_refl eqVal_refl] at c94; cases c94
                · exfalso; rw [eqL_refl eqVal_refl] at c65; cases c65
            · exfalso; rw [eqL_refl eqVal_refl] at c55; cases c55
        · exfalso; rw [eqL_refl eqVal_refl] at c45; cases c45
end Go.Proofs.Ytgbedilaiefcbaa
