/-
  The walk of the law FnExactSealChanges. No condition beyond those written in the theorem.
-/
import Derived.Test.YtnjohcbamblilaaExhRead
import Derived.Test.YtnjohcbamblilaaHolders
import Derived.Test.YtnjohcbamblilaaTExhM
namespace Go.Proofs.Ytnjohcbamblilaa
open Go.RowKit
set_option linter.unusedVariables false
set_option linter.unusedSimpArgs false
set_option linter.unusedSectionVars false
set_option maxRecDepth 4000

set_option maxHeartbeats 400000 in
theorem FnExactSealChanges_ok (w : World) (r0 : Exhibit) (p0_Chain : Option Addr) (n0_Chain c0_Chain : Nat) (H0_Chain : Sl Handing.cells 4 w p0_Chain n0_Chain c0_Chain r0.Chain) (hr0 : r0.ok) : Ret Try.prog 8 [.agg #[.string r0.Code, .string r0.Found, .int .i64 r0.Day, .int .i64 r0.Seal, .slice p0_Chain n0_Chain c0_Chain]] w (Pv w (.bool true)) := by
  refine ret_of_run (N := 96) Try.func8 rfl rfl rfl ?_
  have hn0_Chain := H0_Chain.len
  have hn60_Chain := H0_Chain.n64
  have hc0 : exSmall r0 := ⟨hr0.1, hr0.2.1, fun h hh => ⟨(hr0.2.2.2.2 h hh).2.1, (hr0.2.2.2.2 h hh).2.2.1⟩⟩
  have E : Ext w w := Ext.refl w
  refine run_seq ?_
  refine run_region ?_
  refine obox rfl rfl rfl ?_
  intro b1 w1 e1 hb1 hz1 O1
  have E := E.trans e1
  replace O1 : Own w1 b1 [.string r0.Code, .string r0.Found, .int .i64 r0.Day, .int .i64 r0.Seal, .slice p0_Chain n0_Chain c0_Chain] 43 := O1
  refine ov (xassign rfl) rfl rfl rfl ?_
  refine ops_nil ?_
  refine run_seq ?_
  refine run_region ?_
  refine ov (xassign rfl) rfl rfl rfl ?_
  refine ops_nil ?_
  refine run_seq ?_
  refine run_region ?_
  refine ov (v := .agg #[.string r0.Code, .string r0.Found, .int .i64 r0.Day, .int .i64 r0.Seal, .slice p0_Chain n0_Chain c0_Chain]) (xloadN Try.isAgg43 Try.sizeOf43 rfl (O1.cells) rfl) rfl rfl rfl ?_
  refine ov (xmove rfl) rfl rfl rfl ?_
  refine oc (xcall Try.call31 rfl) rfl rfl rfl (szExhibit_ok r0 1048576 _ _ _ _ (H0_Chain.ext E) hr0 (by omega) (by omega)) ?_
  rintro _ w2 ⟨rfl, e2⟩
  have z2 := e2.size
  have E := E.trans e2
  replace O1 := O1.ext e2
  refine ov (xassign rfl) rfl rfl rfl ?_
  refine ops_nil ?_
  refine run_seq ?_
  refine run_seq ?_
  refine run_region ?_
  refine ov (xmove rfl) rfl rfl rfl ?_
  refine ov (xlss rfl rfl _ rfl) rfl rfl rfl ?_
  refine ods (fun c18 => ?_) (fun c18 => ?_)
  ·
    refine ops_nil ?_
    refine run_cond_t rfl ?_
    refine run_seq ?_
    refine run_region ?_
    refine ov (xassign rfl) rfl rfl rfl ?_
    refine ops_nil ?_
    refine run_ret Try.func8 (res1 rfl rfl) ?_
    exact ⟨_, rfl, pv E⟩
  ·
    have hz0_ := szExhibit_nn (by omega : 0 ≤ szExhibit r0 1048576)
    refine ops_nil ?_
    refine run_cond_f rfl ?_
    refine run_skip ?_
    refine run_seq ?_
    refine run_region ?_
    refine ov (v := .agg #[.string r0.Code, .string r0.Found, .int .i64 r0.Day, .int .i64 r0.Seal, .slice p0_Chain n0_Chain c0_Chain]) (xloadN Try.isAgg43 Try.sizeOf43 rfl (O1.cells) rfl) rfl rfl rfl ?_
    refine oc (xcall Try.call33 rfl) rfl rfl rfl (toExhibit_ok r0 _ _ _ _ (H0_Chain.ext E) (by omega)) ?_
    rintro _ w3 ⟨e3, q21_Chain, rfl, G21_Chain⟩
    have z3 := e3.size
    have E := E.trans e3
    replace O1 := O1.ext e3
    refine oc (xcall Try.call38 rfl) rfl rfl rfl (sSealChanges_ok _ _ _ r0 _ (G21_Chain.sl) hc0) ?_
    rintro _ w4 ⟨e4, q22_0, m22_0, d22_0, rfl, G22_0⟩
    have z4 := e4.size
    have E := E.trans e4
    replace G21_Chain := G21_Chain.ext e4
    replace O1 := O1.ext e4
    have lG22_0 := G22_0.len
    have hl_ := sealChanges_len r0
    refine ov (xmove rfl) rfl rfl rfl ?_
    refine ov (xextract rfl rfl) rfl rfl rfl ?_
    refine ov (xextract rfl rfl) rfl rfl rfl ?_
    refine ov (xassign rfl) rfl rfl rfl ?_
    refine ov (xassign rfl) rfl rfl rfl ?_
    refine ops_nil ?_
    refine run_seq ?_
    refine run_region ?_
    refine ov (v := .agg #[.string r0.Code, .string r0.Found, .int .i64 r0.Day, .int .i64 r0.Seal, .slice p0_Chain n0_Chain c0_Chain]) (xloadN Try.isAgg43 Try.sizeOf43 rfl (O1.cells) rfl) rfl rfl rfl ?_
    refine oc (xcall Try.call33 rfl) rfl rfl rfl (toExhibit_ok r0 _ _ _ _ (H0_Chain.ext E) (by omega)) ?_
    rintro _ w5 ⟨e5, q26_Chain, rfl, G26_Chain⟩
    have z5 := e5.size
    have E := E.trans e5
    replace G21_Chain := G21_Chain.ext e5
    replace G22_0 := G22_0.ext e5
    replace O1 := O1.ext e5
    refine oalloc Try.zeroValue49 rfl rfl ?_
    intro b6 w6 e6 hb6 hz6 O6
    have E := E.trans e6
    replace G21_Chain := G21_Chain.ext e6
    replace G22_0 := G22_0.ext e6
    replace G26_Chain := G26_Chain.ext e6
    replace O1 := O1.ext e6
    replace O6 : Own w6 b6 [.string ⟨#[]⟩, .string ⟨#[]⟩, .int .i64 0, .int .i64 0, .slice none 0 0] 49 := O6
    refine ostoreN (vs := _) Try.sizeOf49 rfl rfl O6 rfl (by simp) (by simp [Value.oneCell']) rfl ?_
    intro w7 n7 O7
    have hz7 := n7.size
    have E := n7.ext E (by omega)
    replace G21_Chain := G21_Chain.only n7 (by omega)
    replace G22_0 := G22_0.only n7 (by omega)
    replace G26_Chain := G26_Chain.only n7 (by omega)
    replace O1 := n7.own O1 (by omega)
    replace O7 : Own w7 b6 [.string r0.Code, .string r0.Found, .int .i64 r0.Day, .int .i64 r0.Seal, .slice (some q26_Chain) n0_Chain n0_Chain] 49 := O7
    refine ops_nil ?_
    refine run_seq ?_
    refine run_region ?_
    refine ov (v := .agg #[.string r0.Code, .string r0.Found, .int .i64 r0.Day, .int .i64 r0.Seal, .slice (some q26_Chain) n0_Chain n0_Chain]) (xloadN Try.isAgg49 Try.sizeOf49 rfl (O7.cells) rfl) rfl rfl rfl ?_
    refine oc (xcall Try.call39 rfl) rfl rfl rfl (SealChanges_ok _ _ _ r0 _ (G26_Chain.sl) hc0) ?_
    rintro _ w8 ⟨e8, q29_0, m29_0, d29_0, rfl, G29_0⟩
    have z8 := e8.size
    have E := E.trans e8
    replace G21_Chain := G21_Chain.ext e8
    replace G22_0 := G22_0.ext e8
    replace G26_Chain := G26_Chain.ext e8
    replace O1 := O1.ext e8
    replace O7 := O7.ext e8
    have lG29_0 := G29_0.len
    have hl_ := sealChanges_len r0
    refine ov (xmove rfl) rfl rfl rfl ?_
    refine ov (xextract rfl rfl) rfl rfl rfl ?_
    refine ov (xextract rfl rfl) rfl rfl rfl ?_
    refine ov (xassign rfl) rfl rfl rfl ?_
    refine ov (xassign rfl) rfl rfl rfl ?_
    refine ops_nil ?_
    refine run_seq ?_
    refine run_seq ?_
    refine run_region ?_
    refine ov (xmove rfl) rfl rfl rfl ?_
    refine ov (xmove rfl) rfl rfl rfl ?_
    refine oc (xcall Try.call40 rfl) rfl rfl rfl (eqInt64S_ok _ _ _ _ _ _ _ _ _ (G29_0.sl) (G22_0.sl)) ?_
    rintro _ w9 ⟨rfl, e9⟩
    have z9 := e9.size
    have E := E.trans e9
    replace G21_Chain := G21_Chain.ext e9
    replace G22_0 := G22_0.ext e9
    replace G26_Chain := G26_Chain.ext e9
    replace G29_0 := G29_0.ext e9
    replace O1 := O1.ext e9
    replace O7 := O7.ext e9
    refine obs (fun c34 => ?_) (fun c34 => ?_)
    ·
      refine ov (xnot rfl) rfl rfl rfl ?_
      refine ov (xmove rfl) rfl rfl rfl ?_
      refine ov (xmove rfl) rfl rfl rfl ?_
      refine ov (xmove rfl) rfl rfl rfl ?_
      refine ov (xneq rfl rfl _ rfl) rfl rfl rfl ?_
      refine ods (fun c39 => ?_) (fun c39 => ?_)
      · exfalso; exact absurd rfl c39
      ·
        refine ov (xpick_f rfl rfl) rfl rfl rfl ?_
        refine ops_nil ?_
        refine run_cond_f rfl ?_
        refine run_skip ?_
        refine run_seq ?_
        refine run_seq ?_
        have RE := E
        have RO1 := O1
        have RO7 := O7
        refine run_held (ι := Unit) (fun x_ w' => match x_ with | () => Ext w9 w' ∧ True) (fun x_ => match x_ with | () => [(1, .pointer (some ⟨b1, 0, none⟩)), (2, .bool false), (4, .slice q22_0 m22_0 d22_0), (5, .int .i64 (sealChanges r0).2), (6, .pointer (some ⟨b6, 0, none⟩)), (7, .slice q29_0 m29_0 d29_0), (8, .int .i64 (sealChanges r0).2), (45, .bool false)]) (by kernel_rfl) ?_ ?_
        · intro w0_ F
          have z0_ := F.size
          have E := E.trans F
          replace G21_Chain := G21_Chain.ext F
          replace G22_0 := G22_0.ext F
          replace G26_Chain := G26_Chain.ext F
          replace G29_0 := G29_0.ext F
          replace O1 := O1.ext F
          replace O7 := O7.ext F
          refine h_take 0 (v := .agg #[.string r0.Code, .string r0.Found, .int .i64 r0.Day, .int .i64 r0.Seal, .slice (some q26_Chain) n0_Chain n0_Chain]) rfl (by kernel_rfl) (by kernel_rfl) (by kernel_rfl) (fun w' x_ => xloadN Try.isAgg49 Try.sizeOf49 rfl ((RO7.cells).ext x_) rfl) rfl rfl rfl F ?_
          refine h_take 1 (v := .agg #[.string r0.Code, .string r0.Found, .int .i64 r0.Day, .int .i64 r0.Seal, .slice p0_Chain n0_Chain c0_Chain]) rfl (by kernel_rfl) (by kernel_rfl) (by kernel_rfl) (fun w' x_ => xloadN Try.isAgg43 Try.sizeOf43 rfl ((RO1.cells).ext x_) rfl) rfl rfl rfl F ?_
          refine h_ready (rs := [2]) (by kernel_rfl) (by decide) ⟨?_, trivial⟩
          ·
            refine hs_call rfl (xcall Try.call33 rfl) rfl rfl rfl (toExhibit_ok r0 _ _ _ _ (H0_Chain.ext E) (by omega)) ?_
            rintro _ w10 ⟨e10, q43_Chain, rfl, G43_Chain⟩
            have z10 := e10.size
            have E := E.trans e10
            replace G21_Chain := G21_Chain.ext e10
            replace G22_0 := G22_0.ext e10
            replace G26_Chain := G26_Chain.ext e10
            replace G29_0 := G29_0.ext e10
            replace O1 := O1.ext e10
            replace O7 := O7.ext e10
            have F := F.trans e10
            refine ⟨F, ?_⟩
            refine h_ready (rs := [3]) (by kernel_rfl) (by decide) ⟨?_, trivial⟩
            ·
              refine hs_call rfl (xcall Try.call35 rfl) rfl rfl rfl (eqExhibit_ok _ _ _ _ _ _ (G26_Chain.sl) _ _ _ (G43_Chain.sl)) ?_
              rintro _ w11 ⟨rfl, e11⟩
              have z11 := e11.size
              have E := E.trans e11
              replace G21_Chain := G21_Chain.ext e11
              replace G22_0 := G22_0.ext e11
              replace G26_Chain := G26_Chain.ext e11
              replace G29_0 := G29_0.ext e11
              replace G43_Chain := G43_Chain.ext e11
              replace O1 := O1.ext e11
              replace O7 := O7.ext e11
              have F := F.trans e11
              refine ⟨F, ?_⟩
              refine h_bs (fun c44 => ?_) (fun c44 => ?_)
              ·
                refine h_take 4 rfl (by kernel_rfl) (by kernel_rfl) (by kernel_rfl) (fun w' x_ => xnot rfl) rfl rfl rfl F ?_
                refine h_done (by kernel_rfl) ?_
                intro a_ ha_
                exact ⟨(), ⟨F, trivial⟩, ha_.sub ⟨rfl, rfl, rfl, rfl, rfl, rfl, rfl, rfl, trivial⟩⟩
              · exfalso; rw [eqExhibit_refl] at c44; cases c44
        · intro x_
          obtain ⟨⟩ := x_
          rintro w10 ⟨e10, _⟩
          have z10 := e10.size
          have E := E.trans e10
          replace G21_Chain := G21_Chain.ext e10
          replace G22_0 := G22_0.ext e10
          replace G26_Chain := G26_Chain.ext e10
          replace G29_0 := G29_0.ext e10
          replace O1 := O1.ext e10
          replace O7 := O7.ext e10
          refine run_cond_f rfl ?_
          refine run_skip ?_
          refine run_seq ?_
          refine run_region ?_
          refine ov (xassign rfl) rfl rfl rfl ?_
          refine ops_nil ?_
          refine run_seq ?_
          refine run_region ?_
          refine ov (v := .agg #[.string r0.Code, .string r0.Found, .int .i64 r0.Day, .int .i64 r0.Seal, .slice (some q26_Chain) n0_Chain n0_Chain]) (xloadN Try.isAgg49 Try.sizeOf49 rfl (O7.cells) rfl) rfl rfl rfl ?_
          refine ov (xmove rfl) rfl rfl rfl ?_
          refine oc (xcall Try.call41 rfl) rfl rfl rfl (markExhibit_ok _ _ _ _ _ _ _ _ _ _ _ _ G26_Chain (by omega) (by omega) (by omega) (by omega)) ?_
          rintro _ w11 ⟨rfl, m11, g11⟩
          have z11 := m11.size
          have E := m11.toExt E (by omega)
          replace G21_Chain := G21_Chain.off m11 (by omega)
          replace G22_0 := G22_0.off m11 (by omega)
          replace G29_0 := G29_0.off m11 (by omega)
          replace O1 := m11.own O1 (by omega)
          replace O7 := m11.own O7 (by omega)
          replace G26_Chain := g11
          refine ov (xassign rfl) rfl rfl rfl ?_
          refine ops_nil ?_
          refine run_seq ?_
          refine run_seq ?_
          refine run_region ?_
          refine ov (xmove rfl) rfl rfl rfl ?_
          refine ov (xlss rfl rfl _ rfl) rfl rfl rfl ?_
          refine ods (fun c50 => ?_) (fun c50 => ?_)
          · exfalso; omega
          ·
            refine ov (xmove rfl) rfl rfl rfl ?_
            refine ov (xmove rfl) rfl rfl rfl ?_
            refine ov (xmove rfl) rfl rfl rfl ?_
            refine oc (xcall Try.call40 rfl) rfl rfl rfl (eqInt64S_ok _ _ _ _ _ _ _ _ _ (G29_0.sl) (G22_0.sl)) ?_
            rintro _ w12 ⟨rfl, e12⟩
            have z12 := e12.size
            have E := E.trans e12
            replace G21_Chain := G21_Chain.ext e12
            replace G22_0 := G22_0.ext e12
            replace G26_Chain := G26_Chain.ext e12
            replace G29_0 := G29_0.ext e12
            replace O1 := O1.ext e12
            replace O7 := O7.ext e12
            refine obs (fun c54 => ?_) (fun c54 => ?_)
            ·
              refine ov (xnot rfl) rfl rfl rfl ?_
              refine ov (xpick_f rfl rfl) rfl rfl rfl ?_
              refine ov (xmove rfl) rfl rfl rfl ?_
              refine ov (xmove rfl) rfl rfl rfl ?_
              refine ov (xmove rfl) rfl rfl rfl ?_
              refine ov (xneq rfl rfl _ rfl) rfl rfl rfl ?_
              refine ods (fun c60 => ?_) (fun c60 => ?_)
              · exfalso; exact absurd rfl c60
              ·
                refine ov (xpick_f rfl rfl) rfl rfl rfl ?_
                refine ops_nil ?_
                refine run_cond_f rfl ?_
                refine run_skip ?_
                refine run_seq ?_
                refine run_region ?_
                refine ov (xassign rfl) rfl rfl rfl ?_
                refine ops_nil ?_
                refine run_seq ?_
                refine run_region ?_
                refine ov (xmove rfl) rfl rfl rfl ?_
                refine ov (xmove rfl) rfl rfl rfl ?_
                refine oc (xcall Try.call42 rfl) rfl rfl rfl (markInt64S_ok _ _ _ _ _ _ _ _ G29_0 (by omega) (by omega) (by omega)) ?_
                rintro _ w13 ⟨rfl, m13, g13⟩
                have z13 := m13.size
                have E := m13.toExt E (by omega)
                replace G21_Chain := G21_Chain.off m13 (by omega)
                replace G22_0 := G22_0.off m13 (by omega)
                replace G26_Chain := G26_Chain.off m13 (by omega)
                replace O1 := m13.own O1 (by omega)
                replace O7 := m13.own O7 (by omega)
                replace G29_0 := g13
                refine ov (xassign rfl) rfl rfl rfl ?_
                refine ops_nil ?_
                refine run_seq ?_
                refine run_region ?_
                refine ov (xassign rfl) rfl rfl rfl ?_
                refine ops_nil ?_
                refine run_seq ?_
                refine run_region ?_
                refine ov (xmove rfl) rfl rfl rfl ?_
                refine ov (xmove rfl) rfl rfl rfl ?_
                refine oc (xcall Try.call43 rfl) rfl rfl rfl (heldInt64S_ok _ _ _ _ _ _ (G29_0.sl) (by omega) (by omega) (by omega)) ?_
                rintro _ w14 ⟨rfl, e14⟩
                have z14 := e14.size
                have E := E.trans e14
                replace G21_Chain := G21_Chain.ext e14
                replace G22_0 := G22_0.ext e14
                replace G26_Chain := G26_Chain.ext e14
                replace G29_0 := G29_0.ext e14
                replace O1 := O1.ext e14
                replace O7 := O7.ext e14
                refine ov (xassign rfl) rfl rfl rfl ?_
                refine ops_nil ?_
                refine run_seq ?_
                refine run_seq ?_
                refine run_region ?_
                refine ov (xmove rfl) rfl rfl rfl ?_
                refine ov (xlss rfl rfl _ rfl) rfl rfl rfl ?_
                refine ods (fun c69 => ?_) (fun c69 => ?_)
                · exfalso; omega
                ·
                  refine ops_nil ?_
                  refine run_cond_f rfl ?_
                  refine run_skip ?_
                  refine run_seq ?_
                  refine run_seq ?_
                  refine run_region ?_
                  refine ov (xmove rfl) rfl rfl rfl ?_
                  refine ov (xmove rfl) rfl rfl rfl ?_
                  refine ov (xneq rfl rfl _ rfl) rfl rfl rfl ?_
                  refine ods (fun c72 => ?_) (fun c72 => ?_)
                  · exfalso; exact absurd rfl c72
                  ·
                    refine ops_nil ?_
                    refine run_cond_f rfl ?_
                    refine run_skip ?_
                    refine run_seq ?_
                    refine run_region ?_
                    refine ov (v := .agg #[.string r0.Code, .string r0.Found, .int .i64 r0.Day, .int .i64 r0.Seal, .slice p0_Chain n0_Chain c0_Chain]) (xloadN Try.isAgg43 Try.sizeOf43 rfl (O1.cells) rfl) rfl rfl rfl ?_
                    refine oc (xcall Try.call33 rfl) rfl rfl rfl (toExhibit_ok r0 _ _ _ _ (H0_Chain.ext E) (by omega)) ?_
                    rintro _ w15 ⟨e15, q75_Chain, rfl, G75_Chain⟩
                    have z15 := e15.size
                    have E := E.trans e15
                    replace G21_Chain := G21_Chain.ext e15
                    replace G22_0 := G22_0.ext e15
                    replace G26_Chain := G26_Chain.ext e15
                    replace G29_0 := G29_0.ext e15
                    replace O1 := O1.ext e15
                    replace O7 := O7.ext e15
                    refine oc (xcall Try.call39 rfl) rfl rfl rfl (SealChanges_ok _ _ _ r0 _ (G75_Chain.sl) hc0) ?_
                    rintro _ w16 ⟨e16, q76_0, m76_0, d76_0, rfl, G76_0⟩
                    have z16 := e16.size
                    have E := E.trans e16
                    replace G21_Chain := G21_Chain.ext e16
                    replace G22_0 := G22_0.ext e16
                    replace G26_Chain := G26_Chain.ext e16
                    replace G29_0 := G29_0.ext e16
                    replace G75_Chain := G75_Chain.ext e16
                    replace O1 := O1.ext e16
                    replace O7 := O7.ext e16
                    have lG76_0 := G76_0.len
                    have hl_ := sealChanges_len r0
                    refine ov (xmove rfl) rfl rfl rfl ?_
                    refine ov (xextract rfl rfl) rfl rfl rfl ?_
                    refine ov (xextract rfl rfl) rfl rfl rfl ?_
                    refine ov (xassign rfl) rfl rfl rfl ?_
                    refine ov (xassign rfl) rfl rfl rfl ?_
                    refine ops_nil ?_
                    refine run_seq ?_
                    refine run_seq ?_
                    refine run_region ?_
                    refine ov (xmove rfl) rfl rfl rfl ?_
                    refine ov (xmove rfl) rfl rfl rfl ?_
                    refine oc (xcall Try.call40 rfl) rfl rfl rfl (eqInt64S_ok _ _ _ _ _ _ _ _ _ (G76_0.sl) (G22_0.sl)) ?_
                    rintro _ w17 ⟨rfl, e17⟩
                    have z17 := e17.size
                    have E := E.trans e17
                    replace G21_Chain := G21_Chain.ext e17
                    replace G22_0 := G22_0.ext e17
                    replace G26_Chain := G26_Chain.ext e17
                    replace G29_0 := G29_0.ext e17
                    replace G75_Chain := G75_Chain.ext e17
                    replace G76_0 := G76_0.ext e17
                    replace O1 := O1.ext e17
                    replace O7 := O7.ext e17
                    refine obs (fun c81 => ?_) (fun c81 => ?_)
                    ·
                      refine ov (xnot rfl) rfl rfl rfl ?_
                      refine ov (xmove rfl) rfl rfl rfl ?_
                      refine ov (xmove rfl) rfl rfl rfl ?_
                      refine ov (xmove rfl) rfl rfl rfl ?_
                      refine ov (xneq rfl rfl _ rfl) rfl rfl rfl ?_
                      refine ods (fun c86 => ?_) (fun c86 => ?_)
                      · exfalso; exact absurd rfl c86
                      ·
                        refine ov (xpick_f rfl rfl) rfl rfl rfl ?_
                        refine ops_nil ?_
                        refine run_cond_f rfl ?_
                        refine run_skip ?_
                        refine run_seq ?_
                        refine run_region ?_
                        refine ov (xassign rfl) rfl rfl rfl ?_
                        refine ops_nil ?_
                        refine run_seq ?_
                        refine run_region ?_
                        refine ov (xmove rfl) rfl rfl rfl ?_
                        refine ov (xmove rfl) rfl rfl rfl ?_
                        refine oc (xcall Try.call43 rfl) rfl rfl rfl (heldInt64S_ok _ _ _ _ _ _ (G29_0.sl) (by omega) (by omega) (by omega)) ?_
                        rintro _ w18 ⟨rfl, e18⟩
                        have z18 := e18.size
                        have E := E.trans e18
                        replace G21_Chain := G21_Chain.ext e18
                        replace G22_0 := G22_0.ext e18
                        replace G26_Chain := G26_Chain.ext e18
                        replace G29_0 := G29_0.ext e18
                        replace G75_Chain := G75_Chain.ext e18
                        replace G76_0 := G76_0.ext e18
                        replace O1 := O1.ext e18
                        replace O7 := O7.ext e18
                        refine ov (xassign rfl) rfl rfl rfl ?_
                        refine ops_nil ?_
                        refine run_seq ?_
                        refine run_seq ?_
                        refine run_region ?_
                        refine ov (xmove rfl) rfl rfl rfl ?_
                        refine ov (xlss rfl rfl _ rfl) rfl rfl rfl ?_
                        refine ods (fun c92 => ?_) (fun c92 => ?_)
                        · exfalso; omega
                        ·
                          refine ops_nil ?_
                          refine run_cond_f rfl ?_
                          refine run_skip ?_
                          refine run_seq ?_
                          refine run_seq ?_
                          refine run_region ?_
                          refine ov (xmove rfl) rfl rfl rfl ?_
                          refine ov (xmove rfl) rfl rfl rfl ?_
                          refine ov (xneq rfl rfl _ rfl) rfl rfl rfl ?_
                          refine ods (fun c95 => ?_) (fun c95 => ?_)
                          · exfalso; exact absurd rfl c95
                          ·
                            refine ops_nil ?_
                            refine run_cond_f rfl ?_
                            refine run_skip ?_
                            refine run_seq ?_
                            refine run_region ?_
                            refine ov (xassign rfl) rfl rfl rfl ?_
                            refine ops_nil ?_
                            refine run_ret Try.func8 (res1 rfl rfl) ?_
                            exact ⟨_, rfl, pv E⟩
                    · exfalso; rw [eqL_refl eqI_refl] at c81; cases c81
            · exfalso; rw [eqL_refl eqI_refl] at c54; cases c54
    · exfalso; rw [eqL_refl eqI_refl] at c34; cases c34
end Go.Proofs.Ytnjohcbamblilaa
