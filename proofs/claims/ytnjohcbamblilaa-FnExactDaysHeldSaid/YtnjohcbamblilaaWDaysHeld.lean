/-
  The walk of the law FnExactDaysHeld. No condition beyond those written in the theorem.
-/
import Derived.Test.YtnjohcbamblilaaExhRead
import Derived.Test.YtnjohcbamblilaaHeld
namespace Go.Proofs.Ytnjohcbamblilaa
open Go.RowKit
set_option linter.unusedVariables false
set_option linter.unusedSimpArgs false
set_option linter.unusedSectionVars false
set_option maxRecDepth 4000

set_option maxHeartbeats 400000 in
theorem FnExactDaysHeld_ok (w : World) (r0 : Exhibit) (p0_Chain : Option Addr) (n0_Chain c0_Chain : Nat) (H0_Chain : Sl Handing.cells 4 w p0_Chain n0_Chain c0_Chain r0.Chain) (hr0 : r0.ok) (s1 : ByteArray) (hs1 : s1.size ≤ 9223372036854775807) (k2 : Int) (hk2 : I64 k2) : Ret Try.prog 7 [.agg #[.string r0.Code, .string r0.Found, .int .i64 r0.Day, .int .i64 r0.Seal, .slice p0_Chain n0_Chain c0_Chain], .string s1, .int .i64 k2] w (Pv w (.bool true)) := by
  refine ret_of_run (N := 51) Try.func7 rfl rfl rfl ?_
  have hn0_Chain := H0_Chain.len
  have hn60_Chain := H0_Chain.n64
  have hc0 : exSmall r0 := ⟨hr0.1, hr0.2.1, fun h hh => ⟨(hr0.2.2.2.2 h hh).2.1, (hr0.2.2.2.2 h hh).2.2.1⟩⟩
  have E : Ext w w := Ext.refl w
  refine run_seq ?_
  refine run_region ?_
  refine obox rfl rfl rfl ?_
  intro b1 w1 e1 hb1 hz1 O1
  have E := E.trans e1
  replace O1 : Own w1 b1 [.string r0.Code, .string r0.Found, .int .i64 r0.Day, .int .i64 r0.Seal, .slice p0_Chain n0_Chain c0_Chain] 43 := O1
  refine ov (xassign rfl) rfl rfl rfl ?_
  refine ops_nil ?_
  refine run_seq ?_
  refine run_seq ?_
  refine run_region ?_
  refine ov (xmove rfl) rfl rfl rfl ?_
  refine ov (xlens Try.underlying9 rfl) rfl rfl rfl ?_
  refine ov (xgtr rfl rfl _ rfl) rfl rfl rfl ?_
  refine ods (fun c15 => ?_) (fun c15 => ?_)
  ·
    refine ops_nil ?_
    refine run_cond_t rfl ?_
    refine run_seq ?_
    refine run_region ?_
    refine ov (xassign rfl) rfl rfl rfl ?_
    refine ops_nil ?_
    refine run_ret Try.func7 (res1 rfl rfl) ?_
    exact ⟨_, rfl, pv E⟩
  ·
    refine ops_nil ?_
    refine run_cond_f rfl ?_
    refine run_skip ?_
    refine run_seq ?_
    refine run_region ?_
    refine ov (xassign rfl) rfl rfl rfl ?_
    refine ops_nil ?_
    refine run_seq ?_
    refine run_region ?_
    refine ov (v := .agg #[.string r0.Code, .string r0.Found, .int .i64 r0.Day, .int .i64 r0.Seal, .slice p0_Chain n0_Chain c0_Chain]) (xloadN Try.isAgg43 Try.sizeOf43 rfl (O1.cells) rfl) rfl rfl rfl ?_
    refine ov (xmove rfl) rfl rfl rfl ?_
    refine oc (xcall Try.call31 rfl) rfl rfl rfl (szExhibit_ok r0 1048576 _ _ _ _ (H0_Chain.ext E) hr0 (by omega) (by omega)) ?_
    rintro _ w2 ⟨rfl, e2⟩
    have z2 := e2.size
    have E := E.trans e2
    replace O1 := O1.ext e2
    refine ov (xassign rfl) rfl rfl rfl ?_
    refine ops_nil ?_
    refine run_seq ?_
    refine run_seq ?_
    refine run_region ?_
    refine ov (xmove rfl) rfl rfl rfl ?_
    refine ov (xlss rfl rfl _ rfl) rfl rfl rfl ?_
    refine ods (fun c20 => ?_) (fun c20 => ?_)
    ·
      refine ops_nil ?_
      refine run_cond_t rfl ?_
      refine run_seq ?_
      refine run_region ?_
      refine ov (xassign rfl) rfl rfl rfl ?_
      refine ops_nil ?_
      refine run_ret Try.func7 (res1 rfl rfl) ?_
      exact ⟨_, rfl, pv E⟩
    ·
      have hz0_ := szExhibit_nn (by omega : 0 ≤ szExhibit r0 1048576)
      refine ops_nil ?_
      refine run_cond_f rfl ?_
      refine run_skip ?_
      refine run_seq ?_
      refine run_region ?_
      refine ov (v := .agg #[.string r0.Code, .string r0.Found, .int .i64 r0.Day, .int .i64 r0.Seal, .slice p0_Chain n0_Chain c0_Chain]) (xloadN Try.isAgg43 Try.sizeOf43 rfl (O1.cells) rfl) rfl rfl rfl ?_
      refine oc (xcall Try.call33 rfl) rfl rfl rfl (toExhibit_ok r0 _ _ _ _ (H0_Chain.ext E) (by omega)) ?_
      rintro _ w3 ⟨e3, q23_Chain, rfl, G23_Chain⟩
      have z3 := e3.size
      have E := E.trans e3
      replace O1 := O1.ext e3
      refine ov (xmove rfl) rfl rfl rfl ?_
      refine ov (xmove rfl) rfl rfl rfl ?_
      refine oc (xcall Try.call36 rfl) rfl rfl rfl (sDaysHeld_ok _ _ _ r0 _ (G23_Chain.sl) hc0 s1 k2) ?_
      rintro _ w4 ⟨rfl, e4⟩
      have z4 := e4.size
      have E := E.trans e4
      replace G23_Chain := G23_Chain.ext e4
      replace O1 := O1.ext e4
      refine ov (xmove rfl) rfl rfl rfl ?_
      refine ov (xextract rfl rfl) rfl rfl rfl ?_
      refine ov (xextract rfl rfl) rfl rfl rfl ?_
      refine ov (xassign rfl) rfl rfl rfl ?_
      refine ov (xassign rfl) rfl rfl rfl ?_
      refine ops_nil ?_
      refine run_seq ?_
      refine run_region ?_
      refine ov (v := .agg #[.string r0.Code, .string r0.Found, .int .i64 r0.Day, .int .i64 r0.Seal, .slice p0_Chain n0_Chain c0_Chain]) (xloadN Try.isAgg43 Try.sizeOf43 rfl (O1.cells) rfl) rfl rfl rfl ?_
      refine oc (xcall Try.call33 rfl) rfl rfl rfl (toExhibit_ok r0 _ _ _ _ (H0_Chain.ext E) (by omega)) ?_
      rintro _ w5 ⟨e5, q30_Chain, rfl, G30_Chain⟩
      have z5 := e5.size
      have E := E.trans e5
      replace G23_Chain := G23_Chain.ext e5
      replace O1 := O1.ext e5
      refine oalloc Try.zeroValue49 rfl rfl ?_
      intro b6 w6 e6 hb6 hz6 O6
      have E := E.trans e6
      replace G23_Chain := G23_Chain.ext e6
      replace G30_Chain := G30_Chain.ext e6
      replace O1 := O1.ext e6
      replace O6 : Own w6 b6 [.string ⟨#[]⟩, .string ⟨#[]⟩, .int .i64 0, .int .i64 0, .slice none 0 0] 49 := O6
      refine ostoreN (vs := _) Try.sizeOf49 rfl rfl O6 rfl (by simp) (by simp [Value.oneCell']) rfl ?_
      intro w7 n7 O7
      have hz7 := n7.size
      have E := n7.ext E (by omega)
      replace G23_Chain := G23_Chain.only n7 (by omega)
      replace G30_Chain := G30_Chain.only n7 (by omega)
      replace O1 := n7.own O1 (by omega)
      replace O7 : Own w7 b6 [.string r0.Code, .string r0.Found, .int .i64 r0.Day, .int .i64 r0.Seal, .slice (some q30_Chain) n0_Chain n0_Chain] 49 := O7
      refine ops_nil ?_
      refine run_seq ?_
      refine run_region ?_
      refine ov (v := .agg #[.string r0.Code, .string r0.Found, .int .i64 r0.Day, .int .i64 r0.Seal, .slice (some q30_Chain) n0_Chain n0_Chain]) (xloadN Try.isAgg49 Try.sizeOf49 rfl (O7.cells) rfl) rfl rfl rfl ?_
      refine ov (xmove rfl) rfl rfl rfl ?_
      refine ov (xmove rfl) rfl rfl rfl ?_
      refine oc (xcall Try.call37 rfl) rfl rfl rfl (DaysHeld_ok _ _ _ r0 _ (G30_Chain.sl) hc0 s1 k2) ?_
      rintro _ w8 ⟨rfl, e8⟩
      have z8 := e8.size
      have E := E.trans e8
      replace G23_Chain := G23_Chain.ext e8
      replace G30_Chain := G30_Chain.ext e8
      replace O1 := O1.ext e8
      replace O7 := O7.ext e8
      refine ov (xmove rfl) rfl rfl rfl ?_
      refine ov (xextract rfl rfl) rfl rfl rfl ?_
      refine ov (xextract rfl rfl) rfl rfl rfl ?_
      refine ov (xassign rfl) rfl rfl rfl ?_
      refine ov (xassign rfl) rfl rfl rfl ?_
      refine ops_nil ?_
      refine run_seq ?_
      refine run_seq ?_
      refine run_region ?_
      refine ov (xmove rfl) rfl rfl rfl ?_
      refine ov (xmove rfl) rfl rfl rfl ?_
      refine ov (xneq rfl rfl _ rfl) rfl rfl rfl ?_
      refine ods (fun c40 => ?_) (fun c40 => ?_)
      · exfalso; exact absurd rfl c40
      ·
        refine ov (xmove rfl) rfl rfl rfl ?_
        refine ov (xmove rfl) rfl rfl rfl ?_
        refine ov (xmove rfl) rfl rfl rfl ?_
        refine ov (xneq rfl rfl _ rfl) rfl rfl rfl ?_
        refine ods (fun c44 => ?_) (fun c44 => ?_)
        · exfalso; exact absurd rfl c44
        ·
          refine ov (xpick_f rfl rfl) rfl rfl rfl ?_
          refine ops_nil ?_
          refine run_cond_f rfl ?_
          refine run_skip ?_
          refine run_seq ?_
          refine run_seq ?_
          have RE := E
          have RO1 := O1
          have RO7 := O7
          refine run_held (ι := Unit) (fun x_ w' => match x_ with | () => Ext w8 w' ∧ True) (fun x_ => match x_ with | () => [(6, .bool false), (50, .bool false)]) (by kernel_rfl) ?_ ?_
          · intro w0_ F
            have z0_ := F.size
            have E := E.trans F
            replace G23_Chain := G23_Chain.ext F
            replace G30_Chain := G30_Chain.ext F
            replace O1 := O1.ext F
            replace O7 := O7.ext F
            refine h_take 0 (v := .agg #[.string r0.Code, .string r0.Found, .int .i64 r0.Day, .int .i64 r0.Seal, .slice (some q30_Chain) n0_Chain n0_Chain]) rfl (by kernel_rfl) (by kernel_rfl) (by kernel_rfl) (fun w' x_ => xloadN Try.isAgg49 Try.sizeOf49 rfl ((RO7.cells).ext x_) rfl) rfl rfl rfl F ?_
            refine h_take 1 (v := .agg #[.string r0.Code, .string r0.Found, .int .i64 r0.Day, .int .i64 r0.Seal, .slice p0_Chain n0_Chain c0_Chain]) rfl (by kernel_rfl) (by kernel_rfl) (by kernel_rfl) (fun w' x_ => xloadN Try.isAgg43 Try.sizeOf43 rfl ((RO1.cells).ext x_) rfl) rfl rfl rfl F ?_
            refine h_ready (rs := [2]) (by kernel_rfl) (by decide) ⟨?_, trivial⟩
            ·
              refine hs_call rfl (xcall Try.call33 rfl) rfl rfl rfl (toExhibit_ok r0 _ _ _ _ (H0_Chain.ext E) (by omega)) ?_
              rintro _ w9 ⟨e9, q48_Chain, rfl, G48_Chain⟩
              have z9 := e9.size
              have E := E.trans e9
              replace G23_Chain := G23_Chain.ext e9
              replace G30_Chain := G30_Chain.ext e9
              replace O1 := O1.ext e9
              replace O7 := O7.ext e9
              have F := F.trans e9
              refine ⟨F, ?_⟩
              refine h_ready (rs := [3]) (by kernel_rfl) (by decide) ⟨?_, trivial⟩
              ·
                refine hs_call rfl (xcall Try.call35 rfl) rfl rfl rfl (eqExhibit_ok _ _ _ _ _ _ (G30_Chain.sl) _ _ _ (G48_Chain.sl)) ?_
                rintro _ w10 ⟨rfl, e10⟩
                have z10 := e10.size
                have E := E.trans e10
                replace G23_Chain := G23_Chain.ext e10
                replace G30_Chain := G30_Chain.ext e10
                replace G48_Chain := G48_Chain.ext e10
                replace O1 := O1.ext e10
                replace O7 := O7.ext e10
                have F := F.trans e10
                refine ⟨F, ?_⟩
                refine h_bs (fun c49 => ?_) (fun c49 => ?_)
                ·
                  refine h_take 4 rfl (by kernel_rfl) (by kernel_rfl) (by kernel_rfl) (fun w' x_ => xnot rfl) rfl rfl rfl F ?_
                  refine h_done (by kernel_rfl) ?_
                  intro a_ ha_
                  exact ⟨(), ⟨F, trivial⟩, ha_.sub ⟨rfl, rfl, trivial⟩⟩
                · exfalso; rw [eqExhibit_refl] at c49; cases c49
          · intro x_
            obtain ⟨⟩ := x_
            rintro w9 ⟨e9, _⟩
            have z9 := e9.size
            have E := E.trans e9
            replace G23_Chain := G23_Chain.ext e9
            replace G30_Chain := G30_Chain.ext e9
            replace O1 := O1.ext e9
            replace O7 := O7.ext e9
            refine run_cond_f rfl ?_
            refine run_skip ?_
            refine run_seq ?_
            refine run_region ?_
            refine ov (xassign rfl) rfl rfl rfl ?_
            refine ops_nil ?_
            refine run_ret Try.func7 (res1 rfl rfl) ?_
            exact ⟨_, rfl, pv E⟩
end Go.Proofs.Ytnjohcbamblilaa
