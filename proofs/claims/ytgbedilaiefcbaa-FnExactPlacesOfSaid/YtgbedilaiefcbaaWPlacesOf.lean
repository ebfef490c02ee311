/-
  The walk of the law FnExactPlacesOf. No condition beyond those written in the theorem.
-/
import Derived.Test.YtgbedilaiefcbaaValRead
import Derived.Test.YtgbedilaiefcbaaPrimRead
import Derived.Test.YtgbedilaiefcbaaEqB
import Derived.Test.YtgbedilaiefcbaaMarkB
import Derived.Test.YtgbedilaiefcbaaHmOf
import Derived.Test.YtgbedilaiefcbaaNamesLen
namespace Go.Proofs.Ytgbedilaiefcbaa
open Go.RowKit
set_option linter.unusedVariables false
set_option linter.unusedSimpArgs false
set_option linter.unusedSectionVars false
set_option maxRecDepth 4000

set_option maxHeartbeats 400000 in
theorem FnExactPlacesOf_ok (w : World) (s0 : ByteArray) (hs0 : s0.size ≤ 9223372036854775807) (hm : Hm w) : Ret Try.prog 9 [.string s0] w (Pv w (.bool true)) := by
  refine ret_of_run (N := 66) Try.func9 rfl rfl rfl ?_
  have E : Ext w w := Ext.refl w
  refine run_seq ?_
  refine run_region ?_
  refine ov (xassign rfl) rfl rfl rfl ?_
  refine ops_nil ?_
  refine run_seq ?_
  refine run_seq ?_
  refine run_region ?_
  refine ov (xmove rfl) rfl rfl rfl ?_
  refine ov (xlens Try.underlying9 rfl) rfl rfl rfl ?_
  refine ov (xgtr rfl rfl _ rfl) rfl rfl rfl ?_
  refine ods (fun c13 => ?_) (fun c13 => ?_)
  ·
    refine ops_nil ?_
    refine run_cond_t rfl ?_
    refine run_seq ?_
    refine run_region ?_
    refine ov (xassign rfl) rfl rfl rfl ?_
    refine ops_nil ?_
    refine run_ret Try.func9 (res1 rfl rfl) ?_
    exact ⟨_, rfl, pv E⟩
  ·
    refine ops_nil ?_
    refine run_cond_f rfl ?_
    refine run_skip ?_
    refine run_seq ?_
    refine run_region ?_
    refine ov (xmove rfl) rfl rfl rfl ?_
    refine oc (xcall Try.call35 rfl) rfl rfl rfl (sPlacesOf_ok s0 _ (by omega)) ?_
    rintro _ w1 ⟨e1, q16_0, m16_0, d16_0, rfl, G16_0⟩
    have z1 := e1.size
    have E := E.trans e1
    have lG16_0 := G16_0.len
    have hl_ := names_len s0
    refine ov (xmove rfl) rfl rfl rfl ?_
    refine ov (xextract rfl rfl) rfl rfl rfl ?_
    refine ov (xextract rfl rfl) rfl rfl rfl ?_
    refine ov (xassign rfl) rfl rfl rfl ?_
    refine ov (xassign rfl) rfl rfl rfl ?_
    refine ops_nil ?_
    refine run_seq ?_
    refine run_region ?_
    refine ov (xmove rfl) rfl rfl rfl ?_
    refine oc (xcall Try.call36 rfl) rfl rfl rfl (PlacesOf_ok s0 _ (by omega) (hm.ext E)) ?_
    rintro _ w2 ⟨e2, q21_0, m21_0, d21_0, rfl, G21_0⟩
    have z2 := e2.size
    have E := E.trans e2
    replace G16_0 := G16_0.ext e2
    have lG21_0 := G21_0.len
    have hl_ := names_len s0
    refine ov (xmove rfl) rfl rfl rfl ?_
    refine ov (xextract rfl rfl) rfl rfl rfl ?_
    refine ov (xextract rfl rfl) rfl rfl rfl ?_
    refine ov (xassign rfl) rfl rfl rfl ?_
    refine ov (xassign rfl) rfl rfl rfl ?_
    refine ops_nil ?_
    refine run_seq ?_
    refine run_seq ?_
    refine run_region ?_
    refine ov (xmove rfl) rfl rfl rfl ?_
    refine ov (xmove rfl) rfl rfl rfl ?_
    refine oc (xcall Try.call32 rfl) rfl rfl rfl (eqStringS_ok _ _ _ _ _ _ _ _ _ (G21_0.sl) (G16_0.sl)) ?_
    rintro _ w3 ⟨rfl, e3⟩
    have z3 := e3.size
    have E := E.trans e3
    replace G16_0 := G16_0.ext e3
    replace G21_0 := G21_0.ext e3
    refine obs (fun c26 => ?_) (fun c26 => ?_)
    ·
      refine ov (xnot rfl) rfl rfl rfl ?_
      refine ov (xmove rfl) rfl rfl rfl ?_
      refine ov (xmove rfl) rfl rfl rfl ?_
      refine ov (xmove rfl) rfl rfl rfl ?_
      refine ov (xneq rfl rfl _ rfl) rfl rfl rfl ?_
      refine ods (fun c31 => ?_) (fun c31 => ?_)
      · exfalso; first | exact absurd rfl c31 | omega
      ·
        refine ov (xpick_f rfl rfl) rfl rfl rfl ?_
        refine ops_nil ?_
        refine run_cond_f rfl ?_
        refine run_skip ?_
        refine run_seq ?_
        refine run_region ?_
        refine ov (xassign rfl) rfl rfl rfl ?_
        refine ops_nil ?_
        refine run_seq ?_
        refine run_region ?_
        refine ov (xmove rfl) rfl rfl rfl ?_
        refine ov (xmove rfl) rfl rfl rfl ?_
        refine oc (xcall Try.call33 rfl) rfl rfl rfl (markStringS_ok _ _ _ _ _ _ _ _ G21_0 (by omega) (by omega) (by omega)) ?_
        rintro _ w4 ⟨rfl, m4, g4⟩
        have z4 := m4.size
        have E := m4.toExt E (by omega)
        replace G16_0 := G16_0.off m4 (by omega)
        replace G21_0 := g4
        refine ov (xassign rfl) rfl rfl rfl ?_
        refine ops_nil ?_
        refine run_seq ?_
        refine run_region ?_
        refine ov (xassign rfl) rfl rfl rfl ?_
        refine ops_nil ?_
        refine run_seq ?_
        refine run_region ?_
        refine ov (xmove rfl) rfl rfl rfl ?_
        refine ov (xmove rfl) rfl rfl rfl ?_
        refine oc (xcall Try.call34 rfl) rfl rfl rfl (heldStringS_ok _ _ _ _ _ _ (G21_0.sl) (by omega) (by omega) (by omega)) ?_
        rintro _ w5 ⟨rfl, e5⟩
        have z5 := e5.size
        have E := E.trans e5
        replace G16_0 := G16_0.ext e5
        replace G21_0 := G21_0.ext e5
        refine ov (xassign rfl) rfl rfl rfl ?_
        refine ops_nil ?_
        refine run_seq ?_
        refine run_seq ?_
        refine run_region ?_
        refine ov (xmove rfl) rfl rfl rfl ?_
        refine ov (xlss rfl rfl _ rfl) rfl rfl rfl ?_
        refine ods (fun c40 => ?_) (fun c40 => ?_)
        · exfalso; omega
        ·
          refine ops_nil ?_
          refine run_cond_f rfl ?_
          refine run_skip ?_
          refine run_seq ?_
          refine run_seq ?_
          refine run_region ?_
          refine ov (xmove rfl) rfl rfl rfl ?_
          refine ov (xmove rfl) rfl rfl rfl ?_
          refine ov (xneq rfl rfl _ rfl) rfl rfl rfl ?_
          refine ods (fun c43 => ?_) (fun c43 => ?_)
          · exfalso; first | exact absurd rfl c43 | omega
          ·
            refine ops_nil ?_
            refine run_cond_f rfl ?_
            refine run_skip ?_
            refine run_seq ?_
            refine run_region ?_
            refine ov (xmove rfl) rfl rfl rfl ?_
            refine oc (xcall Try.call36 rfl) rfl rfl rfl (PlacesOf_ok s0 _ (by omega) (hm.ext E)) ?_
            rintro _ w6 ⟨e6, q46_0, m46_0, d46_0, rfl, G46_0⟩
            have z6 := e6.size
            have E := E.trans e6
            replace G16_0 := G16_0.ext e6
            replace G21_0 := G21_0.ext e6
            have lG46_0 := G46_0.len
            have hl_ := names_len s0
            refine ov (xmove rfl) rfl rfl rfl ?_
            refine ov (xextract rfl rfl) rfl rfl rfl ?_
            refine ov (xextract rfl rfl) rfl rfl rfl ?_
            refine ov (xassign rfl) rfl rfl rfl ?_
            refine ov (xassign rfl) rfl rfl rfl ?_
            refine ops_nil ?_
            refine run_seq ?_
            refine run_seq ?_
            refine run_region ?_
            refine ov (xmove rfl) rfl rfl rfl ?_
            refine ov (xmove rfl) rfl rfl rfl ?_
            refine oc (xcall Try.call32 rfl) rfl rfl rfl (eqStringS_ok _ _ _ _ _ _ _ _ _ (G46_0.sl) (G16_0.sl)) ?_
            rintro _ w7 ⟨rfl, e7⟩
            have z7 := e7.size
            have E := E.trans e7
            replace G16_0 := G16_0.ext e7
            replace G21_0 := G21_0.ext e7
            replace G46_0 := G46_0.ext e7
            refine obs (fun c51 => ?_) (fun c51 => ?_)
            ·
              refine ov (xnot rfl) rfl rfl rfl ?_
              refine ov (xmove rfl) rfl rfl rfl ?_
              refine ov (xmove rfl) rfl rfl rfl ?_
              refine ov (xmove rfl) rfl rfl rfl ?_
              refine ov (xneq rfl rfl _ rfl) rfl rfl rfl ?_
              refine ods (fun c56 => ?_) (fun c56 => ?_)
              · exfalso; first | exact absurd rfl c56 | omega
              ·
                refine ov (xpick_f rfl rfl) rfl rfl rfl ?_
                refine ops_nil ?_
                refine run_cond_f rfl ?_
                refine run_skip ?_
                refine run_seq ?_
                refine run_region ?_
                refine ov (xassign rfl) rfl rfl rfl ?_
                refine ops_nil ?_
                refine run_seq ?_
                refine run_region ?_
                refine ov (xmove rfl) rfl rfl rfl ?_
                refine ov (xmove rfl) rfl rfl rfl ?_
                refine oc (xcall Try.call34 rfl) rfl rfl rfl (heldStringS_ok _ _ _ _ _ _ (G21_0.sl) (by omega) (by omega) (by omega)) ?_
                rintro _ w8 ⟨rfl, e8⟩
                have z8 := e8.size
                have E := E.trans e8
                replace G16_0 := G16_0.ext e8
                replace G21_0 := G21_0.ext e8
                replace G46_0 := G46_0.ext e8
                refine ov (xassign rfl) rfl rfl rfl ?_
                refine ops_nil ?_
                refine run_seq ?_
                refine run_seq ?_
                refine run_region ?_
                refine ov (xmove rfl) rfl rfl rfl ?_
                refine ov (xlss rfl rfl _ rfl) rfl rfl rfl ?_
                refine ods (fun c62 => ?_) (fun c62 => ?_)
                · exfalso; omega
                ·
                  refine ops_nil ?_
                  refine run_cond_f rfl ?_
                  refine run_skip ?_
                  refine run_seq ?_
                  refine run_seq ?_
                  refine run_region ?_
                  refine ov (xmove rfl) rfl rfl rfl ?_
                  refine ov (xmove rfl) rfl rfl rfl ?_
                  refine ov (xneq rfl rfl _ rfl) rfl rfl rfl ?_
                  refine ods (fun c65 => ?_) (fun c65 => ?_)
                  · exfalso; first | exact absurd rfl c65 | omega
                  ·
                    refine ops_nil ?_
                    refine run_cond_f rfl ?_
                    refine run_skip ?_
                    refine run_seq ?_
                    refine run_region ?_
                    refine ov (xassign rfl) rfl rfl rfl ?_
                    refine ops_nil ?_
                    refine run_ret Try.func9 (res1 rfl rfl) ?_
                    exact ⟨_, rfl, pv E⟩
            · exfalso; rw [eqL_refl eqT_refl] at c51; cases c51
    · exfalso; rw [eqL_refl eqT_refl] at c26; cases c26
end Go.Proofs.Ytgbedilaiefcbaa
