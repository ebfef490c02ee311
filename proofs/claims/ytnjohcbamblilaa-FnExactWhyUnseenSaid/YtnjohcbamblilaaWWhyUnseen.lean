/-
  The walk of the law FnExactWhyUnseen. No condition beyond those written in the theorem.
-/
import Derived.Test.YtnjohcbamblilaaXhRead
import Derived.Test.YtnjohcbamblilaaSeen2
import Derived.Test.YtnjohcbamblilaaMarkR
namespace Go.Proofs.Ytnjohcbamblilaa
open Go.RowKit
set_option linter.unusedVariables false
set_option linter.unusedSimpArgs false
set_option linter.unusedSectionVars false
set_option maxRecDepth 4000

set_option maxHeartbeats 400000 in
theorem FnExactWhyUnseen_ok (w : World) (p0 : Option Addr) (n0 c0 : Nat) (xs0 : List Ruling) (H0 : Sl Ruling.cells 3 w p0 n0 c0 xs0) (hx0 : ∀ x ∈ xs0, x.ok) (p1 : Option Addr) (n1 c1 : Nat) (xs1 : List (Exhibit)) (H1 : SnExhibitS w p1 n1 c1 xs1) (hx1 : ∀ x ∈ xs1, x.ok) (s2 : ByteArray) (hs2 : s2.size ≤ 9223372036854775807) (k3 : Int) (hk3 : I64 k3) : Ret Try.prog 14 [.slice p0 n0 c0, .slice p1 n1 c1, .string s2, .int .i64 k3] w (Pv w (.bool true)) := by
  refine ret_of_run (N := 69) Try.func14 rfl rfl rfl ?_
  have hn0 := H0.len
  have hn1 := H1.len
  have hr0 := fun x (h : x ∈ xs0) => (hx0 x h).2.1
  have he1 : ∀ x ∈ xs1, exSmall x := fun x h => ⟨(hx1 x h).1, (hx1 x h).2.1, fun y hy => ⟨((hx1 x h).2.2.2.2 y hy).2.1, ((hx1 x h).2.2.2.2 y hy).2.2.1⟩⟩
  have E : Ext w w := Ext.refl w
  refine run_seq ?_
  refine run_region ?_
  refine ov (xassign rfl) rfl rfl rfl ?_
  refine ops_nil ?_
  refine run_seq ?_
  refine run_seq ?_
  refine run_region ?_
  refine ov (xmove rfl) rfl rfl rfl ?_
  refine ov (xlens Try.underlying9 rfl) rfl rfl rfl ?_
  refine ov (xgtr rfl rfl _ rfl) rfl rfl rfl ?_
  refine ods (fun c18 => ?_) (fun c18 => ?_)
  ·
    refine ops_nil ?_
    refine run_cond_t rfl ?_
    refine run_seq ?_
    refine run_region ?_
    refine ov (xassign rfl) rfl rfl rfl ?_
    refine ops_nil ?_
    refine run_ret Try.func14 (res1 rfl rfl) ?_
    exact ⟨_, rfl, pv E⟩
  ·
    refine ops_nil ?_
    refine run_cond_f rfl ?_
    refine run_skip ?_
    refine run_seq ?_
    refine run_region ?_
    refine ov (xassign rfl) rfl rfl rfl ?_
    refine ops_nil ?_
    refine run_seq ?_
    refine run_region ?_
    refine ov (xmove rfl) rfl rfl rfl ?_
    refine ov (xmove rfl) rfl rfl rfl ?_
    refine oc (xcall Try.call18 rfl) rfl rfl rfl (szRulingS_ok _ _ _ xs0 1048576 _ (H0.ext E) hx0 (by omega) (by omega)) ?_
    rintro _ w1 ⟨rfl, e1⟩
    have z1 := e1.size
    have E := E.trans e1
    refine ov (xassign rfl) rfl rfl rfl ?_
    refine ops_nil ?_
    refine run_seq ?_
    refine run_seq ?_
    refine run_region ?_
    refine ov (xmove rfl) rfl rfl rfl ?_
    refine ov (xlss rfl rfl _ rfl) rfl rfl rfl ?_
    refine ods (fun c23 => ?_) (fun c23 => ?_)
    ·
      refine ops_nil ?_
      refine run_cond_t rfl ?_
      refine run_seq ?_
      refine run_region ?_
      refine ov (xassign rfl) rfl rfl rfl ?_
      refine ops_nil ?_
      refine run_ret Try.func14 (res1 rfl rfl) ?_
      exact ⟨_, rfl, pv E⟩
    ·
      have hz0_ := szS_len szRuling_le (by omega : 0 ≤ szS szRuling xs0 1048576)
      refine ops_nil ?_
      refine run_cond_f rfl ?_
      refine run_skip ?_
      refine run_seq ?_
      refine run_region ?_
      refine ov (xmove rfl) rfl rfl rfl ?_
      refine ov (xmove rfl) rfl rfl rfl ?_
      refine oc (xcall Try.call69 rfl) rfl rfl rfl (szExhibitS_ok _ _ _ xs1 (szS szRuling xs0 1048576) _ (H1.ext E) hx1 (by omega) (by omega)) ?_
      rintro _ w2 ⟨rfl, e2⟩
      have z2 := e2.size
      have E := E.trans e2
      refine ov (xassign rfl) rfl rfl rfl ?_
      refine ops_nil ?_
      refine run_seq ?_
      refine run_seq ?_
      refine run_region ?_
      refine ov (xmove rfl) rfl rfl rfl ?_
      refine ov (xlss rfl rfl _ rfl) rfl rfl rfl ?_
      refine ods (fun c28 => ?_) (fun c28 => ?_)
      ·
        refine ops_nil ?_
        refine run_cond_t rfl ?_
        refine run_seq ?_
        refine run_region ?_
        refine ov (xassign rfl) rfl rfl rfl ?_
        refine ops_nil ?_
        refine run_ret Try.func14 (res1 rfl rfl) ?_
        exact ⟨_, rfl, pv E⟩
      ·
        have hz1_ := szMemExhibitS (by omega : 0 ≤ szS szExhibit xs1 (szS szRuling xs0 1048576))
        have hm1_ : ∀ x ∈ xs1, ((innExhibitS x).length : Int) ≤ 1048576 := fun x m => by have := hz1_.2.2.1 x m; omega
        replace hz1_ : _ ∧ _ ∧ _ := ⟨hz1_.1, hz1_.2.1, hz1_.2.2.2⟩
        refine ops_nil ?_
        refine run_cond_f rfl ?_
        refine run_skip ?_
        refine run_seq ?_
        refine run_region ?_
        refine ov (xmove rfl) rfl rfl rfl ?_
        refine oc (xcall Try.call20 rfl) rfl rfl rfl (toRulingS_ok _ _ _ xs0 _ (H0.ext E) (by omega)) ?_
        rintro _ w3 ⟨e3, q31, rfl, G31⟩
        have z3 := e3.size
        have E := E.trans e3
        refine ov (xmove rfl) rfl rfl rfl ?_
        refine oc (xcall Try.call71 rfl) rfl rfl rfl (toExhibitS_ok _ _ _ xs1 _ (H1.ext E) hm1_ (by omega)) ?_
        rintro _ w4 ⟨e4, q33, rfl, G33⟩
        have z4 := e4.size
        have E := E.trans e4
        replace G31 := G31.ext e4
        refine ov (xmove rfl) rfl rfl rfl ?_
        refine ov (xmove rfl) rfl rfl rfl ?_
        refine oc (xcall Try.call75 rfl) rfl rfl rfl (sWhyUnseen_ok _ _ _ xs0 _ _ _ xs1 s2 k3 _ (G31.sl) (G33.sl) hr0 he1) ?_
        rintro _ w5 ⟨rfl, e5⟩
        have z5 := e5.size
        have E := E.trans e5
        replace G31 := G31.ext e5
        replace G33 := G33.ext e5
        refine ov (xmove rfl) rfl rfl rfl ?_
        refine ov (xextract rfl rfl) rfl rfl rfl ?_
        refine ov (xextract rfl rfl) rfl rfl rfl ?_
        refine ov (xassign rfl) rfl rfl rfl ?_
        refine ov (xassign rfl) rfl rfl rfl ?_
        refine ops_nil ?_
        refine run_seq ?_
        refine run_region ?_
        refine ov (xmove rfl) rfl rfl rfl ?_
        refine oc (xcall Try.call20 rfl) rfl rfl rfl (toRulingS_ok _ _ _ xs0 _ (H0.ext E) (by omega)) ?_
        rintro _ w6 ⟨e6, q40, rfl, G40⟩
        have z6 := e6.size
        have E := E.trans e6
        replace G31 := G31.ext e6
        replace G33 := G33.ext e6
        refine ov (xassign rfl) rfl rfl rfl ?_
        refine ops_nil ?_
        refine run_seq ?_
        refine run_region ?_
        refine ov (xmove rfl) rfl rfl rfl ?_
        refine oc (xcall Try.call71 rfl) rfl rfl rfl (toExhibitS_ok _ _ _ xs1 _ (H1.ext E) hm1_ (by omega)) ?_
        rintro _ w7 ⟨e7, q42, rfl, G42⟩
        have z7 := e7.size
        have E := E.trans e7
        replace G31 := G31.ext e7
        replace G33 := G33.ext e7
        replace G40 := G40.ext e7
        refine ov (xassign rfl) rfl rfl rfl ?_
        refine ops_nil ?_
        refine run_seq ?_
        refine run_region ?_
        refine ov (xmove rfl) rfl rfl rfl ?_
        refine ov (xmove rfl) rfl rfl rfl ?_
        refine ov (xmove rfl) rfl rfl rfl ?_
        refine ov (xmove rfl) rfl rfl rfl ?_
        refine oc (xcall Try.call76 rfl) rfl rfl rfl (WhyUnseen_ok _ _ _ xs0 _ _ _ xs1 s2 k3 _ (G40.sl) (G42.sl) hr0 he1) ?_
        rintro _ w8 ⟨rfl, e8⟩
        have z8 := e8.size
        have E := E.trans e8
        replace G31 := G31.ext e8
        replace G33 := G33.ext e8
        replace G40 := G40.ext e8
        replace G42 := G42.ext e8
        refine ov (xmove rfl) rfl rfl rfl ?_
        refine ov (xextract rfl rfl) rfl rfl rfl ?_
        refine ov (xextract rfl rfl) rfl rfl rfl ?_
        refine ov (xassign rfl) rfl rfl rfl ?_
        refine ov (xassign rfl) rfl rfl rfl ?_
        refine ops_nil ?_
        refine run_seq ?_
        refine run_seq ?_
        refine run_region ?_
        refine ov (xmove rfl) rfl rfl rfl ?_
        refine ov (xmove rfl) rfl rfl rfl ?_
        refine ov (xneq rfl rfl _ rfl) rfl rfl rfl ?_
        refine ods (fun c53 => ?_) (fun c53 => ?_)
        · exfalso; first | exact absurd rfl c53 | omega
        ·
          refine ov (xmove rfl) rfl rfl rfl ?_
          refine ov (xmove rfl) rfl rfl rfl ?_
          refine ov (xmove rfl) rfl rfl rfl ?_
          refine ov (xneq rfl rfl _ rfl) rfl rfl rfl ?_
          refine ods (fun c57 => ?_) (fun c57 => ?_)
          · exfalso; first | exact absurd rfl c57 | omega
          ·
            refine ov (xpick_f rfl rfl) rfl rfl rfl ?_
            refine ops_nil ?_
            refine run_cond_f rfl ?_
            refine run_skip ?_
            refine run_seq ?_
            refine run_seq ?_
            refine run_region ?_
            refine ov (xmove rfl) rfl rfl rfl ?_
            refine ov (xmove rfl) rfl rfl rfl ?_
            refine oc (xcall Try.call20 rfl) rfl rfl rfl (toRulingS_ok _ _ _ xs0 _ (H0.ext E) (by omega)) ?_
            rintro _ w9 ⟨e9, q61, rfl, G61⟩
            have z9 := e9.size
            have E := E.trans e9
            replace G31 := G31.ext e9
            replace G33 := G33.ext e9
            replace G40 := G40.ext e9
            replace G42 := G42.ext e9
            refine oc (xcall Try.call22 rfl) rfl rfl rfl (eqRulingS_ok _ _ _ _ _ _ _ _ _ (G40.sl) (G61.sl)) ?_
            rintro _ w10 ⟨rfl, e10⟩
            have z10 := e10.size
            have E := E.trans e10
            replace G31 := G31.ext e10
            replace G33 := G33.ext e10
            replace G40 := G40.ext e10
            replace G42 := G42.ext e10
            replace G61 := G61.ext e10
            refine obs (fun c62 => ?_) (fun c62 => ?_)
            ·
              refine ov (xnot rfl) rfl rfl rfl ?_
              refine ops_nil ?_
              refine run_cond_f rfl ?_
              refine run_skip ?_
              refine run_seq ?_
              refine run_seq ?_
              refine run_region ?_
              refine ov (xmove rfl) rfl rfl rfl ?_
              refine ov (xmove rfl) rfl rfl rfl ?_
              refine oc (xcall Try.call71 rfl) rfl rfl rfl (toExhibitS_ok _ _ _ xs1 _ (H1.ext E) hm1_ (by omega)) ?_
              rintro _ w11 ⟨e11, q66, rfl, G66⟩
              have z11 := e11.size
              have E := E.trans e11
              replace G31 := G31.ext e11
              replace G33 := G33.ext e11
              replace G40 := G40.ext e11
              replace G42 := G42.ext e11
              replace G61 := G61.ext e11
              refine oc (xcall Try.call73 rfl) rfl rfl rfl (eqExhibitS_ok _ _ _ _ _ _ _ _ _ (G42.sl) (G66.sl)) ?_
              rintro _ w12 ⟨rfl, e12⟩
              have z12 := e12.size
              have E := E.trans e12
              replace G31 := G31.ext e12
              replace G33 := G33.ext e12
              replace G40 := G40.ext e12
              replace G42 := G42.ext e12
              replace G61 := G61.ext e12
              replace G66 := G66.ext e12
              refine obs (fun c67 => ?_) (fun c67 => ?_)
              ·
                refine ov (xnot rfl) rfl rfl rfl ?_
                refine ops_nil ?_
                refine run_cond_f rfl ?_
                refine run_skip ?_
                refine run_seq ?_
                refine run_region ?_
                refine ov (xassign rfl) rfl rfl rfl ?_
                refine ops_nil ?_
                refine run_ret Try.func14 (res1 rfl rfl) ?_
                exact ⟨_, rfl, pv E⟩
              · exfalso; rw [eqL_refl eqExhibit_refl] at c67; cases c67
            · exfalso; rw [eqL_refl eqRuling_refl] at c62; cases c62
end Go.Proofs.Ytnjohcbamblilaa
