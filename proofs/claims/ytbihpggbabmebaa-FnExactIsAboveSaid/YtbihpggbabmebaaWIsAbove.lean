/-
  The walk of the law FnExactIsAbove. No condition beyond those written in the theorem.
-/
import Derived.Test.YtbihpggbabmebaaRolRead
import Derived.Test.YtbihpggbabmebaaSeal3
import Derived.Test.YtbihpggbabmebaaNestClose
namespace Go.Proofs.Ytbihpggbabmebaa
open Go.RowKit
set_option linter.unusedVariables false
set_option linter.unusedSimpArgs false
set_option linter.unusedSectionVars false
set_option maxRecDepth 4000

set_option maxHeartbeats 400000 in
theorem FnExactIsAbove_ok (w : World) (p0 : Option Addr) (n0 c0 : Nat) (xs0 : List (Role)) (H0 : SnRoleS w p0 n0 c0 xs0) (hx0 : ∀ x ∈ xs0, x.ok) (s1 : ByteArray) (hs1 : s1.size ≤ 9223372036854775807) (s2 : ByteArray) (hs2 : s2.size ≤ 9223372036854775807) : Ret Try.prog 5 [.slice p0 n0 c0, .string s1, .string s2] w (Pv w (.bool true)) := by
  refine ret_of_run (N := 54) Try.func5 rfl rfl rfl ?_
  have hn0 := H0.len
  have E : Ext w w := Ext.refl w
  refine run_seq ?_
  refine run_region ?_
  refine ov (xassign rfl) rfl rfl rfl ?_
  refine ops_nil ?_
  refine run_seq ?_
  refine run_seq ?_
  refine run_region ?_
  refine ov (xmove rfl) rfl rfl rfl ?_
  refine ov (xlens Try.underlying9 rfl) rfl rfl rfl ?_
  refine ov (xgtr rfl rfl _ rfl) rfl rfl rfl ?_
  refine ods (fun c15 => ?_) (fun c15 => ?_)
  ·
    refine ops_nil ?_
    refine run_cond_t rfl ?_
    refine run_seq ?_
    refine run_region ?_
    refine ov (xassign rfl) rfl rfl rfl ?_
    refine ops_nil ?_
    refine run_ret Try.func5 (res1 rfl rfl) ?_
    exact ⟨_, rfl, pv E⟩
  ·
    refine ops_nil ?_
    refine run_cond_f rfl ?_
    refine run_skip ?_
    refine run_seq ?_
    refine run_seq ?_
    refine run_region ?_
    refine ov (xmove rfl) rfl rfl rfl ?_
    refine ov (xlens Try.underlying9 rfl) rfl rfl rfl ?_
    refine ov (xgtr rfl rfl _ rfl) rfl rfl rfl ?_
    refine ods (fun c18 => ?_) (fun c18 => ?_)
    ·
      refine ops_nil ?_
      refine run_cond_t rfl ?_
      refine run_seq ?_
      refine run_region ?_
      refine ov (xassign rfl) rfl rfl rfl ?_
      refine ops_nil ?_
      refine run_ret Try.func5 (res1 rfl rfl) ?_
      exact ⟨_, rfl, pv E⟩
    ·
      refine ops_nil ?_
      refine run_cond_f rfl ?_
      refine run_skip ?_
      refine run_seq ?_
      refine run_region ?_
      refine ov (xassign rfl) rfl rfl rfl ?_
      refine ops_nil ?_
      refine run_seq ?_
      refine run_region ?_
      refine ov (xmove rfl) rfl rfl rfl ?_
      refine ov (xmove rfl) rfl rfl rfl ?_
      refine oc (xcall Try.call14 rfl) rfl rfl rfl (szRoleS_ok _ _ _ xs0 1048576 _ (H0.ext E) hx0 (by omega) (by omega)) ?_
      rintro _ w1 ⟨rfl, e1⟩
      have z1 := e1.size
      have E := E.trans e1
      refine ov (xassign rfl) rfl rfl rfl ?_
      refine ops_nil ?_
      refine run_seq ?_
      refine run_seq ?_
      refine run_region ?_
      refine ov (xmove rfl) rfl rfl rfl ?_
      refine ov (xlss rfl rfl _ rfl) rfl rfl rfl ?_
      refine ods (fun c23 => ?_) (fun c23 => ?_)
      ·
        refine ops_nil ?_
        refine run_cond_t rfl ?_
        refine run_seq ?_
        refine run_region ?_
        refine ov (xassign rfl) rfl rfl rfl ?_
        refine ops_nil ?_
        refine run_ret Try.func5 (res1 rfl rfl) ?_
        exact ⟨_, rfl, pv E⟩
      ·
        have hz0_ := szMemRoleS (by omega : 0 ≤ szS szRole xs0 1048576)
        have hm0_ : ∀ x ∈ xs0, ((innRoleS x).length : Int) ≤ 1048576 := fun x m => by have := hz0_.2.2.1 x m; omega
        replace hz0_ : _ ∧ _ ∧ _ := ⟨hz0_.1, hz0_.2.1, hz0_.2.2.2⟩
        refine ops_nil ?_
        refine run_cond_f rfl ?_
        refine run_skip ?_
        refine run_seq ?_
        refine run_region ?_
        refine ov (xmove rfl) rfl rfl rfl ?_
        refine oc (xcall Try.call16 rfl) rfl rfl rfl (toRoleS_ok _ _ _ xs0 _ (H0.ext E) hm0_ (by omega)) ?_
        rintro _ w2 ⟨e2, q26, rfl, G26⟩
        have z2 := e2.size
        have E := E.trans e2
        refine ov (xmove rfl) rfl rfl rfl ?_
        refine ov (xmove rfl) rfl rfl rfl ?_
        refine oc (xcall Try.call24 rfl) rfl rfl rfl (sIsAbove_ok _ _ _ xs0 s1 s2 _ (G26.sl) hx0) ?_
        rintro _ w3 ⟨rfl, e3⟩
        have z3 := e3.size
        have E := E.trans e3
        replace G26 := G26.ext e3
        refine ov (xmove rfl) rfl rfl rfl ?_
        refine ov (xextract rfl rfl) rfl rfl rfl ?_
        refine ov (xextract rfl rfl) rfl rfl rfl ?_
        refine ov (xassign rfl) rfl rfl rfl ?_
        refine ov (xassign rfl) rfl rfl rfl ?_
        refine ops_nil ?_
        refine run_seq ?_
        refine run_region ?_
        refine ov (xmove rfl) rfl rfl rfl ?_
        refine oc (xcall Try.call16 rfl) rfl rfl rfl (toRoleS_ok _ _ _ xs0 _ (H0.ext E) hm0_ (by omega)) ?_
        rintro _ w4 ⟨e4, q33, rfl, G33⟩
        have z4 := e4.size
        have E := E.trans e4
        replace G26 := G26.ext e4
        refine ov (xassign rfl) rfl rfl rfl ?_
        refine ops_nil ?_
        refine run_seq ?_
        refine run_region ?_
        refine ov (xmove rfl) rfl rfl rfl ?_
        refine ov (xmove rfl) rfl rfl rfl ?_
        refine ov (xmove rfl) rfl rfl rfl ?_
        refine oc (xcall Try.call25 rfl) rfl rfl rfl (IsAbove_ok _ _ _ xs0 s1 s2 _ (G33.sl) hx0) ?_
        rintro _ w5 ⟨rfl, e5⟩
        have z5 := e5.size
        have E := E.trans e5
        replace G26 := G26.ext e5
        replace G33 := G33.ext e5
        refine ov (xmove rfl) rfl rfl rfl ?_
        refine ov (xextract rfl rfl) rfl rfl rfl ?_
        refine ov (xextract rfl rfl) rfl rfl rfl ?_
        refine ov (xassign rfl) rfl rfl rfl ?_
        refine ov (xassign rfl) rfl rfl rfl ?_
        refine ops_nil ?_
        refine run_seq ?_
        refine run_seq ?_
        refine run_region ?_
        refine ov (xmove rfl) rfl rfl rfl ?_
        refine ov (xmove rfl) rfl rfl rfl ?_
        refine ov (xbneq Try.underlying4 rfl rfl) rfl rfl rfl ?_
        refine ods (fun c43 => ?_) (fun c43 => ?_)
        · exfalso; exact absurd rfl c43
        ·
          refine ov (xmove rfl) rfl rfl rfl ?_
          refine ov (xmove rfl) rfl rfl rfl ?_
          refine ov (xmove rfl) rfl rfl rfl ?_
          refine ov (xneq rfl rfl _ rfl) rfl rfl rfl ?_
          refine ods (fun c47 => ?_) (fun c47 => ?_)
          · exfalso; first | exact absurd rfl c47 | omega
          ·
            refine ov (xpick_f rfl rfl) rfl rfl rfl ?_
            refine ops_nil ?_
            refine run_cond_f rfl ?_
            refine run_skip ?_
            refine run_seq ?_
            refine run_seq ?_
            refine run_region ?_
            refine ov (xmove rfl) rfl rfl rfl ?_
            refine ov (xmove rfl) rfl rfl rfl ?_
            refine oc (xcall Try.call16 rfl) rfl rfl rfl (toRoleS_ok _ _ _ xs0 _ (H0.ext E) hm0_ (by omega)) ?_
            rintro _ w6 ⟨e6, q51, rfl, G51⟩
            have z6 := e6.size
            have E := E.trans e6
            replace G26 := G26.ext e6
            replace G33 := G33.ext e6
            refine oc (xcall Try.call18 rfl) rfl rfl rfl (eqRoleS_ok _ _ _ _ _ _ _ _ _ (G33.sl) (G51.sl)) ?_
            rintro _ w7 ⟨rfl, e7⟩
            have z7 := e7.size
            have E := E.trans e7
            replace G26 := G26.ext e7
            replace G33 := G33.ext e7
            replace G51 := G51.ext e7
            refine obs (fun c52 => ?_) (fun c52 => ?_)
            ·
              refine ov (xnot rfl) rfl rfl rfl ?_
              refine ops_nil ?_
              refine run_cond_f rfl ?_
              refine run_skip ?_
              refine run_seq ?_
              refine run_region ?_
              refine ov (xassign rfl) rfl rfl rfl ?_
              refine ops_nil ?_
              refine run_ret Try.func5 (res1 rfl rfl) ?_
              exact ⟨_, rfl, pv E⟩
            · exfalso; rw [eqL_refl eqRole_refl] at c52; cases c52
end Go.Proofs.Ytbihpggbabmebaa
