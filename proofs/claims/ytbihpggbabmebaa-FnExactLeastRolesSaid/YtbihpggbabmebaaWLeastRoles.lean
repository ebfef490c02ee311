/-
  The walk of the law FnExactLeastRoles. No condition beyond those written in the theorem.
-/
import Derived.Test.YtbihpggbabmebaaRolRead
import Derived.Test.YtbihpggbabmebaaLeastS
import Derived.Test.YtbihpggbabmebaaNestClose
namespace Go.Proofs.Ytbihpggbabmebaa
open Go.RowKit
set_option linter.unusedVariables false
set_option linter.unusedSimpArgs false
set_option linter.unusedSectionVars false
set_option maxRecDepth 4000

set_option maxHeartbeats 400000 in
theorem FnExactLeastRoles_ok (w : World) (p0 : Option Addr) (n0 c0 : Nat) (xs0 : List (Role)) (H0 : SnRoleS w p0 n0 c0 xs0) (hx0 : ∀ x ∈ xs0, x.ok) (p1 : Option Addr) (n1 c1 : Nat) (xs1 : List (File)) (H1 : SnFileS w p1 n1 c1 xs1) (hx1 : ∀ x ∈ xs1, x.ok) (k2 : Int) (hk2 : I64 k2) : Ret Try.prog 12 [.slice p0 n0 c0, .slice p1 n1 c1, .int .i64 k2] w (Pv w (.bool true)) := by
  refine ret_of_run (N := 124) Try.func12 rfl rfl rfl ?_
  have hn0 := H0.len
  have hn1 := H1.len
  have E : Ext w w := Ext.refl w
  refine run_seq ?_
  refine run_region ?_
  refine ov (xassign rfl) rfl rfl rfl ?_
  refine ops_nil ?_
  refine run_seq ?_
  refine run_region ?_
  refine ov (xassign rfl) rfl rfl rfl ?_
  refine ops_nil ?_
  refine run_seq ?_
  refine run_region ?_
  refine ov (xmove rfl) rfl rfl rfl ?_
  refine ov (xmove rfl) rfl rfl rfl ?_
  refine oc (xcall Try.call14 rfl) rfl rfl rfl (szRoleS_ok _ _ _ xs0 1048576 _ (H0.ext E) hx0 (by omega) (by omega)) ?_
  rintro _ w1 ⟨rfl, e1⟩
  have z1 := e1.size
  have E := E.trans e1
  refine ov (xassign rfl) rfl rfl rfl ?_
  refine ops_nil ?_
  refine run_seq ?_
  refine run_seq ?_
  refine run_region ?_
  refine ov (xmove rfl) rfl rfl rfl ?_
  refine ov (xlss rfl rfl _ rfl) rfl rfl rfl ?_
  refine ods (fun c23 => ?_) (fun c23 => ?_)
  ·
    refine ops_nil ?_
    refine run_cond_t rfl ?_
    refine run_seq ?_
    refine run_region ?_
    refine ov (xassign rfl) rfl rfl rfl ?_
    refine ops_nil ?_
    refine run_ret Try.func12 (res1 rfl rfl) ?_
    exact ⟨_, rfl, pv E⟩
  ·
    have hz0_ := szMemRoleS (by omega : 0 ≤ szS szRole xs0 1048576)
    have hm0_ : ∀ x ∈ xs0, ((innRoleS x).length : Int) ≤ 1048576 := fun x m => by have := hz0_.2.2.1 x m; omega
    replace hz0_ : _ ∧ _ ∧ _ := ⟨hz0_.1, hz0_.2.1, hz0_.2.2.2⟩
    refine ops_nil ?_
    refine run_cond_f rfl ?_
    refine run_skip ?_
    refine run_seq ?_
    refine run_region ?_
    refine ov (xmove rfl) rfl rfl rfl ?_
    refine ov (xmove rfl) rfl rfl rfl ?_
    refine oc (xcall Try.call19 rfl) rfl rfl rfl (szFileS_ok _ _ _ xs1 (szS szRole xs0 1048576) _ (H1.ext E) hx1 (by omega) (by omega)) ?_
    rintro _ w2 ⟨rfl, e2⟩
    have z2 := e2.size
    have E := E.trans e2
    refine ov (xassign rfl) rfl rfl rfl ?_
    refine ops_nil ?_
    refine run_seq ?_
    refine run_seq ?_
    refine run_region ?_
    refine ov (xmove rfl) rfl rfl rfl ?_
    refine ov (xlss rfl rfl _ rfl) rfl rfl rfl ?_
    refine ods (fun c28 => ?_) (fun c28 => ?_)
    ·
      refine ops_nil ?_
      refine run_cond_t rfl ?_
      refine run_seq ?_
      refine run_region ?_
      refine ov (xassign rfl) rfl rfl rfl ?_
      refine ops_nil ?_
      refine run_ret Try.func12 (res1 rfl rfl) ?_
      exact ⟨_, rfl, pv E⟩
    ·
      have hz1_ := szMemFileS (by omega : 0 ≤ szS szFile xs1 (szS szRole xs0 1048576))
      have hm1_ : ∀ x ∈ xs1, ((innFileS x).length : Int) ≤ 1048576 := fun x m => by have := hz1_.2.2.1 x m; omega
      replace hz1_ : _ ∧ _ ∧ _ := ⟨hz1_.1, hz1_.2.1, hz1_.2.2.2⟩
      refine ops_nil ?_
      refine run_cond_f rfl ?_
      refine run_skip ?_
      refine run_seq ?_
      refine run_region ?_
      refine ov (xmove rfl) rfl rfl rfl ?_
      refine oc (xcall Try.call16 rfl) rfl rfl rfl (toRoleS_ok _ _ _ xs0 _ (H0.ext E) hm0_ (by omega)) ?_
      rintro _ w3 ⟨e3, q31, rfl, G31⟩
      have z3 := e3.size
      have E := E.trans e3
      refine ov (xmove rfl) rfl rfl rfl ?_
      refine oc (xcall Try.call21 rfl) rfl rfl rfl (toFileS_ok _ _ _ xs1 _ (H1.ext E) hm1_ (by omega)) ?_
      rintro _ w4 ⟨e4, q33, rfl, G33⟩
      have z4 := e4.size
      have E := E.trans e4
      replace G31 := G31.ext e4
      refine ov (xmove rfl) rfl rfl rfl ?_
      refine oc (xcall Try.call47 rfl) rfl rfl rfl (sLeastRoles_ok _ _ _ xs0 _ _ _ xs1 k2 _ (G31.sl) (G33.sl) hx0 hx1) ?_
      rintro _ w5 ⟨e5, q35_0, m35_0, d35_0, rfl, G35_0⟩
      have z5 := e5.size
      have E := E.trans e5
      replace G31 := G31.ext e5
      replace G33 := G33.ext e5
      have lG35_0 := G35_0.len
      have hl_ := leastR_len xs0 xs1 k2
      refine ov (xmove rfl) rfl rfl rfl ?_
      refine ov (xextract rfl rfl) rfl rfl rfl ?_
      refine ov (xextract rfl rfl) rfl rfl rfl ?_
      refine ov (xassign rfl) rfl rfl rfl ?_
      refine ov (xassign rfl) rfl rfl rfl ?_
      refine ops_nil ?_
      refine run_seq ?_
      refine run_region ?_
      refine ov (xmove rfl) rfl rfl rfl ?_
      refine oc (xcall Try.call16 rfl) rfl rfl rfl (toRoleS_ok _ _ _ xs0 _ (H0.ext E) hm0_ (by omega)) ?_
      rintro _ w6 ⟨e6, q39, rfl, G39⟩
      have z6 := e6.size
      have E := E.trans e6
      replace G31 := G31.ext e6
      replace G33 := G33.ext e6
      replace G35_0 := G35_0.ext e6
      refine ov (xassign rfl) rfl rfl rfl ?_
      refine ops_nil ?_
      refine run_seq ?_
      refine run_region ?_
      refine ov (xmove rfl) rfl rfl rfl ?_
      refine oc (xcall Try.call21 rfl) rfl rfl rfl (toFileS_ok _ _ _ xs1 _ (H1.ext E) hm1_ (by omega)) ?_
      rintro _ w7 ⟨e7, q41, rfl, G41⟩
      have z7 := e7.size
      have E := E.trans e7
      replace G31 := G31.ext e7
      replace G33 := G33.ext e7
      replace G35_0 := G35_0.ext e7
      replace G39 := G39.ext e7
      refine ov (xassign rfl) rfl rfl rfl ?_
      refine ops_nil ?_
      refine run_seq ?_
      refine run_region ?_
      refine ov (xmove rfl) rfl rfl rfl ?_
      refine ov (xmove rfl) rfl rfl rfl ?_
      refine ov (xmove rfl) rfl rfl rfl ?_
      refine oc (xcall Try.call48 rfl) rfl rfl rfl (LeastRoles_ok _ _ _ xs0 _ _ _ xs1 k2 _ (G39.sl) (G41.sl) hx0 hx1) ?_
      rintro _ w8 ⟨e8, q46_0, m46_0, d46_0, rfl, G46_0⟩
      have z8 := e8.size
      have E := E.trans e8
      replace G31 := G31.ext e8
      replace G33 := G33.ext e8
      replace G35_0 := G35_0.ext e8
      replace G39 := G39.ext e8
      replace G41 := G41.ext e8
      have lG46_0 := G46_0.len
      have hl_ := leastR_len xs0 xs1 k2
      refine ov (xmove rfl) rfl rfl rfl ?_
      refine ov (xextract rfl rfl) rfl rfl rfl ?_
      refine ov (xextract rfl rfl) rfl rfl rfl ?_
      refine ov (xassign rfl) rfl rfl rfl ?_
      refine ov (xassign rfl) rfl rfl rfl ?_
      refine ops_nil ?_
      refine run_seq ?_
      refine run_seq ?_
      refine run_region ?_
      refine ov (xmove rfl) rfl rfl rfl ?_
      refine ov (xmove rfl) rfl rfl rfl ?_
      refine oc (xcall Try.call43 rfl) rfl rfl rfl (eqStringS_ok _ _ _ _ _ _ _ _ _ (G46_0.sl) (G35_0.sl)) ?_
      rintro _ w9 ⟨rfl, e9⟩
      have z9 := e9.size
      have E := E.trans e9
      replace G31 := G31.ext e9
      replace G33 := G33.ext e9
      replace G35_0 := G35_0.ext e9
      replace G39 := G39.ext e9
      replace G41 := G41.ext e9
      replace G46_0 := G46_0.ext e9
      refine obs (fun c51 => ?_) (fun c51 => ?_)
      ·
        refine ov (xnot rfl) rfl rfl rfl ?_
        refine ov (xmove rfl) rfl rfl rfl ?_
        refine ov (xmove rfl) rfl rfl rfl ?_
        refine ov (xmove rfl) rfl rfl rfl ?_
        refine ov (xneq rfl rfl _ rfl) rfl rfl rfl ?_
        refine ods (fun c56 => ?_) (fun c56 => ?_)
        · exfalso; first | exact absurd rfl c56 | omega
        ·
          refine ov (xpick_f rfl rfl) rfl rfl rfl ?_
          refine ops_nil ?_
          refine run_cond_f rfl ?_
          refine run_skip ?_
          refine run_seq ?_
          refine run_seq ?_
          refine run_region ?_
          refine ov (xmove rfl) rfl rfl rfl ?_
          refine ov (xmove rfl) rfl rfl rfl ?_
          refine oc (xcall Try.call16 rfl) rfl rfl rfl (toRoleS_ok _ _ _ xs0 _ (H0.ext E) hm0_ (by omega)) ?_
          rintro _ w10 ⟨e10, q60, rfl, G60⟩
          have z10 := e10.size
          have E := E.trans e10
          replace G31 := G31.ext e10
          replace G33 := G33.ext e10
          replace G35_0 := G35_0.ext e10
          replace G39 := G39.ext e10
          replace G41 := G41.ext e10
          replace G46_0 := G46_0.ext e10
          refine oc (xcall Try.call18 rfl) rfl rfl rfl (eqRoleS_ok _ _ _ _ _ _ _ _ _ (G39.sl) (G60.sl)) ?_
          rintro _ w11 ⟨rfl, e11⟩
          have z11 := e11.size
          have E := E.trans e11
          replace G31 := G31.ext e11
          replace G33 := G33.ext e11
          replace G35_0 := G35_0.ext e11
          replace G39 := G39.ext e11
          replace G41 := G41.ext e11
          replace G46_0 := G46_0.ext e11
          replace G60 := G60.ext e11
          refine obs (fun c61 => ?_) (fun c61 => ?_)
          ·
            refine ov (xnot rfl) rfl rfl rfl ?_
            refine ops_nil ?_
            refine run_cond_f rfl ?_
            refine run_skip ?_
            refine run_seq ?_
            refine run_seq ?_
            refine run_region ?_
            refine ov (xmove rfl) rfl rfl rfl ?_
            refine ov (xmove rfl) rfl rfl rfl ?_
            refine oc (xcall Try.call21 rfl) rfl rfl rfl (toFileS_ok _ _ _ xs1 _ (H1.ext E) hm1_ (by omega)) ?_
            rintro _ w12 ⟨e12, q65, rfl, G65⟩
            have z12 := e12.size
            have E := E.trans e12
            replace G31 := G31.ext e12
            replace G33 := G33.ext e12
            replace G35_0 := G35_0.ext e12
            replace G39 := G39.ext e12
            replace G41 := G41.ext e12
            replace G46_0 := G46_0.ext e12
            replace G60 := G60.ext e12
            refine oc (xcall Try.call23 rfl) rfl rfl rfl (eqFileS_ok _ _ _ _ _ _ _ _ _ (G41.sl) (G65.sl)) ?_
            rintro _ w13 ⟨rfl, e13⟩
            have z13 := e13.size
            have E := E.trans e13
            replace G31 := G31.ext e13
            replace G33 := G33.ext e13
            replace G35_0 := G35_0.ext e13
            replace G39 := G39.ext e13
            replace G41 := G41.ext e13
            replace G46_0 := G46_0.ext e13
            replace G60 := G60.ext e13
            replace G65 := G65.ext e13
            refine obs (fun c66 => ?_) (fun c66 => ?_)
            ·
              refine ov (xnot rfl) rfl rfl rfl ?_
              refine ops_nil ?_
              refine run_cond_f rfl ?_
              refine run_skip ?_
              refine run_seq ?_
              refine run_region ?_
              refine ov (xassign rfl) rfl rfl rfl ?_
              refine ops_nil ?_
              refine run_seq ?_
              refine run_region ?_
              refine ov (xmove rfl) rfl rfl rfl ?_
              refine ov (xmove rfl) rfl rfl rfl ?_
              refine oc (xcall Try.call44 rfl) rfl rfl rfl (markRoleS_ok _ _ _ _ _ _ _ _ G39 (by omega) (by omega) (by omega) (by omega) (by omega)) ?_
              rintro _ w14 ⟨k70_, rfl, hk70_, m14, g14⟩
              have z14 := m14.size
              have E := m14.toExt E (by omega)
              replace G31 := G31.off m14 (by omega)
              replace G33 := G33.off m14 (by omega)
              replace G35_0 := G35_0.off m14 (by omega)
              replace G41 := G41.off m14 (by omega)
              replace G46_0 := G46_0.off m14 (by omega)
              replace G60 := G60.off m14 (by omega)
              replace G65 := G65.off m14 (by omega)
              replace G39 := g14
              refine ov (xassign rfl) rfl rfl rfl ?_
              refine ops_nil ?_
              refine run_seq ?_
              refine run_region ?_
              refine ov (xmove rfl) rfl rfl rfl ?_
              refine ov (xmove rfl) rfl rfl rfl ?_
              refine oc (xcall Try.call28 rfl) rfl rfl rfl (markFileS_ok _ _ _ _ _ _ _ _ G41 (by omega) (by omega) (by omega) (by omega) (by omega)) ?_
              rintro _ w15 ⟨k73_, rfl, hk73_, m15, g15⟩
              have z15 := m15.size
              have E := m15.toExt E (by omega)
              replace G31 := G31.off m15 (by omega)
              replace G33 := G33.off m15 (by omega)
              replace G35_0 := G35_0.off m15 (by omega)
              replace G39 := G39.off m15 (by omega)
              replace G46_0 := G46_0.off m15 (by omega)
              replace G60 := G60.off m15 (by omega)
              replace G65 := G65.off m15 (by omega)
              replace G41 := g15
              refine ov (xassign rfl) rfl rfl rfl ?_
              refine ops_nil ?_
              refine run_seq ?_
              refine run_seq ?_
              refine run_region ?_
              refine ov (xmove rfl) rfl rfl rfl ?_
              refine ov (xlss rfl rfl _ rfl) rfl rfl rfl ?_
              refine ods (fun c75 => ?_) (fun c75 => ?_)
              · exfalso; omega
              ·
                refine ov (xmove rfl) rfl rfl rfl ?_
                refine ov (xmove rfl) rfl rfl rfl ?_
                refine ov (xmove rfl) rfl rfl rfl ?_
                refine oc (xcall Try.call43 rfl) rfl rfl rfl (eqStringS_ok _ _ _ _ _ _ _ _ _ (G46_0.sl) (G35_0.sl)) ?_
                rintro _ w16 ⟨rfl, e16⟩
                have z16 := e16.size
                have E := E.trans e16
                replace G31 := G31.ext e16
                replace G33 := G33.ext e16
                replace G35_0 := G35_0.ext e16
                replace G39 := G39.ext e16
                replace G41 := G41.ext e16
                replace G46_0 := G46_0.ext e16
                replace G60 := G60.ext e16
                replace G65 := G65.ext e16
                refine obs (fun c79 => ?_) (fun c79 => ?_)
                ·
                  refine ov (xnot rfl) rfl rfl rfl ?_
                  refine ov (xpick_f rfl rfl) rfl rfl rfl ?_
                  refine ov (xmove rfl) rfl rfl rfl ?_
                  refine ov (xmove rfl) rfl rfl rfl ?_
                  refine ov (xmove rfl) rfl rfl rfl ?_
                  refine ov (xneq rfl rfl _ rfl) rfl rfl rfl ?_
                  refine ods (fun c85 => ?_) (fun c85 => ?_)
                  · exfalso; first | exact absurd rfl c85 | omega
                  ·
                    refine ov (xpick_f rfl rfl) rfl rfl rfl ?_
                    refine ops_nil ?_
                    refine run_cond_f rfl ?_
                    refine run_skip ?_
                    refine run_seq ?_
                    refine run_region ?_
                    refine ov (xassign rfl) rfl rfl rfl ?_
                    refine ops_nil ?_
                    refine run_seq ?_
                    refine run_region ?_
                    refine ov (xmove rfl) rfl rfl rfl ?_
                    refine ov (xmove rfl) rfl rfl rfl ?_
                    refine oc (xcall Try.call45 rfl) rfl rfl rfl (markStringS_ok _ _ _ _ _ _ _ _ G46_0 (by omega) (by omega) (by omega)) ?_
                    rintro _ w17 ⟨rfl, m17, g17⟩
                    have z17 := m17.size
                    have E := m17.toExt E (by omega)
                    replace G31 := G31.off m17 (by omega)
                    replace G33 := G33.off m17 (by omega)
                    replace G35_0 := G35_0.off m17 (by omega)
                    replace G39 := G39.off m17 (by omega)
                    replace G41 := G41.off m17 (by omega)
                    replace G60 := G60.off m17 (by omega)
                    replace G65 := G65.off m17 (by omega)
                    replace G46_0 := g17
                    refine ov (xassign rfl) rfl rfl rfl ?_
                    refine ops_nil ?_
                    refine run_seq ?_
                    refine run_region ?_
                    refine ov (xassign rfl) rfl rfl rfl ?_
                    refine ops_nil ?_
                    refine run_seq ?_
                    refine run_region ?_
                    refine ov (xmove rfl) rfl rfl rfl ?_
                    refine ov (xmove rfl) rfl rfl rfl ?_
                    refine oc (xcall Try.call46 rfl) rfl rfl rfl (heldStringS_ok _ _ _ _ _ _ (G46_0.sl) (by omega) (by omega) (by omega)) ?_
                    rintro _ w18 ⟨rfl, e18⟩
                    have z18 := e18.size
                    have E := E.trans e18
                    replace G31 := G31.ext e18
                    replace G33 := G33.ext e18
                    replace G35_0 := G35_0.ext e18
                    replace G39 := G39.ext e18
                    replace G41 := G41.ext e18
                    replace G46_0 := G46_0.ext e18
                    replace G60 := G60.ext e18
                    replace G65 := G65.ext e18
                    refine ov (xassign rfl) rfl rfl rfl ?_
                    refine ops_nil ?_
                    refine run_seq ?_
                    refine run_seq ?_
                    refine run_region ?_
                    refine ov (xmove rfl) rfl rfl rfl ?_
                    refine ov (xlss rfl rfl _ rfl) rfl rfl rfl ?_
                    refine ods (fun c94 => ?_) (fun c94 => ?_)
                    · exfalso; omega
                    ·
                      refine ops_nil ?_
                      refine run_cond_f rfl ?_
                      refine run_skip ?_
                      refine run_seq ?_
                      refine run_seq ?_
                      refine run_region ?_
                      refine ov (xmove rfl) rfl rfl rfl ?_
                      refine ov (xmove rfl) rfl rfl rfl ?_
                      refine ov (xneq rfl rfl _ rfl) rfl rfl rfl ?_
                      refine ods (fun c97 => ?_) (fun c97 => ?_)
                      · exfalso; first | exact absurd rfl c97 | omega
                      ·
                        refine ops_nil ?_
                        refine run_cond_f rfl ?_
                        refine run_skip ?_
                        refine run_seq ?_
                        refine run_region ?_
                        refine ov (xmove rfl) rfl rfl rfl ?_
                        refine oc (xcall Try.call16 rfl) rfl rfl rfl (toRoleS_ok _ _ _ xs0 _ (H0.ext E) hm0_ (by omega)) ?_
                        rintro _ w19 ⟨e19, q100, rfl, G100⟩
                        have z19 := e19.size
                        have E := E.trans e19
                        replace G31 := G31.ext e19
                        replace G33 := G33.ext e19
                        replace G35_0 := G35_0.ext e19
                        replace G39 := G39.ext e19
                        replace G41 := G41.ext e19
                        replace G46_0 := G46_0.ext e19
                        replace G60 := G60.ext e19
                        replace G65 := G65.ext e19
                        refine ov (xmove rfl) rfl rfl rfl ?_
                        refine oc (xcall Try.call21 rfl) rfl rfl rfl (toFileS_ok _ _ _ xs1 _ (H1.ext E) hm1_ (by omega)) ?_
                        rintro _ w20 ⟨e20, q102, rfl, G102⟩
                        have z20 := e20.size
                        have E := E.trans e20
                        replace G31 := G31.ext e20
                        replace G33 := G33.ext e20
                        replace G35_0 := G35_0.ext e20
                        replace G39 := G39.ext e20
                        replace G41 := G41.ext e20
                        replace G46_0 := G46_0.ext e20
                        replace G60 := G60.ext e20
                        replace G65 := G65.ext e20
                        replace G100 := G100.ext e20
                        refine ov (xmove rfl) rfl rfl rfl ?_
                        refine oc (xcall Try.call48 rfl) rfl rfl rfl (LeastRoles_ok _ _ _ xs0 _ _ _ xs1 k2 _ (G100.sl) (G102.sl) hx0 hx1) ?_
                        rintro _ w21 ⟨e21, q104_0, m104_0, d104_0, rfl, G104_0⟩
                        have z21 := e21.size
                        have E := E.trans e21
                        replace G31 := G31.ext e21
                        replace G33 := G33.ext e21
                        replace G35_0 := G35_0.ext e21
                        replace G39 := G39.ext e21
                        replace G41 := G41.ext e21
                        replace G46_0 := G46_0.ext e21
                        replace G60 := G60.ext e21
                        replace G65 := G65.ext e21
                        replace G100 := G100.ext e21
                        replace G102 := G102.ext e21
                        have lG104_0 := G104_0.len
                        have hl_ := leastR_len xs0 xs1 k2
                        refine ov (xmove rfl) rfl rfl rfl ?_
                        refine ov (xextract rfl rfl) rfl rfl rfl ?_
                        refine ov (xextract rfl rfl) rfl rfl rfl ?_
                        refine ov (xassign rfl) rfl rfl rfl ?_
                        refine ov (xassign rfl) rfl rfl rfl ?_
                        refine ops_nil ?_
                        refine run_seq ?_
                        refine run_seq ?_
                        refine run_region ?_
                        refine ov (xmove rfl) rfl rfl rfl ?_
                        refine ov (xmove rfl) rfl rfl rfl ?_
                        refine oc (xcall Try.call43 rfl) rfl rfl rfl (eqStringS_ok _ _ _ _ _ _ _ _ _ (G104_0.sl) (G35_0.sl)) ?_
                        rintro _ w22 ⟨rfl, e22⟩
                        have z22 := e22.size
                        have E := E.trans e22
                        replace G31 := G31.ext e22
                        replace G33 := G33.ext e22
                        replace G35_0 := G35_0.ext e22
                        replace G39 := G39.ext e22
                        replace G41 := G41.ext e22
                        replace G46_0 := G46_0.ext e22
                        replace G60 := G60.ext e22
                        replace G65 := G65.ext e22
                        replace G100 := G100.ext e22
                        replace G102 := G102.ext e22
                        replace G104_0 := G104_0.ext e22
                        refine obs (fun c109 => ?_) (fun c109 => ?_)
                        ·
                          refine ov (xnot rfl) rfl rfl rfl ?_
                          refine ov (xmove rfl) rfl rfl rfl ?_
                          refine ov (xmove rfl) rfl rfl rfl ?_
                          refine ov (xmove rfl) rfl rfl rfl ?_
                          refine ov (xneq rfl rfl _ rfl) rfl rfl rfl ?_
                          refine ods (fun c114 => ?_) (fun c114 => ?_)
                          · exfalso; first | exact absurd rfl c114 | omega
                          ·
                            refine ov (xpick_f rfl rfl) rfl rfl rfl ?_
                            refine ops_nil ?_
                            refine run_cond_f rfl ?_
                            refine run_skip ?_
                            refine run_seq ?_
                            refine run_region ?_
                            refine ov (xassign rfl) rfl rfl rfl ?_
                            refine ops_nil ?_
                            refine run_seq ?_
                            refine run_region ?_
                            refine ov (xmove rfl) rfl rfl rfl ?_
                            refine ov (xmove rfl) rfl rfl rfl ?_
                            refine oc (xcall Try.call46 rfl) rfl rfl rfl (heldStringS_ok _ _ _ _ _ _ (G46_0.sl) (by omega) (by omega) (by omega)) ?_
                            rintro _ w23 ⟨rfl, e23⟩
                            have z23 := e23.size
                            have E := E.trans e23
                            replace G31 := G31.ext e23
                            replace G33 := G33.ext e23
                            replace G35_0 := G35_0.ext e23
                            replace G39 := G39.ext e23
                            replace G41 := G41.ext e23
                            replace G46_0 := G46_0.ext e23
                            replace G60 := G60.ext e23
                            replace G65 := G65.ext e23
                            replace G100 := G100.ext e23
                            replace G102 := G102.ext e23
                            replace G104_0 := G104_0.ext e23
                            refine ov (xassign rfl) rfl rfl rfl ?_
                            refine ops_nil ?_
                            refine run_seq ?_
                            refine run_seq ?_
                            refine run_region ?_
                            refine ov (xmove rfl) rfl rfl rfl ?_
                            refine ov (xlss rfl rfl _ rfl) rfl rfl rfl ?_
                            refine ods (fun c120 => ?_) (fun c120 => ?_)
                            · exfalso; omega
                            ·
                              refine ops_nil ?_
                              refine run_cond_f rfl ?_
                              refine run_skip ?_
                              refine run_seq ?_
                              refine run_seq ?_
                              refine run_region ?_
                              refine ov (xmove rfl) rfl rfl rfl ?_
                              refine ov (xmove rfl) rfl rfl rfl ?_
                              refine ov (xneq rfl rfl _ rfl) rfl rfl rfl ?_
                              refine ods (fun c123 => ?_) (fun c123 => ?_)
                              · exfalso; first | exact absurd rfl c123 | omega
                              ·
                                refine ops_nil ?_
                                refine run_cond_f rfl ?_
                                refine run_skip ?_
                                refine run_seq ?_
                                refine run_region ?_
                                refine ov (xassign rfl) rfl rfl rfl ?_
                                refine ops_nil ?_
                                refine run_ret Try.func12 (res1 rfl rfl) ?_
                                exact ⟨_, rfl, pv E⟩
                        · exfalso; rw [eqL_refl eqT_refl] at c109; cases c109
                · exfalso; rw [eqL_refl eqT_refl] at c79; cases c79
            · exfalso; rw [eqL_refl eqFile_refl] at c66; cases c66
          · exfalso; rw [eqL_refl eqRole_refl] at c61; cases c61
      · exfalso; rw [eqL_refl eqT_refl] at c51; cases c51
end Go.Proofs.Ytbihpggbabmebaa
