/-
  The walk of the law FnExactWhoSees. No condition beyond those written in the theorem.
-/
import Derived.Test.YtbihpggbabmebaaRolRead
import Derived.Test.YtbihpggbabmebaaSeal3
import Derived.Test.YtbihpggbabmebaaNestClose
namespace Go.Proofs.Ytbihpggbabmebaa
open Go.RowKit
set_option linter.unusedVariables false
set_option linter.unusedSimpArgs false
set_option linter.unusedSectionVars false
set_option maxRecDepth 4000

set_option maxHeartbeats 400000 in
theorem FnExactWhoSees_ok (w : World) (p0 : Option Addr) (n0 c0 : Nat) (xs0 : List (Role)) (H0 : SnRoleS w p0 n0 c0 xs0) (hx0 : ∀ x ∈ xs0, x.ok) (p1 : Option Addr) (n1 c1 : Nat) (xs1 : List (File)) (H1 : SnFileS w p1 n1 c1 xs1) (hx1 : ∀ x ∈ xs1, x.ok) (s2 : ByteArray) (hs2 : s2.size ≤ 9223372036854775807) (k3 : Int) (hk3 : I64 k3) : Ret Try.prog 11 [.slice p0 n0 c0, .slice p1 n1 c1, .string s2, .int .i64 k3] w (Pv w (.bool true)) := by
  refine ret_of_run (N := 132) Try.func11 rfl rfl rfl ?_
  have hn0 := H0.len
  have hn1 := H1.len
  have E : Ext w w := Ext.refl w
  refine run_seq ?_
  refine run_region ?_
  refine ov (xassign rfl) rfl rfl rfl ?_
  refine ops_nil ?_
  refine run_seq ?_
  refine run_seq ?_
  refine run_region ?_
  refine ov (xmove rfl) rfl rfl rfl ?_
  refine ov (xlens Try.underlying9 rfl) rfl rfl rfl ?_
  refine ov (xgtr rfl rfl _ rfl) rfl rfl rfl ?_
  refine ods (fun c23 => ?_) (fun c23 => ?_)
  ·
    refine ops_nil ?_
    refine run_cond_t rfl ?_
    refine run_seq ?_
    refine run_region ?_
    refine ov (xassign rfl) rfl rfl rfl ?_
    refine ops_nil ?_
    refine run_ret Try.func11 (res1 rfl rfl) ?_
    exact ⟨_, rfl, pv E⟩
  ·
    refine ops_nil ?_
    refine run_cond_f rfl ?_
    refine run_skip ?_
    refine run_seq ?_
    refine run_region ?_
    refine ov (xassign rfl) rfl rfl rfl ?_
    refine ops_nil ?_
    refine run_seq ?_
    refine run_region ?_
    refine ov (xmove rfl) rfl rfl rfl ?_
    refine ov (xmove rfl) rfl rfl rfl ?_
    refine oc (xcall Try.call14 rfl) rfl rfl rfl (szRoleS_ok _ _ _ xs0 1048576 _ (H0.ext E) hx0 (by omega) (by omega)) ?_
    rintro _ w1 ⟨rfl, e1⟩
    have z1 := e1.size
    have E := E.trans e1
    refine ov (xassign rfl) rfl rfl rfl ?_
    refine ops_nil ?_
    refine run_seq ?_
    refine run_seq ?_
    refine run_region ?_
    refine ov (xmove rfl) rfl rfl rfl ?_
    refine ov (xlss rfl rfl _ rfl) rfl rfl rfl ?_
    refine ods (fun c28 => ?_) (fun c28 => ?_)
    ·
      refine ops_nil ?_
      refine run_cond_t rfl ?_
      refine run_seq ?_
      refine run_region ?_
      refine ov (xassign rfl) rfl rfl rfl ?_
      refine ops_nil ?_
      refine run_ret Try.func11 (res1 rfl rfl) ?_
      exact ⟨_, rfl, pv E⟩
    ·
      have hz0_ := szMemRoleS (by omega : 0 ≤ szS szRole xs0 1048576)
      have hm0_ : ∀ x ∈ xs0, ((innRoleS x).length : Int) ≤ 1048576 := fun x m => by have := hz0_.2.2.1 x m; omega
      replace hz0_ : _ ∧ _ ∧ _ := ⟨hz0_.1, hz0_.2.1, hz0_.2.2.2⟩
      refine ops_nil ?_
      refine run_cond_f rfl ?_
      refine run_skip ?_
      refine run_seq ?_
      refine run_region ?_
      refine ov (xmove rfl) rfl rfl rfl ?_
      refine ov (xmove rfl) rfl rfl rfl ?_
      refine oc (xcall Try.call19 rfl) rfl rfl rfl (szFileS_ok _ _ _ xs1 (szS szRole xs0 1048576) _ (H1.ext E) hx1 (by omega) (by omega)) ?_
      rintro _ w2 ⟨rfl, e2⟩
      have z2 := e2.size
      have E := E.trans e2
      refine ov (xassign rfl) rfl rfl rfl ?_
      refine ops_nil ?_
      refine run_seq ?_
      refine run_seq ?_
      refine run_region ?_
      refine ov (xmove rfl) rfl rfl rfl ?_
      refine ov (xlss rfl rfl _ rfl) rfl rfl rfl ?_
      refine ods (fun c33 => ?_) (fun c33 => ?_)
      ·
        refine ops_nil ?_
        refine run_cond_t rfl ?_
        refine run_seq ?_
        refine run_region ?_
        refine ov (xassign rfl) rfl rfl rfl ?_
        refine ops_nil ?_
        refine run_ret Try.func11 (res1 rfl rfl) ?_
        exact ⟨_, rfl, pv E⟩
      ·
        have hz1_ := szMemFileS (by omega : 0 ≤ szS szFile xs1 (szS szRole xs0 1048576))
        have hm1_ : ∀ x ∈ xs1, ((innFileS x).length : Int) ≤ 1048576 := fun x m => by have := hz1_.2.2.1 x m; omega
        replace hz1_ : _ ∧ _ ∧ _ := ⟨hz1_.1, hz1_.2.1, hz1_.2.2.2⟩
        refine ops_nil ?_
        refine run_cond_f rfl ?_
        refine run_skip ?_
        refine run_seq ?_
        refine run_region ?_
        refine ov (xmove rfl) rfl rfl rfl ?_
        refine oc (xcall Try.call16 rfl) rfl rfl rfl (toRoleS_ok _ _ _ xs0 _ (H0.ext E) hm0_ (by omega)) ?_
        rintro _ w3 ⟨e3, q36, rfl, G36⟩
        have z3 := e3.size
        have E := E.trans e3
        refine ov (xmove rfl) rfl rfl rfl ?_
        refine oc (xcall Try.call21 rfl) rfl rfl rfl (toFileS_ok _ _ _ xs1 _ (H1.ext E) hm1_ (by omega)) ?_
        rintro _ w4 ⟨e4, q38, rfl, G38⟩
        have z4 := e4.size
        have E := E.trans e4
        replace G36 := G36.ext e4
        refine ov (xmove rfl) rfl rfl rfl ?_
        refine ov (xmove rfl) rfl rfl rfl ?_
        refine oc (xcall Try.call38 rfl) rfl rfl rfl (sWhoSees_ok _ _ _ xs0 _ _ _ xs1 s2 k3 _ (G36.sl) (G38.sl) hx0 hx1) ?_
        rintro _ w5 ⟨e5, q41_0, m41_0, d41_0, rfl, G41_0⟩
        have z5 := e5.size
        have E := E.trans e5
        replace G36 := G36.ext e5
        replace G38 := G38.ext e5
        have lG41_0 := G41_0.len
        have hl_ := whoSees_len xs0 xs1 s2 k3
        refine ov (xmove rfl) rfl rfl rfl ?_
        refine ov (xextract rfl rfl) rfl rfl rfl ?_
        refine ov (xextract rfl rfl) rfl rfl rfl ?_
        refine ov (xassign rfl) rfl rfl rfl ?_
        refine ov (xassign rfl) rfl rfl rfl ?_
        refine ops_nil ?_
        refine run_seq ?_
        refine run_region ?_
        refine ov (xmove rfl) rfl rfl rfl ?_
        refine oc (xcall Try.call16 rfl) rfl rfl rfl (toRoleS_ok _ _ _ xs0 _ (H0.ext E) hm0_ (by omega)) ?_
        rintro _ w6 ⟨e6, q45, rfl, G45⟩
        have z6 := e6.size
        have E := E.trans e6
        replace G36 := G36.ext e6
        replace G38 := G38.ext e6
        replace G41_0 := G41_0.ext e6
        refine ov (xassign rfl) rfl rfl rfl ?_
        refine ops_nil ?_
        refine run_seq ?_
        refine run_region ?_
        refine ov (xmove rfl) rfl rfl rfl ?_
        refine oc (xcall Try.call21 rfl) rfl rfl rfl (toFileS_ok _ _ _ xs1 _ (H1.ext E) hm1_ (by omega)) ?_
        rintro _ w7 ⟨e7, q47, rfl, G47⟩
        have z7 := e7.size
        have E := E.trans e7
        replace G36 := G36.ext e7
        replace G38 := G38.ext e7
        replace G41_0 := G41_0.ext e7
        replace G45 := G45.ext e7
        refine ov (xassign rfl) rfl rfl rfl ?_
        refine ops_nil ?_
        refine run_seq ?_
        refine run_region ?_
        refine ov (xmove rfl) rfl rfl rfl ?_
        refine ov (xmove rfl) rfl rfl rfl ?_
        refine ov (xmove rfl) rfl rfl rfl ?_
        refine ov (xmove rfl) rfl rfl rfl ?_
        refine oc (xcall Try.call37 rfl) rfl rfl rfl (WhoSees_ok _ _ _ xs0 _ _ _ xs1 s2 k3 _ (G45.sl) (G47.sl) hx0 hx1) ?_
        rintro _ w8 ⟨e8, q53_0, m53_0, d53_0, rfl, G53_0⟩
        have z8 := e8.size
        have E := E.trans e8
        replace G36 := G36.ext e8
        replace G38 := G38.ext e8
        replace G41_0 := G41_0.ext e8
        replace G45 := G45.ext e8
        replace G47 := G47.ext e8
        have lG53_0 := G53_0.len
        have hl_ := whoSees_len xs0 xs1 s2 k3
        refine ov (xmove rfl) rfl rfl rfl ?_
        refine ov (xextract rfl rfl) rfl rfl rfl ?_
        refine ov (xextract rfl rfl) rfl rfl rfl ?_
        refine ov (xassign rfl) rfl rfl rfl ?_
        refine ov (xassign rfl) rfl rfl rfl ?_
        refine ops_nil ?_
        refine run_seq ?_
        refine run_seq ?_
        refine run_region ?_
        refine ov (xmove rfl) rfl rfl rfl ?_
        refine ov (xmove rfl) rfl rfl rfl ?_
        refine oc (xcall Try.call43 rfl) rfl rfl rfl (eqStringS_ok _ _ _ _ _ _ _ _ _ (G53_0.sl) (G41_0.sl)) ?_
        rintro _ w9 ⟨rfl, e9⟩
        have z9 := e9.size
        have E := E.trans e9
        replace G36 := G36.ext e9
        replace G38 := G38.ext e9
        replace G41_0 := G41_0.ext e9
        replace G45 := G45.ext e9
        replace G47 := G47.ext e9
        replace G53_0 := G53_0.ext e9
        refine obs (fun c58 => ?_) (fun c58 => ?_)
        ·
          refine ov (xnot rfl) rfl rfl rfl ?_
          refine ov (xmove rfl) rfl rfl rfl ?_
          refine ov (xmove rfl) rfl rfl rfl ?_
          refine ov (xmove rfl) rfl rfl rfl ?_
          refine ov (xneq rfl rfl _ rfl) rfl rfl rfl ?_
          refine ods (fun c63 => ?_) (fun c63 => ?_)
          · exfalso; first | exact absurd rfl c63 | omega
          ·
            refine ov (xpick_f rfl rfl) rfl rfl rfl ?_
            refine ops_nil ?_
            refine run_cond_f rfl ?_
            refine run_skip ?_
            refine run_seq ?_
            refine run_seq ?_
            refine run_region ?_
            refine ov (xmove rfl) rfl rfl rfl ?_
            refine ov (xmove rfl) rfl rfl rfl ?_
            refine oc (xcall Try.call16 rfl) rfl rfl rfl (toRoleS_ok _ _ _ xs0 _ (H0.ext E) hm0_ (by omega)) ?_
            rintro _ w10 ⟨e10, q67, rfl, G67⟩
            have z10 := e10.size
            have E := E.trans e10
            replace G36 := G36.ext e10
            replace G38 := G38.ext e10
            replace G41_0 := G41_0.ext e10
            replace G45 := G45.ext e10
            replace G47 := G47.ext e10
            replace G53_0 := G53_0.ext e10
            refine oc (xcall Try.call18 rfl) rfl rfl rfl (eqRoleS_ok _ _ _ _ _ _ _ _ _ (G45.sl) (G67.sl)) ?_
            rintro _ w11 ⟨rfl, e11⟩
            have z11 := e11.size
            have E := E.trans e11
            replace G36 := G36.ext e11
            replace G38 := G38.ext e11
            replace G41_0 := G41_0.ext e11
            replace G45 := G45.ext e11
            replace G47 := G47.ext e11
            replace G53_0 := G53_0.ext e11
            replace G67 := G67.ext e11
            refine obs (fun c68 => ?_) (fun c68 => ?_)
            ·
              refine ov (xnot rfl) rfl rfl rfl ?_
              refine ops_nil ?_
              refine run_cond_f rfl ?_
              refine run_skip ?_
              refine run_seq ?_
              refine run_seq ?_
              refine run_region ?_
              refine ov (xmove rfl) rfl rfl rfl ?_
              refine ov (xmove rfl) rfl rfl rfl ?_
              refine oc (xcall Try.call21 rfl) rfl rfl rfl (toFileS_ok _ _ _ xs1 _ (H1.ext E) hm1_ (by omega)) ?_
              rintro _ w12 ⟨e12, q72, rfl, G72⟩
              have z12 := e12.size
              have E := E.trans e12
              replace G36 := G36.ext e12
              replace G38 := G38.ext e12
              replace G41_0 := G41_0.ext e12
              replace G45 := G45.ext e12
              replace G47 := G47.ext e12
              replace G53_0 := G53_0.ext e12
              replace G67 := G67.ext e12
              refine oc (xcall Try.call23 rfl) rfl rfl rfl (eqFileS_ok _ _ _ _ _ _ _ _ _ (G47.sl) (G72.sl)) ?_
              rintro _ w13 ⟨rfl, e13⟩
              have z13 := e13.size
              have E := E.trans e13
              replace G36 := G36.ext e13
              replace G38 := G38.ext e13
              replace G41_0 := G41_0.ext e13
              replace G45 := G45.ext e13
              replace G47 := G47.ext e13
              replace G53_0 := G53_0.ext e13
              replace G67 := G67.ext e13
              replace G72 := G72.ext e13
              refine obs (fun c73 => ?_) (fun c73 => ?_)
              ·
                refine ov (xnot rfl) rfl rfl rfl ?_
                refine ops_nil ?_
                refine run_cond_f rfl ?_
                refine run_skip ?_
                refine run_seq ?_
                refine run_region ?_
                refine ov (xassign rfl) rfl rfl rfl ?_
                refine ops_nil ?_
                refine run_seq ?_
                refine run_region ?_
                refine ov (xmove rfl) rfl rfl rfl ?_
                refine ov (xmove rfl) rfl rfl rfl ?_
                refine oc (xcall Try.call44 rfl) rfl rfl rfl (markRoleS_ok _ _ _ _ _ _ _ _ G45 (by omega) (by omega) (by omega) (by omega) (by omega)) ?_
                rintro _ w14 ⟨k77_, rfl, hk77_, m14, g14⟩
                have z14 := m14.size
                have E := m14.toExt E (by omega)
                replace G36 := G36.off m14 (by omega)
                replace G38 := G38.off m14 (by omega)
                replace G41_0 := G41_0.off m14 (by omega)
                replace G47 := G47.off m14 (by omega)
                replace G53_0 := G53_0.off m14 (by omega)
                replace G67 := G67.off m14 (by omega)
                replace G72 := G72.off m14 (by omega)
                replace G45 := g14
                refine ov (xassign rfl) rfl rfl rfl ?_
                refine ops_nil ?_
                refine run_seq ?_
                refine run_region ?_
                refine ov (xmove rfl) rfl rfl rfl ?_
                refine ov (xmove rfl) rfl rfl rfl ?_
                refine oc (xcall Try.call28 rfl) rfl rfl rfl (markFileS_ok _ _ _ _ _ _ _ _ G47 (by omega) (by omega) (by omega) (by omega) (by omega)) ?_
                rintro _ w15 ⟨k80_, rfl, hk80_, m15, g15⟩
                have z15 := m15.size
                have E := m15.toExt E (by omega)
                replace G36 := G36.off m15 (by omega)
                replace G38 := G38.off m15 (by omega)
                replace G41_0 := G41_0.off m15 (by omega)
                replace G45 := G45.off m15 (by omega)
                replace G53_0 := G53_0.off m15 (by omega)
                replace G67 := G67.off m15 (by omega)
                replace G72 := G72.off m15 (by omega)
                replace G47 := g15
                refine ov (xassign rfl) rfl rfl rfl ?_
                refine ops_nil ?_
                refine run_seq ?_
                refine run_seq ?_
                refine run_region ?_
                refine ov (xmove rfl) rfl rfl rfl ?_
                refine ov (xlss rfl rfl _ rfl) rfl rfl rfl ?_
                refine ods (fun c82 => ?_) (fun c82 => ?_)
                · exfalso; omega
                ·
                  refine ov (xmove rfl) rfl rfl rfl ?_
                  refine ov (xmove rfl) rfl rfl rfl ?_
                  refine ov (xmove rfl) rfl rfl rfl ?_
                  refine oc (xcall Try.call43 rfl) rfl rfl rfl (eqStringS_ok _ _ _ _ _ _ _ _ _ (G53_0.sl) (G41_0.sl)) ?_
                  rintro _ w16 ⟨rfl, e16⟩
                  have z16 := e16.size
                  have E := E.trans e16
                  replace G36 := G36.ext e16
                  replace G38 := G38.ext e16
                  replace G41_0 := G41_0.ext e16
                  replace G45 := G45.ext e16
                  replace G47 := G47.ext e16
                  replace G53_0 := G53_0.ext e16
                  replace G67 := G67.ext e16
                  replace G72 := G72.ext e16
                  refine obs (fun c86 => ?_) (fun c86 => ?_)
                  ·
                    refine ov (xnot rfl) rfl rfl rfl ?_
                    refine ov (xpick_f rfl rfl) rfl rfl rfl ?_
                    refine ov (xmove rfl) rfl rfl rfl ?_
                    refine ov (xmove rfl) rfl rfl rfl ?_
                    refine ov (xmove rfl) rfl rfl rfl ?_
                    refine ov (xneq rfl rfl _ rfl) rfl rfl rfl ?_
                    refine ods (fun c92 => ?_) (fun c92 => ?_)
                    · exfalso; first | exact absurd rfl c92 | omega
                    ·
                      refine ov (xpick_f rfl rfl) rfl rfl rfl ?_
                      refine ops_nil ?_
                      refine run_cond_f rfl ?_
                      refine run_skip ?_
                      refine run_seq ?_
                      refine run_region ?_
                      refine ov (xassign rfl) rfl rfl rfl ?_
                      refine ops_nil ?_
                      refine run_seq ?_
                      refine run_region ?_
                      refine ov (xmove rfl) rfl rfl rfl ?_
                      refine ov (xmove rfl) rfl rfl rfl ?_
                      refine oc (xcall Try.call45 rfl) rfl rfl rfl (markStringS_ok _ _ _ _ _ _ _ _ G53_0 (by omega) (by omega) (by omega)) ?_
                      rintro _ w17 ⟨rfl, m17, g17⟩
                      have z17 := m17.size
                      have E := m17.toExt E (by omega)
                      replace G36 := G36.off m17 (by omega)
                      replace G38 := G38.off m17 (by omega)
                      replace G41_0 := G41_0.off m17 (by omega)
                      replace G45 := G45.off m17 (by omega)
                      replace G47 := G47.off m17 (by omega)
                      replace G67 := G67.off m17 (by omega)
                      replace G72 := G72.off m17 (by omega)
                      replace G53_0 := g17
                      refine ov (xassign rfl) rfl rfl rfl ?_
                      refine ops_nil ?_
                      refine run_seq ?_
                      refine run_region ?_
                      refine ov (xassign rfl) rfl rfl rfl ?_
                      refine ops_nil ?_
                      refine run_seq ?_
                      refine run_region ?_
                      refine ov (xmove rfl) rfl rfl rfl ?_
                      refine ov (xmove rfl) rfl rfl rfl ?_
                      refine oc (xcall Try.call46 rfl) rfl rfl rfl (heldStringS_ok _ _ _ _ _ _ (G53_0.sl) (by omega) (by omega) (by omega)) ?_
                      rintro _ w18 ⟨rfl, e18⟩
                      have z18 := e18.size
                      have E := E.trans e18
                      replace G36 := G36.ext e18
                      replace G38 := G38.ext e18
                      replace G41_0 := G41_0.ext e18
                      replace G45 := G45.ext e18
                      replace G47 := G47.ext e18
                      replace G53_0 := G53_0.ext e18
                      replace G67 := G67.ext e18
                      replace G72 := G72.ext e18
                      refine ov (xassign rfl) rfl rfl rfl ?_
                      refine ops_nil ?_
                      refine run_seq ?_
                      refine run_seq ?_
                      refine run_region ?_
                      refine ov (xmove rfl) rfl rfl rfl ?_
                      refine ov (xlss rfl rfl _ rfl) rfl rfl rfl ?_
                      refine ods (fun c101 => ?_) (fun c101 => ?_)
                      · exfalso; omega
                      ·
                        refine ops_nil ?_
                        refine run_cond_f rfl ?_
                        refine run_skip ?_
                        refine run_seq ?_
                        refine run_seq ?_
                        refine run_region ?_
                        refine ov (xmove rfl) rfl rfl rfl ?_
                        refine ov (xmove rfl) rfl rfl rfl ?_
                        refine ov (xneq rfl rfl _ rfl) rfl rfl rfl ?_
                        refine ods (fun c104 => ?_) (fun c104 => ?_)
                        · exfalso; first | exact absurd rfl c104 | omega
                        ·
                          refine ops_nil ?_
                          refine run_cond_f rfl ?_
                          refine run_skip ?_
                          refine run_seq ?_
                          refine run_region ?_
                          refine ov (xmove rfl) rfl rfl rfl ?_
                          refine oc (xcall Try.call16 rfl) rfl rfl rfl (toRoleS_ok _ _ _ xs0 _ (H0.ext E) hm0_ (by omega)) ?_
                          rintro _ w19 ⟨e19, q107, rfl, G107⟩
                          have z19 := e19.size
                          have E := E.trans e19
                          replace G36 := G36.ext e19
                          replace G38 := G38.ext e19
                          replace G41_0 := G41_0.ext e19
                          replace G45 := G45.ext e19
                          replace G47 := G47.ext e19
                          replace G53_0 := G53_0.ext e19
                          replace G67 := G67.ext e19
                          replace G72 := G72.ext e19
                          refine ov (xmove rfl) rfl rfl rfl ?_
                          refine oc (xcall Try.call21 rfl) rfl rfl rfl (toFileS_ok _ _ _ xs1 _ (H1.ext E) hm1_ (by omega)) ?_
                          rintro _ w20 ⟨e20, q109, rfl, G109⟩
                          have z20 := e20.size
                          have E := E.trans e20
                          replace G36 := G36.ext e20
                          replace G38 := G38.ext e20
                          replace G41_0 := G41_0.ext e20
                          replace G45 := G45.ext e20
                          replace G47 := G47.ext e20
                          replace G53_0 := G53_0.ext e20
                          replace G67 := G67.ext e20
                          replace G72 := G72.ext e20
                          replace G107 := G107.ext e20
                          refine ov (xmove rfl) rfl rfl rfl ?_
                          refine ov (xmove rfl) rfl rfl rfl ?_
                          refine oc (xcall Try.call37 rfl) rfl rfl rfl (WhoSees_ok _ _ _ xs0 _ _ _ xs1 s2 k3 _ (G107.sl) (G109.sl) hx0 hx1) ?_
                          rintro _ w21 ⟨e21, q112_0, m112_0, d112_0, rfl, G112_0⟩
                          have z21 := e21.size
                          have E := E.trans e21
                          replace G36 := G36.ext e21
                          replace G38 := G38.ext e21
                          replace G41_0 := G41_0.ext e21
                          replace G45 := G45.ext e21
                          replace G47 := G47.ext e21
                          replace G53_0 := G53_0.ext e21
                          replace G67 := G67.ext e21
                          replace G72 := G72.ext e21
                          replace G107 := G107.ext e21
                          replace G109 := G109.ext e21
                          have lG112_0 := G112_0.len
                          have hl_ := whoSees_len xs0 xs1 s2 k3
                          refine ov (xmove rfl) rfl rfl rfl ?_
                          refine ov (xextract rfl rfl) rfl rfl rfl ?_
                          refine ov (xextract rfl rfl) rfl rfl rfl ?_
                          refine ov (xassign rfl) rfl rfl rfl ?_
                          refine ov (xassign rfl) rfl rfl rfl ?_
                          refine ops_nil ?_
                          refine run_seq ?_
                          refine run_seq ?_
                          refine run_region ?_
                          refine ov (xmove rfl) rfl rfl rfl ?_
                          refine ov (xmove rfl) rfl rfl rfl ?_
                          refine oc (xcall Try.call43 rfl) rfl rfl rfl (eqStringS_ok _ _ _ _ _ _ _ _ _ (G112_0.sl) (G41_0.sl)) ?_
                          rintro _ w22 ⟨rfl, e22⟩
                          have z22 := e22.size
                          have E := E.trans e22
                          replace G36 := G36.ext e22
                          replace G38 := G38.ext e22
                          replace G41_0 := G41_0.ext e22
                          replace G45 := G45.ext e22
                          replace G47 := G47.ext e22
                          replace G53_0 := G53_0.ext e22
                          replace G67 := G67.ext e22
                          replace G72 := G72.ext e22
                          replace G107 := G107.ext e22
                          replace G109 := G109.ext e22
                          replace G112_0 := G112_0.ext e22
                          refine obs (fun c117 => ?_) (fun c117 => ?_)
                          ·
                            refine ov (xnot rfl) rfl rfl rfl ?_
                            refine ov (xmove rfl) rfl rfl rfl ?_
                            refine ov (xmove rfl) rfl rfl rfl ?_
                            refine ov (xmove rfl) rfl rfl rfl ?_
                            refine ov (xneq rfl rfl _ rfl) rfl rfl rfl ?_
                            refine ods (fun c122 => ?_) (fun c122 => ?_)
                            · exfalso; first | exact absurd rfl c122 | omega
                            ·
                              refine ov (xpick_f rfl rfl) rfl rfl rfl ?_
                              refine ops_nil ?_
                              refine run_cond_f rfl ?_
                              refine run_skip ?_
                              refine run_seq ?_
                              refine run_region ?_
                              refine ov (xassign rfl) rfl rfl rfl ?_
                              refine ops_nil ?_
                              refine run_seq ?_
                              refine run_region ?_
                              refine ov (xmove rfl) rfl rfl rfl ?_
                              refine ov (xmove rfl) rfl rfl rfl ?_
                              refine oc (xcall Try.call46 rfl) rfl rfl rfl (heldStringS_ok _ _ _ _ _ _ (G53_0.sl) (by omega) (by omega) (by omega)) ?_
                              rintro _ w23 ⟨rfl, e23⟩
                              have z23 := e23.size
                              have E := E.trans e23
                              replace G36 := G36.ext e23
                              replace G38 := G38.ext e23
                              replace G41_0 := G41_0.ext e23
                              replace G45 := G45.ext e23
                              replace G47 := G47.ext e23
                              replace G53_0 := G53_0.ext e23
                              replace G67 := G67.ext e23
                              replace G72 := G72.ext e23
                              replace G107 := G107.ext e23
                              replace G109 := G109.ext e23
                              replace G112_0 := G112_0.ext e23
                              refine ov (xassign rfl) rfl rfl rfl ?_
                              refine ops_nil ?_
                              refine run_seq ?_
                              refine run_seq ?_
                              refine run_region ?_
                              refine ov (xmove rfl) rfl rfl rfl ?_
                              refine ov (xlss rfl rfl _ rfl) rfl rfl rfl ?_
                              refine ods (fun c128 => ?_) (fun c128 => ?_)
                              · exfalso; omega
                              ·
                                refine ops_nil ?_
                                refine run_cond_f rfl ?_
                                refine run_skip ?_
                                refine run_seq ?_
                                refine run_seq ?_
                                refine run_region ?_
                                refine ov (xmove rfl) rfl rfl rfl ?_
                                refine ov (xmove rfl) rfl rfl rfl ?_
                                refine ov (xneq rfl rfl _ rfl) rfl rfl rfl ?_
                                refine ods (fun c131 => ?_) (fun c131 => ?_)
                                · exfalso; first | exact absurd rfl c131 | omega
                                ·
                                  refine ops_nil ?_
                                  refine run_cond_f rfl ?_
                                  refine run_skip ?_
                                  refine run_seq ?_
                                  refine run_region ?_
                                  refine ov (xassign rfl) rfl rfl rfl ?_
                                  refine ops_nil ?_
                                  refine run_ret Try.func11 (res1 rfl rfl) ?_
                                  exact ⟨_, rfl, pv E⟩
                          · exfalso; rw [eqL_refl eqT_refl] at c117; cases c117
                  · exfalso; rw [eqL_refl eqT_refl] at c86; cases c86
              · exfalso; rw [eqL_refl eqFile_refl] at c73; cases c73
            · exfalso; rw [eqL_refl eqRole_refl] at c68; cases c68
        · exfalso; rw [eqL_refl eqT_refl] at c58; cases c58
end Go.Proofs.Ytbihpggbabmebaa
