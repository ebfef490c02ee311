/-
  The walk of the law FnExactMaySee. No condition beyond those written in the theorem.
-/
import Derived.Test.YtbihpggbabmebaaRolRead
import Derived.Test.YtbihpggbabmebaaSeal3
import Derived.Test.YtbihpggbabmebaaNestClose
namespace Go.Proofs.Ytbihpggbabmebaa
open Go.RowKit
set_option linter.unusedVariables false
set_option linter.unusedSimpArgs false
set_option linter.unusedSectionVars false
set_option maxRecDepth 4000

set_option maxHeartbeats 400000 in
theorem FnExactMaySee_ok (w : World) (p0 : Option Addr) (n0 c0 : Nat) (xs0 : List (Role)) (H0 : SnRoleS w p0 n0 c0 xs0) (hx0 : ∀ x ∈ xs0, x.ok) (p1 : Option Addr) (n1 c1 : Nat) (xs1 : List (File)) (H1 : SnFileS w p1 n1 c1 xs1) (hx1 : ∀ x ∈ xs1, x.ok) (s2 : ByteArray) (hs2 : s2.size ≤ 9223372036854775807) (s3 : ByteArray) (hs3 : s3.size ≤ 9223372036854775807) (k4 : Int) (hk4 : I64 k4) : Ret Try.prog 7 [.slice p0 n0 c0, .slice p1 n1 c1, .string s2, .string s3, .int .i64 k4] w (Pv w (.bool true)) := by
  refine ret_of_run (N := 76) Try.func7 rfl rfl rfl ?_
  have hn0 := H0.len
  have hn1 := H1.len
  have E : Ext w w := Ext.refl w
  refine run_seq ?_
  refine run_region ?_
  refine ov (xassign rfl) rfl rfl rfl ?_
  refine ops_nil ?_
  refine run_seq ?_
  refine run_seq ?_
  refine run_region ?_
  refine ov (xmove rfl) rfl rfl rfl ?_
  refine ov (xlens Try.underlying9 rfl) rfl rfl rfl ?_
  refine ov (xgtr rfl rfl _ rfl) rfl rfl rfl ?_
  refine ods (fun c20 => ?_) (fun c20 => ?_)
  ·
    refine ops_nil ?_
    refine run_cond_t rfl ?_
    refine run_seq ?_
    refine run_region ?_
    refine ov (xassign rfl) rfl rfl rfl ?_
    refine ops_nil ?_
    refine run_ret Try.func7 (res1 rfl rfl) ?_
    exact ⟨_, rfl, pv E⟩
  ·
    refine ops_nil ?_
    refine run_cond_f rfl ?_
    refine run_skip ?_
    refine run_seq ?_
    refine run_seq ?_
    refine run_region ?_
    refine ov (xmove rfl) rfl rfl rfl ?_
    refine ov (xlens Try.underlying9 rfl) rfl rfl rfl ?_
    refine ov (xgtr rfl rfl _ rfl) rfl rfl rfl ?_
    refine ods (fun c23 => ?_) (fun c23 => ?_)
    ·
      refine ops_nil ?_
      refine run_cond_t rfl ?_
      refine run_seq ?_
      refine run_region ?_
      refine ov (xassign rfl) rfl rfl rfl ?_
      refine ops_nil ?_
      refine run_ret Try.func7 (res1 rfl rfl) ?_
      exact ⟨_, rfl, pv E⟩
    ·
      refine ops_nil ?_
      refine run_cond_f rfl ?_
      refine run_skip ?_
      refine run_seq ?_
      refine run_region ?_
      refine ov (xassign rfl) rfl rfl rfl ?_
      refine ops_nil ?_
      refine run_seq ?_
      refine run_region ?_
      refine ov (xmove rfl) rfl rfl rfl ?_
      refine ov (xmove rfl) rfl rfl rfl ?_
      refine oc (xcall Try.call14 rfl) rfl rfl rfl (szRoleS_ok _ _ _ xs0 1048576 _ (H0.ext E) hx0 (by omega) (by omega)) ?_
      rintro _ w1 ⟨rfl, e1⟩
      have z1 := e1.size
      have E := E.trans e1
      refine ov (xassign rfl) rfl rfl rfl ?_
      refine ops_nil ?_
      refine run_seq ?_
      refine run_seq ?_
      refine run_region ?_
      refine ov (xmove rfl) rfl rfl rfl ?_
      refine ov (xlss rfl rfl _ rfl) rfl rfl rfl ?_
      refine ods (fun c28 => ?_) (fun c28 => ?_)
      ·
        refine ops_nil ?_
        refine run_cond_t rfl ?_
        refine run_seq ?_
        refine run_region ?_
        refine ov (xassign rfl) rfl rfl rfl ?_
        refine ops_nil ?_
        refine run_ret Try.func7 (res1 rfl rfl) ?_
        exact ⟨_, rfl, pv E⟩
      ·
        have hz0_ := szMemRoleS (by omega : 0 ≤ szS szRole xs0 1048576)
        have hm0_ : ∀ x ∈ xs0, ((innRoleS x).length : Int) ≤ 1048576 := fun x m => by have := hz0_.2.2.1 x m; omega
        replace hz0_ : _ ∧ _ ∧ _ := ⟨hz0_.1, hz0_.2.1, hz0_.2.2.2⟩
        refine ops_nil ?_
        refine run_cond_f rfl ?_
        refine run_skip ?_
        refine run_seq ?_
        refine run_region ?_
        refine ov (xmove rfl) rfl rfl rfl ?_
        refine ov (xmove rfl) rfl rfl rfl ?_
        refine oc (xcall Try.call19 rfl) rfl rfl rfl (szFileS_ok _ _ _ xs1 (szS szRole xs0 1048576) _ (H1.ext E) hx1 (by omega) (by omega)) ?_
        rintro _ w2 ⟨rfl, e2⟩
        have z2 := e2.size
        have E := E.trans e2
        refine ov (xassign rfl) rfl rfl rfl ?_
        refine ops_nil ?_
        refine run_seq ?_
        refine run_seq ?_
        refine run_region ?_
        refine ov (xmove rfl) rfl rfl rfl ?_
        refine ov (xlss rfl rfl _ rfl) rfl rfl rfl ?_
        refine ods (fun c33 => ?_) (fun c33 => ?_)
        ·
          refine ops_nil ?_
          refine run_cond_t rfl ?_
          refine run_seq ?_
          refine run_region ?_
          refine ov (xassign rfl) rfl rfl rfl ?_
          refine ops_nil ?_
          refine run_ret Try.func7 (res1 rfl rfl) ?_
          exact ⟨_, rfl, pv E⟩
        ·
          have hz1_ := szMemFileS (by omega : 0 ≤ szS szFile xs1 (szS szRole xs0 1048576))
          have hm1_ : ∀ x ∈ xs1, ((innFileS x).length : Int) ≤ 1048576 := fun x m => by have := hz1_.2.2.1 x m; omega
          replace hz1_ : _ ∧ _ ∧ _ := ⟨hz1_.1, hz1_.2.1, hz1_.2.2.2⟩
          refine ops_nil ?_
          refine run_cond_f rfl ?_
          refine run_skip ?_
          refine run_seq ?_
          refine run_region ?_
          refine ov (xmove rfl) rfl rfl rfl ?_
          refine oc (xcall Try.call16 rfl) rfl rfl rfl (toRoleS_ok _ _ _ xs0 _ (H0.ext E) hm0_ (by omega)) ?_
          rintro _ w3 ⟨e3, q36, rfl, G36⟩
          have z3 := e3.size
          have E := E.trans e3
          refine ov (xmove rfl) rfl rfl rfl ?_
          refine oc (xcall Try.call21 rfl) rfl rfl rfl (toFileS_ok _ _ _ xs1 _ (H1.ext E) hm1_ (by omega)) ?_
          rintro _ w4 ⟨e4, q38, rfl, G38⟩
          have z4 := e4.size
          have E := E.trans e4
          replace G36 := G36.ext e4
          refine ov (xmove rfl) rfl rfl rfl ?_
          refine ov (xmove rfl) rfl rfl rfl ?_
          refine ov (xmove rfl) rfl rfl rfl ?_
          refine oc (xcall Try.call30 rfl) rfl rfl rfl (sMaySee_ok _ _ _ xs0 _ _ _ xs1 s2 s3 k4 _ (G36.sl) (G38.sl) hx0 hx1) ?_
          rintro _ w5 ⟨rfl, e5⟩
          have z5 := e5.size
          have E := E.trans e5
          replace G36 := G36.ext e5
          replace G38 := G38.ext e5
          refine ov (xmove rfl) rfl rfl rfl ?_
          refine ov (xextract rfl rfl) rfl rfl rfl ?_
          refine ov (xextract rfl rfl) rfl rfl rfl ?_
          refine ov (xassign rfl) rfl rfl rfl ?_
          refine ov (xassign rfl) rfl rfl rfl ?_
          refine ops_nil ?_
          refine run_seq ?_
          refine run_region ?_
          refine ov (xmove rfl) rfl rfl rfl ?_
          refine oc (xcall Try.call16 rfl) rfl rfl rfl (toRoleS_ok _ _ _ xs0 _ (H0.ext E) hm0_ (by omega)) ?_
          rintro _ w6 ⟨e6, q46, rfl, G46⟩
          have z6 := e6.size
          have E := E.trans e6
          replace G36 := G36.ext e6
          replace G38 := G38.ext e6
          refine ov (xassign rfl) rfl rfl rfl ?_
          refine ops_nil ?_
          refine run_seq ?_
          refine run_region ?_
          refine ov (xmove rfl) rfl rfl rfl ?_
          refine oc (xcall Try.call21 rfl) rfl rfl rfl (toFileS_ok _ _ _ xs1 _ (H1.ext E) hm1_ (by omega)) ?_
          rintro _ w7 ⟨e7, q48, rfl, G48⟩
          have z7 := e7.size
          have E := E.trans e7
          replace G36 := G36.ext e7
          replace G38 := G38.ext e7
          replace G46 := G46.ext e7
          refine ov (xassign rfl) rfl rfl rfl ?_
          refine ops_nil ?_
          refine run_seq ?_
          refine run_region ?_
          refine ov (xmove rfl) rfl rfl rfl ?_
          refine ov (xmove rfl) rfl rfl rfl ?_
          refine ov (xmove rfl) rfl rfl rfl ?_
          refine ov (xmove rfl) rfl rfl rfl ?_
          refine ov (xmove rfl) rfl rfl rfl ?_
          refine oc (xcall Try.call31 rfl) rfl rfl rfl (MaySee_ok _ _ _ xs0 _ _ _ xs1 s2 s3 k4 _ (G46.sl) (G48.sl) hx0 hx1) ?_
          rintro _ w8 ⟨rfl, e8⟩
          have z8 := e8.size
          have E := E.trans e8
          replace G36 := G36.ext e8
          replace G38 := G38.ext e8
          replace G46 := G46.ext e8
          replace G48 := G48.ext e8
          refine ov (xmove rfl) rfl rfl rfl ?_
          refine ov (xextract rfl rfl) rfl rfl rfl ?_
          refine ov (xextract rfl rfl) rfl rfl rfl ?_
          refine ov (xassign rfl) rfl rfl rfl ?_
          refine ov (xassign rfl) rfl rfl rfl ?_
          refine ops_nil ?_
          refine run_seq ?_
          refine run_seq ?_
          refine run_region ?_
          refine ov (xmove rfl) rfl rfl rfl ?_
          refine ov (xmove rfl) rfl rfl rfl ?_
          refine ov (xbneq Try.underlying4 rfl rfl) rfl rfl rfl ?_
          refine ods (fun c60 => ?_) (fun c60 => ?_)
          · exfalso; exact absurd rfl c60
          ·
            refine ov (xmove rfl) rfl rfl rfl ?_
            refine ov (xmove rfl) rfl rfl rfl ?_
            refine ov (xmove rfl) rfl rfl rfl ?_
            refine ov (xneq rfl rfl _ rfl) rfl rfl rfl ?_
            refine ods (fun c64 => ?_) (fun c64 => ?_)
            · exfalso; first | exact absurd rfl c64 | omega
            ·
              refine ov (xpick_f rfl rfl) rfl rfl rfl ?_
              refine ops_nil ?_
              refine run_cond_f rfl ?_
              refine run_skip ?_
              refine run_seq ?_
              refine run_seq ?_
              refine run_region ?_
              refine ov (xmove rfl) rfl rfl rfl ?_
              refine ov (xmove rfl) rfl rfl rfl ?_
              refine oc (xcall Try.call16 rfl) rfl rfl rfl (toRoleS_ok _ _ _ xs0 _ (H0.ext E) hm0_ (by omega)) ?_
              rintro _ w9 ⟨e9, q68, rfl, G68⟩
              have z9 := e9.size
              have E := E.trans e9
              replace G36 := G36.ext e9
              replace G38 := G38.ext e9
              replace G46 := G46.ext e9
              replace G48 := G48.ext e9
              refine oc (xcall Try.call18 rfl) rfl rfl rfl (eqRoleS_ok _ _ _ _ _ _ _ _ _ (G46.sl) (G68.sl)) ?_
              rintro _ w10 ⟨rfl, e10⟩
              have z10 := e10.size
              have E := E.trans e10
              replace G36 := G36.ext e10
              replace G38 := G38.ext e10
              replace G46 := G46.ext e10
              replace G48 := G48.ext e10
              replace G68 := G68.ext e10
              refine obs (fun c69 => ?_) (fun c69 => ?_)
              ·
                refine ov (xnot rfl) rfl rfl rfl ?_
                refine ops_nil ?_
                refine run_cond_f rfl ?_
                refine run_skip ?_
                refine run_seq ?_
                refine run_seq ?_
                refine run_region ?_
                refine ov (xmove rfl) rfl rfl rfl ?_
                refine ov (xmove rfl) rfl rfl rfl ?_
                refine oc (xcall Try.call21 rfl) rfl rfl rfl (toFileS_ok _ _ _ xs1 _ (H1.ext E) hm1_ (by omega)) ?_
                rintro _ w11 ⟨e11, q73, rfl, G73⟩
                have z11 := e11.size
                have E := E.trans e11
                replace G36 := G36.ext e11
                replace G38 := G38.ext e11
                replace G46 := G46.ext e11
                replace G48 := G48.ext e11
                replace G68 := G68.ext e11
                refine oc (xcall Try.call23 rfl) rfl rfl rfl (eqFileS_ok _ _ _ _ _ _ _ _ _ (G48.sl) (G73.sl)) ?_
                rintro _ w12 ⟨rfl, e12⟩
                have z12 := e12.size
                have E := E.trans e12
                replace G36 := G36.ext e12
                replace G38 := G38.ext e12
                replace G46 := G46.ext e12
                replace G48 := G48.ext e12
                replace G68 := G68.ext e12
                replace G73 := G73.ext e12
                refine obs (fun c74 => ?_) (fun c74 => ?_)
                ·
                  refine ov (xnot rfl) rfl rfl rfl ?_
                  refine ops_nil ?_
                  refine run_cond_f rfl ?_
                  refine run_skip ?_
                  refine run_seq ?_
                  refine run_region ?_
                  refine ov (xassign rfl) rfl rfl rfl ?_
                  refine ops_nil ?_
                  refine run_ret Try.func7 (res1 rfl rfl) ?_
                  exact ⟨_, rfl, pv E⟩
                · exfalso; rw [eqL_refl eqFile_refl] at c74; cases c74
              · exfalso; rw [eqL_refl eqRole_refl] at c69; cases c69
end Go.Proofs.Ytbihpggbabmebaa
