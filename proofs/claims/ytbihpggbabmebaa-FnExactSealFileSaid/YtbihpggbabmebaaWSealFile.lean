/-
  The walk of the law FnExactSealFile. No condition beyond those written in the theorem.
-/
import Derived.Test.YtbihpggbabmebaaRolRead
import Derived.Test.YtbihpggbabmebaaSealF
import Derived.Test.YtbihpggbabmebaaNestClose
namespace Go.Proofs.Ytbihpggbabmebaa
open Go.RowKit
set_option linter.unusedVariables false
set_option linter.unusedSimpArgs false
set_option linter.unusedSectionVars false
set_option maxRecDepth 4000

set_option maxHeartbeats 400000 in
theorem FnExactSealFile_ok (w : World) (p0 : Option Addr) (n0 c0 : Nat) (xs0 : List (File)) (H0 : SnFileS w p0 n0 c0 xs0) (hx0 : ∀ x ∈ xs0, x.ok) (s1 : ByteArray) (hs1 : s1.size ≤ 9223372036854775807) (k2 : Int) (hk2 : I64 k2) (k3 : Int) (hk3 : I64 k3) : Ret Try.prog 6 [.slice p0 n0 c0, .string s1, .int .i64 k2, .int .i64 k3] w (Pv w (.bool true)) := by
  refine ret_of_run (N := 114) Try.func6 rfl rfl rfl ?_
  have hn0 := H0.len
  have E : Ext w w := Ext.refl w
  refine run_seq ?_
  refine run_region ?_
  refine ov (xassign rfl) rfl rfl rfl ?_
  refine ops_nil ?_
  refine run_seq ?_
  refine run_seq ?_
  refine run_region ?_
  refine ov (xmove rfl) rfl rfl rfl ?_
  refine ov (xlens Try.underlying9 rfl) rfl rfl rfl ?_
  refine ov (xgtr rfl rfl _ rfl) rfl rfl rfl ?_
  refine ods (fun c22 => ?_) (fun c22 => ?_)
  ·
    refine ops_nil ?_
    refine run_cond_t rfl ?_
    refine run_seq ?_
    refine run_region ?_
    refine ov (xassign rfl) rfl rfl rfl ?_
    refine ops_nil ?_
    refine run_ret Try.func6 (res1 rfl rfl) ?_
    exact ⟨_, rfl, pv E⟩
  ·
    refine ops_nil ?_
    refine run_cond_f rfl ?_
    refine run_skip ?_
    refine run_seq ?_
    refine run_region ?_
    refine ov (xassign rfl) rfl rfl rfl ?_
    refine ops_nil ?_
    refine run_seq ?_
    refine run_region ?_
    refine ov (xmove rfl) rfl rfl rfl ?_
    refine ov (xmove rfl) rfl rfl rfl ?_
    refine oc (xcall Try.call19 rfl) rfl rfl rfl (szFileS_ok _ _ _ xs0 1048576 _ (H0.ext E) hx0 (by omega) (by omega)) ?_
    rintro _ w1 ⟨rfl, e1⟩
    have z1 := e1.size
    have E := E.trans e1
    refine ov (xassign rfl) rfl rfl rfl ?_
    refine ops_nil ?_
    refine run_seq ?_
    refine run_seq ?_
    refine run_region ?_
    refine ov (xmove rfl) rfl rfl rfl ?_
    refine ov (xlss rfl rfl _ rfl) rfl rfl rfl ?_
    refine ods (fun c27 => ?_) (fun c27 => ?_)
    ·
      refine ops_nil ?_
      refine run_cond_t rfl ?_
      refine run_seq ?_
      refine run_region ?_
      refine ov (xassign rfl) rfl rfl rfl ?_
      refine ops_nil ?_
      refine run_ret Try.func6 (res1 rfl rfl) ?_
      exact ⟨_, rfl, pv E⟩
    ·
      have hz0_ := szMemFileS (by omega : 0 ≤ szS szFile xs0 1048576)
      have hm0_ : ∀ x ∈ xs0, ((innFileS x).length : Int) ≤ 1048576 := fun x m => by have := hz0_.2.2.1 x m; omega
      replace hz0_ : _ ∧ _ ∧ _ := ⟨hz0_.1, hz0_.2.1, hz0_.2.2.2⟩
      refine ops_nil ?_
      refine run_cond_f rfl ?_
      refine run_skip ?_
      refine run_seq ?_
      refine run_region ?_
      refine ov (xmove rfl) rfl rfl rfl ?_
      refine oc (xcall Try.call21 rfl) rfl rfl rfl (toFileS_ok _ _ _ xs0 _ (H0.ext E) hm0_ (by omega)) ?_
      rintro _ w2 ⟨e2, q30, rfl, G30⟩
      have z2 := e2.size
      have E := E.trans e2
      refine ov (xmove rfl) rfl rfl rfl ?_
      refine ov (xmove rfl) rfl rfl rfl ?_
      refine ov (xmove rfl) rfl rfl rfl ?_
      refine oc (xcall Try.call26 rfl) rfl rfl rfl (sSealFile_ok _ _ _ xs0 s1 k2 k3 _ (G30.sl) hx0) ?_
      rintro _ w3 ⟨e3, q34_0, m34_0, d34_0, rfl, G34_0⟩
      have z3 := e3.size
      have E := E.trans e3
      replace G30 := G30.ext e3
      have lG34_0 := G34_0.len
      have hl_ := sealFile_small xs0 s1 k2 k3
      refine ov (xmove rfl) rfl rfl rfl ?_
      refine ov (xextract rfl rfl) rfl rfl rfl ?_
      refine ov (xextract rfl rfl) rfl rfl rfl ?_
      refine ov (xassign rfl) rfl rfl rfl ?_
      refine ov (xassign rfl) rfl rfl rfl ?_
      refine ops_nil ?_
      refine run_seq ?_
      refine run_region ?_
      refine ov (xmove rfl) rfl rfl rfl ?_
      refine oc (xcall Try.call21 rfl) rfl rfl rfl (toFileS_ok _ _ _ xs0 _ (H0.ext E) hm0_ (by omega)) ?_
      rintro _ w4 ⟨e4, q38, rfl, G38⟩
      have z4 := e4.size
      have E := E.trans e4
      replace G30 := G30.ext e4
      replace G34_0 := G34_0.ext e4
      refine ov (xassign rfl) rfl rfl rfl ?_
      refine ops_nil ?_
      refine run_seq ?_
      refine run_region ?_
      refine ov (xmove rfl) rfl rfl rfl ?_
      refine ov (xmove rfl) rfl rfl rfl ?_
      refine ov (xmove rfl) rfl rfl rfl ?_
      refine ov (xmove rfl) rfl rfl rfl ?_
      refine oc (xcall Try.call27 rfl) rfl rfl rfl (SealFile_ok _ _ _ xs0 s1 k2 k3 _ (G38.sl) hx0) ?_
      rintro _ w5 ⟨e5, q44_0, m44_0, d44_0, rfl, G44_0⟩
      have z5 := e5.size
      have E := E.trans e5
      replace G30 := G30.ext e5
      replace G34_0 := G34_0.ext e5
      replace G38 := G38.ext e5
      have lG44_0 := G44_0.len
      have hl_ := sealFile_small xs0 s1 k2 k3
      refine ov (xmove rfl) rfl rfl rfl ?_
      refine ov (xextract rfl rfl) rfl rfl rfl ?_
      refine ov (xextract rfl rfl) rfl rfl rfl ?_
      refine ov (xassign rfl) rfl rfl rfl ?_
      refine ov (xassign rfl) rfl rfl rfl ?_
      refine ops_nil ?_
      refine run_seq ?_
      refine run_seq ?_
      refine run_region ?_
      refine ov (xmove rfl) rfl rfl rfl ?_
      refine ov (xmove rfl) rfl rfl rfl ?_
      refine oc (xcall Try.call23 rfl) rfl rfl rfl (eqFileS_ok _ _ _ _ _ _ _ _ _ (G44_0.sl) (G34_0.sl)) ?_
      rintro _ w6 ⟨rfl, e6⟩
      have z6 := e6.size
      have E := E.trans e6
      replace G30 := G30.ext e6
      replace G34_0 := G34_0.ext e6
      replace G38 := G38.ext e6
      replace G44_0 := G44_0.ext e6
      refine obs (fun c49 => ?_) (fun c49 => ?_)
      ·
        refine ov (xnot rfl) rfl rfl rfl ?_
        refine ov (xmove rfl) rfl rfl rfl ?_
        refine ov (xmove rfl) rfl rfl rfl ?_
        refine ov (xmove rfl) rfl rfl rfl ?_
        refine ov (xneq rfl rfl _ rfl) rfl rfl rfl ?_
        refine ods (fun c54 => ?_) (fun c54 => ?_)
        · exfalso; first | exact absurd rfl c54 | omega
        ·
          refine ov (xpick_f rfl rfl) rfl rfl rfl ?_
          refine ops_nil ?_
          refine run_cond_f rfl ?_
          refine run_skip ?_
          refine run_seq ?_
          refine run_seq ?_
          refine run_region ?_
          refine ov (xmove rfl) rfl rfl rfl ?_
          refine ov (xmove rfl) rfl rfl rfl ?_
          refine oc (xcall Try.call21 rfl) rfl rfl rfl (toFileS_ok _ _ _ xs0 _ (H0.ext E) hm0_ (by omega)) ?_
          rintro _ w7 ⟨e7, q58, rfl, G58⟩
          have z7 := e7.size
          have E := E.trans e7
          replace G30 := G30.ext e7
          replace G34_0 := G34_0.ext e7
          replace G38 := G38.ext e7
          replace G44_0 := G44_0.ext e7
          refine oc (xcall Try.call23 rfl) rfl rfl rfl (eqFileS_ok _ _ _ _ _ _ _ _ _ (G38.sl) (G58.sl)) ?_
          rintro _ w8 ⟨rfl, e8⟩
          have z8 := e8.size
          have E := E.trans e8
          replace G30 := G30.ext e8
          replace G34_0 := G34_0.ext e8
          replace G38 := G38.ext e8
          replace G44_0 := G44_0.ext e8
          replace G58 := G58.ext e8
          refine obs (fun c59 => ?_) (fun c59 => ?_)
          ·
            refine ov (xnot rfl) rfl rfl rfl ?_
            refine ops_nil ?_
            refine run_cond_f rfl ?_
            refine run_skip ?_
            refine run_seq ?_
            refine run_region ?_
            refine ov (xassign rfl) rfl rfl rfl ?_
            refine ops_nil ?_
            refine run_seq ?_
            refine run_region ?_
            refine ov (xmove rfl) rfl rfl rfl ?_
            refine ov (xmove rfl) rfl rfl rfl ?_
            refine oc (xcall Try.call28 rfl) rfl rfl rfl (markFileS_ok _ _ _ _ _ _ _ _ G38 (by omega) (by omega) (by omega) (by omega) (by omega)) ?_
            rintro _ w9 ⟨k63_, rfl, hk63_, m9, g9⟩
            have z9 := m9.size
            have E := m9.toExt E (by omega)
            replace G30 := G30.off m9 (by omega)
            replace G34_0 := G34_0.off m9 (by omega)
            replace G44_0 := G44_0.off m9 (by omega)
            replace G58 := G58.off m9 (by omega)
            replace G38 := g9
            refine ov (xassign rfl) rfl rfl rfl ?_
            refine ops_nil ?_
            refine run_seq ?_
            refine run_seq ?_
            refine run_region ?_
            refine ov (xmove rfl) rfl rfl rfl ?_
            refine ov (xlss rfl rfl _ rfl) rfl rfl rfl ?_
            refine ods (fun c65 => ?_) (fun c65 => ?_)
            · exfalso; omega
            ·
              refine ov (xmove rfl) rfl rfl rfl ?_
              refine ov (xmove rfl) rfl rfl rfl ?_
              refine ov (xmove rfl) rfl rfl rfl ?_
              refine oc (xcall Try.call23 rfl) rfl rfl rfl (eqFileS_ok _ _ _ _ _ _ _ _ _ (G44_0.sl) (G34_0.sl)) ?_
              rintro _ w10 ⟨rfl, e10⟩
              have z10 := e10.size
              have E := E.trans e10
              replace G30 := G30.ext e10
              replace G34_0 := G34_0.ext e10
              replace G38 := G38.ext e10
              replace G44_0 := G44_0.ext e10
              replace G58 := G58.ext e10
              refine obs (fun c69 => ?_) (fun c69 => ?_)
              ·
                refine ov (xnot rfl) rfl rfl rfl ?_
                refine ov (xpick_f rfl rfl) rfl rfl rfl ?_
                refine ov (xmove rfl) rfl rfl rfl ?_
                refine ov (xmove rfl) rfl rfl rfl ?_
                refine ov (xmove rfl) rfl rfl rfl ?_
                refine ov (xneq rfl rfl _ rfl) rfl rfl rfl ?_
                refine ods (fun c75 => ?_) (fun c75 => ?_)
                · exfalso; first | exact absurd rfl c75 | omega
                ·
                  refine ov (xpick_f rfl rfl) rfl rfl rfl ?_
                  refine ops_nil ?_
                  refine run_cond_f rfl ?_
                  refine run_skip ?_
                  refine run_seq ?_
                  refine run_region ?_
                  refine ov (xassign rfl) rfl rfl rfl ?_
                  refine ops_nil ?_
                  refine run_seq ?_
                  refine run_region ?_
                  refine ov (xmove rfl) rfl rfl rfl ?_
                  refine ov (xmove rfl) rfl rfl rfl ?_
                  refine oc (xcall Try.call28 rfl) rfl rfl rfl (markFileS_ok _ _ _ _ _ _ _ _ G44_0 (by omega) (by omega) (by omega) (by omega) (by omega)) ?_
                  rintro _ w11 ⟨k79_, rfl, hk79_, m11, g11⟩
                  have z11 := m11.size
                  have E := m11.toExt E (by omega)
                  replace G30 := G30.off m11 (by omega)
                  replace G34_0 := G34_0.off m11 (by omega)
                  replace G38 := G38.off m11 (by omega)
                  replace G58 := G58.off m11 (by omega)
                  replace G44_0 := g11
                  refine ov (xassign rfl) rfl rfl rfl ?_
                  refine ops_nil ?_
                  refine run_seq ?_
                  refine run_region ?_
                  refine ov (xassign rfl) rfl rfl rfl ?_
                  refine ops_nil ?_
                  refine run_seq ?_
                  refine run_region ?_
                  refine ov (xmove rfl) rfl rfl rfl ?_
                  refine ov (xmove rfl) rfl rfl rfl ?_
                  refine oc (xcall Try.call29 rfl) rfl rfl rfl (heldFileS_ok _ _ _ _ _ _ (G44_0.sl) (by omega) (by omega) (by omega) (by omega)) ?_
                  rintro _ w12 ⟨k82_, rfl, hk82_, e12⟩
                  have z12 := e12.size
                  have E := E.trans e12
                  replace G30 := G30.ext e12
                  replace G34_0 := G34_0.ext e12
                  replace G38 := G38.ext e12
                  replace G44_0 := G44_0.ext e12
                  replace G58 := G58.ext e12
                  refine ov (xassign rfl) rfl rfl rfl ?_
                  refine ops_nil ?_
                  refine run_seq ?_
                  refine run_seq ?_
                  refine run_region ?_
                  refine ov (xmove rfl) rfl rfl rfl ?_
                  refine ov (xlss rfl rfl _ rfl) rfl rfl rfl ?_
                  refine ods (fun c84 => ?_) (fun c84 => ?_)
                  · exfalso; omega
                  ·
                    refine ops_nil ?_
                    refine run_cond_f rfl ?_
                    refine run_skip ?_
                    refine run_seq ?_
                    refine run_seq ?_
                    refine run_region ?_
                    refine ov (xmove rfl) rfl rfl rfl ?_
                    refine ov (xmove rfl) rfl rfl rfl ?_
                    refine ov (xneq rfl rfl _ rfl) rfl rfl rfl ?_
                    refine ods (fun c87 => ?_) (fun c87 => ?_)
                    · exfalso; first | exact absurd rfl c87 | omega
                    ·
                      refine ops_nil ?_
                      refine run_cond_f rfl ?_
                      refine run_skip ?_
                      refine run_seq ?_
                      refine run_region ?_
                      refine ov (xmove rfl) rfl rfl rfl ?_
                      refine oc (xcall Try.call21 rfl) rfl rfl rfl (toFileS_ok _ _ _ xs0 _ (H0.ext E) hm0_ (by omega)) ?_
                      rintro _ w13 ⟨e13, q90, rfl, G90⟩
                      have z13 := e13.size
                      have E := E.trans e13
                      replace G30 := G30.ext e13
                      replace G34_0 := G34_0.ext e13
                      replace G38 := G38.ext e13
                      replace G44_0 := G44_0.ext e13
                      replace G58 := G58.ext e13
                      refine ov (xmove rfl) rfl rfl rfl ?_
                      refine ov (xmove rfl) rfl rfl rfl ?_
                      refine ov (xmove rfl) rfl rfl rfl ?_
                      refine oc (xcall Try.call27 rfl) rfl rfl rfl (SealFile_ok _ _ _ xs0 s1 k2 k3 _ (G90.sl) hx0) ?_
                      rintro _ w14 ⟨e14, q94_0, m94_0, d94_0, rfl, G94_0⟩
                      have z14 := e14.size
                      have E := E.trans e14
                      replace G30 := G30.ext e14
                      replace G34_0 := G34_0.ext e14
                      replace G38 := G38.ext e14
                      replace G44_0 := G44_0.ext e14
                      replace G58 := G58.ext e14
                      replace G90 := G90.ext e14
                      have lG94_0 := G94_0.len
                      have hl_ := sealFile_small xs0 s1 k2 k3
                      refine ov (xmove rfl) rfl rfl rfl ?_
                      refine ov (xextract rfl rfl) rfl rfl rfl ?_
                      refine ov (xextract rfl rfl) rfl rfl rfl ?_
                      refine ov (xassign rfl) rfl rfl rfl ?_
                      refine ov (xassign rfl) rfl rfl rfl ?_
                      refine ops_nil ?_
                      refine run_seq ?_
                      refine run_seq ?_
                      refine run_region ?_
                      refine ov (xmove rfl) rfl rfl rfl ?_
                      refine ov (xmove rfl) rfl rfl rfl ?_
                      refine oc (xcall Try.call23 rfl) rfl rfl rfl (eqFileS_ok _ _ _ _ _ _ _ _ _ (G94_0.sl) (G34_0.sl)) ?_
                      rintro _ w15 ⟨rfl, e15⟩
                      have z15 := e15.size
                      have E := E.trans e15
                      replace G30 := G30.ext e15
                      replace G34_0 := G34_0.ext e15
                      replace G38 := G38.ext e15
                      replace G44_0 := G44_0.ext e15
                      replace G58 := G58.ext e15
                      replace G90 := G90.ext e15
                      replace G94_0 := G94_0.ext e15
                      refine obs (fun c99 => ?_) (fun c99 => ?_)
                      ·
                        refine ov (xnot rfl) rfl rfl rfl ?_
                        refine ov (xmove rfl) rfl rfl rfl ?_
                        refine ov (xmove rfl) rfl rfl rfl ?_
                        refine ov (xmove rfl) rfl rfl rfl ?_
                        refine ov (xneq rfl rfl _ rfl) rfl rfl rfl ?_
                        refine ods (fun c104 => ?_) (fun c104 => ?_)
                        · exfalso; first | exact absurd rfl c104 | omega
                        ·
                          refine ov (xpick_f rfl rfl) rfl rfl rfl ?_
                          refine ops_nil ?_
                          refine run_cond_f rfl ?_
                          refine run_skip ?_
                          refine run_seq ?_
                          refine run_region ?_
                          refine ov (xassign rfl) rfl rfl rfl ?_
                          refine ops_nil ?_
                          refine run_seq ?_
                          refine run_region ?_
                          refine ov (xmove rfl) rfl rfl rfl ?_
                          refine ov (xmove rfl) rfl rfl rfl ?_
                          refine oc (xcall Try.call29 rfl) rfl rfl rfl (heldFileS_ok _ _ _ _ _ _ (G44_0.sl) (by omega) (by omega) (by omega) (by omega)) ?_
                          rintro _ w16 ⟨k108_, rfl, hk108_, e16⟩
                          have z16 := e16.size
                          have E := E.trans e16
                          replace G30 := G30.ext e16
                          replace G34_0 := G34_0.ext e16
                          replace G38 := G38.ext e16
                          replace G44_0 := G44_0.ext e16
                          replace G58 := G58.ext e16
                          replace G90 := G90.ext e16
                          replace G94_0 := G94_0.ext e16
                          refine ov (xassign rfl) rfl rfl rfl ?_
                          refine ops_nil ?_
                          refine run_seq ?_
                          refine run_seq ?_
                          refine run_region ?_
                          refine ov (xmove rfl) rfl rfl rfl ?_
                          refine ov (xlss rfl rfl _ rfl) rfl rfl rfl ?_
                          refine ods (fun c110 => ?_) (fun c110 => ?_)
                          · exfalso; omega
                          ·
                            refine ops_nil ?_
                            refine run_cond_f rfl ?_
                            refine run_skip ?_
                            refine run_seq ?_
                            refine run_seq ?_
                            refine run_region ?_
                            refine ov (xmove rfl) rfl rfl rfl ?_
                            refine ov (xmove rfl) rfl rfl rfl ?_
                            refine ov (xneq rfl rfl _ rfl) rfl rfl rfl ?_
                            refine ods (fun c113 => ?_) (fun c113 => ?_)
                            · exfalso; first | exact absurd rfl c113 | omega
                            ·
                              refine ops_nil ?_
                              refine run_cond_f rfl ?_
                              refine run_skip ?_
                              refine run_seq ?_
                              refine run_region ?_
                              refine ov (xassign rfl) rfl rfl rfl ?_
                              refine ops_nil ?_
                              refine run_ret Try.func6 (res1 rfl rfl) ?_
                              exact ⟨_, rfl, pv E⟩
                      · exfalso; rw [eqL_refl eqFile_refl] at c99; cases c99
              · exfalso; rw [eqL_refl eqFile_refl] at c69; cases c69
          · exfalso; rw [eqL_refl eqFile_refl] at c59; cases c59
      · exfalso; rw [eqL_refl eqFile_refl] at c49; cases c49
end Go.Proofs.Ytbihpggbabmebaa
