/-
  The walk of the law on forms. No condition beyond those written in each theorem.
-/
import Derived.Test.YtinpkihmkfiidaaFormP
import Derived.Test.YtinpkihmkfiidaaFormDraw2
namespace Go.Proofs.Ytinpkihmkfiidaa
open Go.RowKit
set_option linter.unusedVariables false
set_option linter.unusedSimpArgs false
set_option linter.unusedSectionVars false
set_option maxRecDepth 4000

set_option maxHeartbeats 400000 in
theorem likeInts_ok (p q : Option Addr) (n c m d : Nat) (xs : List Int) (w : World) (H : Sl i64c 1 w p n c xs) (K : Sl i64c 1 w q m d xs) : Ret Try.prog 69 [.slice p n c, .slice q m d] w (Pv w (.bool true)) := by
  refine ret_of_run (N := 26) Try.func69 rfl rfl rfl ?_
  have hn := H.len
  have hm := K.len
  have hn6 := H.n64
  have E : Ext w w := Ext.refl w
  refine run_seq ?_
  refine run_region ?_
  refine ov (xassign rfl) rfl rfl rfl ?_
  refine ops_nil ?_
  refine run_seq ?_
  refine run_seq ?_
  refine run_region ?_
  refine ov (xmove rfl) rfl rfl rfl ?_
  refine ov (xlen Try.underlying31 rfl) rfl rfl rfl ?_
  refine ov (xmove rfl) rfl rfl rfl ?_
  refine ov (xlen Try.underlying31 rfl) rfl rfl rfl ?_
  refine ov (xneq rfl rfl _ rfl) rfl rfl rfl ?_
  refine ods (fun c10 => ?_) (fun c10 => ?_)
  · exfalso; omega
  ·
    refine ops_nil ?_
    refine run_cond_f rfl ?_
    refine run_skip ?_
    refine run_seq ?_
    refine run_seq ?_
    refine run_region ?_
    refine ov (xassign rfl) rfl rfl rfl ?_
    refine ops_nil ?_
    refine run_block ?_
    refine run_loop (ι := Nat × World) (fun x_ => match x_ with | (k, wr) => (Ext w wr) ∧ (w.heap.size ≤ wr.heap.size) ∧ (k ≤ n)) (fun x_ => match x_ with | (k, wr) => [(0, .slice p n c), (1, .slice q m d), (5, .int .i64 (k : Int))]) (fun x_ => match x_ with | (k, wr) => wr) (fun x_ => match x_ with | (k, wr) => n - k) ?_ (0, w) (⟨E, Nat.le_refl _, by omega⟩) ⟨rfl, rfl, rfl, trivial⟩ rfl
    intro i_ hI_ hback4
    obtain ⟨k, wr⟩ := i_
    obtain ⟨E, lz_wr, hk⟩ := hI_
    try dsimp only
    have zr := E.size
    refine run_seq ?_
    refine run_seq ?_
    refine run_region ?_
    refine ov (xmove rfl) rfl rfl rfl ?_
    refine ov (xmove rfl) rfl rfl rfl ?_
    refine ov (xlen Try.underlying31 rfl) rfl rfl rfl ?_
    refine ov (xlss rfl rfl _ rfl) rfl rfl rfl ?_
    refine ods (fun c14 => ?_) (fun c14 => ?_)
    ·
      refine ops_nil ?_
      refine run_cond_t rfl ?_
      refine run_skip ?_
      refine run_seq ?_
      refine run_block ?_
      refine run_seq ?_
      refine run_draw (by kernel_rfl) (by kernel_rfl) ?_
      refine qv (fun w' x_ => xmove rfl) rfl rfl rfl ?_
      refine qv (fun w' x_ => xmove rfl) rfl rfl rfl ?_
      have h19 := (H.ext E).at (i := k) (by omega)
      refine qv (fun w' x_ => xindexN (i := k) Try.underlying31 Try.sizeOf2 rfl rfl rfl ((H.ext E).p (i := k) (by omega)) (by have := (H.ext E).len; omega)) rfl rfl rfl ?_
      refine qv (v := .int .i64 xs[k]) (fun w' x_ => xloadz Try.isAgg2 rfl ((h19).ext x_) rfl) rfl rfl rfl ?_
      refine qv (fun w' x_ => xmove rfl) rfl rfl rfl ?_
      refine qv (fun w' x_ => xmove rfl) rfl rfl rfl ?_
      have h23 := (K.ext E).at (i := k) (by omega)
      refine qv (fun w' x_ => xindexN (i := k) Try.underlying31 Try.sizeOf2 rfl rfl rfl ((K.ext E).p (i := k) (by omega)) (by have := (K.ext E).len; omega)) rfl rfl rfl ?_
      refine qv (v := .int .i64 xs[k]) (fun w' x_ => xloadz Try.isAgg2 rfl ((h23).ext x_) rfl) rfl rfl rfl ?_
      refine qv (fun w' x_ => xneq rfl rfl _ rfl) rfl rfl rfl ?_
      refine qds (fun c25 => ?_) (fun c25 => ?_)
      · exfalso; omega
      ·
        refine q_nil ?_
        intro w1 e1
        have z1 := e1.size
        have E := E.trans e1
        refine run_cond_f rfl ?_
        refine run_skip ?_
        refine run_inBlock ?_
        refine run_region ?_
        refine ov (xmove rfl) rfl rfl rfl ?_
        refine ov (xadd rfl rfl (by unfold I64; omega)) rfl rfl rfl ?_
        refine ov (xassign rfl) rfl rfl rfl ?_
        refine ops_nil ?_
        refine run_sub ?_ (hback4 (k + 1, w1) (⟨E, by omega, by omega⟩) (by first | omega | (dsimp only; omega)))
        exact ⟨rfl, rfl, rfl, trivial⟩
    ·
      refine ops_nil ?_
      refine run_cond_f rfl ?_
      refine run_exit rfl ?_
      refine run_seq ?_
      refine run_region ?_
      refine ov (xassign rfl) rfl rfl rfl ?_
      refine ops_nil ?_
      refine run_ret Try.func69 (res1 rfl rfl) ?_
      exact ⟨_, rfl, rfl, E⟩

set_option maxHeartbeats 2000000 in
theorem FnForms_ok (p : Option Addr) (n c : Nat) (bs : List Int) (w : World) (H : Sl u8c 1 w p n c bs) (hbs : ∀ x ∈ bs, 0 ≤ x ∧ x ≤ 255) : Ret Try.prog 17 [.slice p n c] w (Pv w (.bool true)) := by
  refine ret_of_run (N := 201) Try.func17 rfl rfl rfl ?_
  have hn := H.len
  have E : Ext w w := Ext.refl w
  refine run_seq ?_
  refine run_region ?_
  refine ov (xassign rfl) rfl rfl rfl ?_
  refine ops_nil ?_
  refine run_seq ?_
  refine run_seq ?_
  refine run_region ?_
  refine ov (xmove rfl) rfl rfl rfl ?_
  refine oc (xcall Try.call66 rfl) rfl rfl rfl (big_ok _ _ _ _ _ (H.ext E)) ?_
  rintro _ w1 ⟨rfl, e1⟩
  have z1 := e1.size
  have E := E.trans e1
  refine obs (fun c31 => ?_) (fun c31 => ?_)
  ·
    refine ops_nil ?_
    refine run_cond_t rfl ?_
    refine run_seq ?_
    refine run_region ?_
    refine ov (xassign rfl) rfl rfl rfl ?_
    refine ops_nil ?_
    refine run_ret Try.func17 (res1 rfl rfl) ?_
    exact ⟨_, rfl, rfl, E⟩
  ·
    refine ops_nil ?_
    refine run_cond_f rfl ?_
    refine run_skip ?_
    refine run_seq ?_
    refine run_region ?_
    refine ov (xmove rfl) rfl rfl rfl ?_
    refine oc (xcall Try.call67 rfl) rfl rfl rfl (DrawTidyAnswers_ok _ _ _ _ _ (H.ext E) (by assumption)) ?_
    rintro _ w2 ⟨e2, xs34, q34, m34, d34, az34, p34, n34, k34, rfl, ok34, F34, A34⟩
    have z2 := e2.size
    have E := E.trans e2
    have lF34 := F34.sl.len
    have lA34 := A34.sl.len
    refine ov (xmove rfl) rfl rfl rfl ?_
    refine ov (xextract rfl rfl) rfl rfl rfl ?_
    refine ov (xextract rfl rfl) rfl rfl rfl ?_
    refine ov (xassign rfl) rfl rfl rfl ?_
    refine ov (xassign rfl) rfl rfl rfl ?_
    refine ops_nil ?_
    refine run_seq ?_
    refine run_region ?_
    refine ov (xmove rfl) rfl rfl rfl ?_
    refine ov (xmove rfl) rfl rfl rfl ?_
    refine oc (xcall Try.call53 rfl) rfl rfl rfl (TidyAnswers_ok _ _ _ xs34 _ _ _ az34 _ (F34.sl) (by assumption) (A34.sl) (A34.sl).nil) ?_
    rintro _ w3 ⟨e3, q40_0, m40_0, d40_0, rfl, G40_0⟩
    have z3 := e3.size
    have E := E.trans e3
    replace F34 := F34.ext e3
    replace A34 := A34.ext e3
    have lG40_0 := G40_0.len
    refine ov (xmove rfl) rfl rfl rfl ?_
    refine ov (xextract rfl rfl) rfl rfl rfl ?_
    refine ov (xextract rfl rfl) rfl rfl rfl ?_
    refine ov (xassign rfl) rfl rfl rfl ?_
    refine ov (xassign rfl) rfl rfl rfl ?_
    refine ops_nil ?_
    refine run_seq ?_
    refine run_region ?_
    refine ov (xmove rfl) rfl rfl rfl ?_
    refine ov (xmove rfl) rfl rfl rfl ?_
    refine oc (xcall Try.call52 rfl) rfl rfl rfl (sTidyAnswers_ok _ _ _ xs34 _ _ _ az34 _ (F34.sl) (by assumption) (A34.sl)) ?_
    rintro _ w4 ⟨e4, q46_0, m46_0, d46_0, rfl, G46_0⟩
    have z4 := e4.size
    have E := E.trans e4
    replace F34 := F34.ext e4
    replace A34 := A34.ext e4
    replace G40_0 := G40_0.ext e4
    have lG46_0 := G46_0.len
    refine ov (xmove rfl) rfl rfl rfl ?_
    refine ov (xextract rfl rfl) rfl rfl rfl ?_
    refine ov (xextract rfl rfl) rfl rfl rfl ?_
    refine ov (xassign rfl) rfl rfl rfl ?_
    refine ov (xassign rfl) rfl rfl rfl ?_
    refine ops_nil ?_
    refine run_seq ?_
    refine run_region ?_
    refine ov (xmove rfl) rfl rfl rfl ?_
    refine ov (xmove rfl) rfl rfl rfl ?_
    refine oc (xcall Try.call34 rfl) rfl rfl rfl (VerdictOf_ok _ _ _ xs34 _ _ _ az34 _ (F34.sl) (by assumption) (A34.sl)) ?_
    rintro _ w5 ⟨rfl, e5⟩
    have z5 := e5.size
    have E := E.trans e5
    replace F34 := F34.ext e5
    replace A34 := A34.ext e5
    replace G40_0 := G40_0.ext e5
    replace G46_0 := G46_0.ext e5
    refine ov (xmove rfl) rfl rfl rfl ?_
    refine ov (xextract rfl rfl) rfl rfl rfl ?_
    refine ov (xextract rfl rfl) rfl rfl rfl ?_
    refine ov (xassign rfl) rfl rfl rfl ?_
    refine ov (xassign rfl) rfl rfl rfl ?_
    refine ops_nil ?_
    refine run_seq ?_
    refine run_region ?_
    refine ov (xmove rfl) rfl rfl rfl ?_
    refine ov (xmove rfl) rfl rfl rfl ?_
    refine oc (xcall Try.call32 rfl) rfl rfl rfl (sVerdictOf_ok _ _ _ xs34 _ _ _ az34 _ (F34.sl) (by assumption) (A34.sl)) ?_
    rintro _ w6 ⟨rfl, e6⟩
    have z6 := e6.size
    have E := E.trans e6
    replace F34 := F34.ext e6
    replace A34 := A34.ext e6
    replace G40_0 := G40_0.ext e6
    replace G46_0 := G46_0.ext e6
    refine ov (xmove rfl) rfl rfl rfl ?_
    refine ov (xextract rfl rfl) rfl rfl rfl ?_
    refine ov (xextract rfl rfl) rfl rfl rfl ?_
    refine ov (xassign rfl) rfl rfl rfl ?_
    refine ov (xassign rfl) rfl rfl rfl ?_
    refine ops_nil ?_
    refine run_seq ?_
    refine run_region ?_
    refine ov (xmove rfl) rfl rfl rfl ?_
    refine ov (xmove rfl) rfl rfl rfl ?_
    refine oc (xcall Try.call42 rfl) rfl rfl rfl (WayOf_ok _ _ _ xs34 _ _ _ az34 _ (F34.sl) (by assumption) (A34.sl)) ?_
    rintro _ w7 ⟨e7, q64_0, m64_0, d64_0, rfl, G64_0⟩
    have z7 := e7.size
    have E := E.trans e7
    replace F34 := F34.ext e7
    replace A34 := A34.ext e7
    replace G40_0 := G40_0.ext e7
    replace G46_0 := G46_0.ext e7
    have lG64_0 := G64_0.len
    have hwl64 := wayOf_len xs34 az34
    refine ov (xmove rfl) rfl rfl rfl ?_
    refine ov (xextract rfl rfl) rfl rfl rfl ?_
    refine ov (xextract rfl rfl) rfl rfl rfl ?_
    refine ov (xassign rfl) rfl rfl rfl ?_
    refine ov (xassign rfl) rfl rfl rfl ?_
    refine ops_nil ?_
    refine run_seq ?_
    refine run_region ?_
    refine ov (xmove rfl) rfl rfl rfl ?_
    refine ov (xmove rfl) rfl rfl rfl ?_
    refine oc (xcall Try.call41 rfl) rfl rfl rfl (sWayOf_ok _ _ _ xs34 _ _ _ az34 _ (F34.sl) (by assumption) (A34.sl)) ?_
    rintro _ w8 ⟨e8, q70_0, m70_0, d70_0, rfl, G70_0⟩
    have z8 := e8.size
    have E := E.trans e8
    replace F34 := F34.ext e8
    replace A34 := A34.ext e8
    replace G40_0 := G40_0.ext e8
    replace G46_0 := G46_0.ext e8
    replace G64_0 := G64_0.ext e8
    have lG70_0 := G70_0.len
    have hwl70 := wayOf_len xs34 az34
    refine ov (xmove rfl) rfl rfl rfl ?_
    refine ov (xextract rfl rfl) rfl rfl rfl ?_
    refine ov (xextract rfl rfl) rfl rfl rfl ?_
    refine ov (xassign rfl) rfl rfl rfl ?_
    refine ov (xassign rfl) rfl rfl rfl ?_
    refine ops_nil ?_
    refine run_seq ?_
    refine run_region ?_
    refine ov (xmove rfl) rfl rfl rfl ?_
    refine oc (xcall Try.call68 rfl) rfl rfl rfl (DrawIsTidy_ok _ _ _ _ _ (H.ext E) (by assumption)) ?_
    rintro _ w9 ⟨e9, xs75, q75, m75, d75, az75, p75, n75, k75, rfl, ok75, F75, A75⟩
    have z9 := e9.size
    have E := E.trans e9
    replace F34 := F34.ext e9
    replace A34 := A34.ext e9
    replace G40_0 := G40_0.ext e9
    replace G46_0 := G46_0.ext e9
    replace G64_0 := G64_0.ext e9
    replace G70_0 := G70_0.ext e9
    have lF75 := F75.sl.len
    have lA75 := A75.sl.len
    refine ov (xmove rfl) rfl rfl rfl ?_
    refine ov (xextract rfl rfl) rfl rfl rfl ?_
    refine ov (xextract rfl rfl) rfl rfl rfl ?_
    refine ov (xassign rfl) rfl rfl rfl ?_
    refine ov (xassign rfl) rfl rfl rfl ?_
    refine ops_nil ?_
    refine run_seq ?_
    refine run_region ?_
    refine ov (xmove rfl) rfl rfl rfl ?_
    refine ov (xmove rfl) rfl rfl rfl ?_
    refine oc (xcall Try.call49 rfl) rfl rfl rfl (IsTidy_ok _ _ _ xs75 _ _ _ az75 _ (F75.sl) (by assumption) (A75.sl) (A75.sl).nil) ?_
    rintro _ w10 ⟨rfl, e10⟩
    have z10 := e10.size
    have E := E.trans e10
    replace F34 := F34.ext e10
    replace A34 := A34.ext e10
    replace G40_0 := G40_0.ext e10
    replace G46_0 := G46_0.ext e10
    replace G64_0 := G64_0.ext e10
    replace G70_0 := G70_0.ext e10
    replace F75 := F75.ext e10
    replace A75 := A75.ext e10
    refine ov (xmove rfl) rfl rfl rfl ?_
    refine ov (xextract rfl rfl) rfl rfl rfl ?_
    refine ov (xextract rfl rfl) rfl rfl rfl ?_
    refine ov (xassign rfl) rfl rfl rfl ?_
    refine ov (xassign rfl) rfl rfl rfl ?_
    refine ops_nil ?_
    refine run_seq ?_
    refine run_region ?_
    refine ov (xmove rfl) rfl rfl rfl ?_
    refine ov (xmove rfl) rfl rfl rfl ?_
    refine oc (xcall Try.call48 rfl) rfl rfl rfl (sIsTidy_ok _ _ _ xs75 _ _ _ az75 _ (F75.sl) (by assumption) (A75.sl)) ?_
    rintro _ w11 ⟨rfl, e11⟩
    have z11 := e11.size
    have E := E.trans e11
    replace F34 := F34.ext e11
    replace A34 := A34.ext e11
    replace G40_0 := G40_0.ext e11
    replace G46_0 := G46_0.ext e11
    replace G64_0 := G64_0.ext e11
    replace G70_0 := G70_0.ext e11
    replace F75 := F75.ext e11
    replace A75 := A75.ext e11
    refine ov (xmove rfl) rfl rfl rfl ?_
    refine ov (xextract rfl rfl) rfl rfl rfl ?_
    refine ov (xextract rfl rfl) rfl rfl rfl ?_
    refine ov (xassign rfl) rfl rfl rfl ?_
    refine ov (xassign rfl) rfl rfl rfl ?_
    refine ops_nil ?_
    refine run_seq ?_
    refine run_seq ?_
    refine run_region ?_
    refine ov (xmove rfl) rfl rfl rfl ?_
    refine ov (xmove rfl) rfl rfl rfl ?_
    refine ov (xneq rfl rfl _ rfl) rfl rfl rfl ?_
    refine ods (fun c92 => ?_) (fun c92 => ?_)
    · exfalso; exact absurd rfl c92
    ·
      refine ov (xmove rfl) rfl rfl rfl ?_
      refine ov (xmove rfl) rfl rfl rfl ?_
      refine ov (xmove rfl) rfl rfl rfl ?_
      refine oc (xcall Try.call69 rfl) rfl rfl rfl (likeInts_ok _ _ _ _ _ _ _ _ (G40_0.sl) (G46_0.sl)) ?_
      rintro _ w12 ⟨rfl, e12⟩
      have z12 := e12.size
      have E := E.trans e12
      replace F34 := F34.ext e12
      replace A34 := A34.ext e12
      replace G40_0 := G40_0.ext e12
      replace G46_0 := G46_0.ext e12
      replace G64_0 := G64_0.ext e12
      replace G70_0 := G70_0.ext e12
      replace F75 := F75.ext e12
      replace A75 := A75.ext e12
      refine obs (fun c96 => ?_) (fun c96 => ?_)
      ·
        refine ov (xnot rfl) rfl rfl rfl ?_
        refine ov (xpick_f rfl rfl) rfl rfl rfl ?_
        refine ov (xmove rfl) rfl rfl rfl ?_
        refine ov (xmove rfl) rfl rfl rfl ?_
        refine ov (xmove rfl) rfl rfl rfl ?_
        refine ov (xneq rfl rfl _ rfl) rfl rfl rfl ?_
        refine ods (fun c102 => ?_) (fun c102 => ?_)
        · exfalso; exact absurd rfl c102
        ·
          refine ov (xpick_f rfl rfl) rfl rfl rfl ?_
          refine ov (xmove rfl) rfl rfl rfl ?_
          refine ov (xmove rfl) rfl rfl rfl ?_
          refine ov (xmove rfl) rfl rfl rfl ?_
          refine ov (xneq rfl rfl _ rfl) rfl rfl rfl ?_
          refine ods (fun c107 => ?_) (fun c107 => ?_)
          · exfalso; exact absurd rfl c107
          ·
            refine ov (xpick_f rfl rfl) rfl rfl rfl ?_
            refine ov (xmove rfl) rfl rfl rfl ?_
            refine ov (xmove rfl) rfl rfl rfl ?_
            refine ov (xmove rfl) rfl rfl rfl ?_
            refine ov (xneq rfl rfl _ rfl) rfl rfl rfl ?_
            refine ods (fun c112 => ?_) (fun c112 => ?_)
            · exfalso; exact absurd rfl c112
            ·
              refine ov (xpick_f rfl rfl) rfl rfl rfl ?_
              refine ov (xmove rfl) rfl rfl rfl ?_
              refine ov (xmove rfl) rfl rfl rfl ?_
              refine ov (xmove rfl) rfl rfl rfl ?_
              refine oc (xcall Try.call69 rfl) rfl rfl rfl (likeInts_ok _ _ _ _ _ _ _ _ (G64_0.sl) (G70_0.sl)) ?_
              rintro _ w13 ⟨rfl, e13⟩
              have z13 := e13.size
              have E := E.trans e13
              replace F34 := F34.ext e13
              replace A34 := A34.ext e13
              replace G40_0 := G40_0.ext e13
              replace G46_0 := G46_0.ext e13
              replace G64_0 := G64_0.ext e13
              replace G70_0 := G70_0.ext e13
              replace F75 := F75.ext e13
              replace A75 := A75.ext e13
              refine obs (fun c117 => ?_) (fun c117 => ?_)
              ·
                refine ov (xnot rfl) rfl rfl rfl ?_
                refine ov (xpick_f rfl rfl) rfl rfl rfl ?_
                refine ov (xmove rfl) rfl rfl rfl ?_
                refine ov (xmove rfl) rfl rfl rfl ?_
                refine ov (xmove rfl) rfl rfl rfl ?_
                refine ov (xneq rfl rfl _ rfl) rfl rfl rfl ?_
                refine ods (fun c123 => ?_) (fun c123 => ?_)
                · exfalso; exact absurd rfl c123
                ·
                  refine ov (xpick_f rfl rfl) rfl rfl rfl ?_
                  refine ov (xmove rfl) rfl rfl rfl ?_
                  refine ov (xmove rfl) rfl rfl rfl ?_
                  refine ov (xmove rfl) rfl rfl rfl ?_
                  refine ov (xbneq Try.underlying4 rfl rfl) rfl rfl rfl ?_
                  refine ods (fun c128 => ?_) (fun c128 => ?_)
                  · exfalso; exact absurd rfl c128
                  ·
                    refine ov (xpick_f rfl rfl) rfl rfl rfl ?_
                    refine ov (xmove rfl) rfl rfl rfl ?_
                    refine ov (xmove rfl) rfl rfl rfl ?_
                    refine oc (xcall Try.call28 rfl) rfl rfl rfl (IsForm_ok _ _ _ xs75 _ (F75.sl) (by assumption)) ?_
                    rintro _ w14 ⟨rfl, e14⟩
                    have z14 := e14.size
                    have E := E.trans e14
                    replace F34 := F34.ext e14
                    replace A34 := A34.ext e14
                    replace G40_0 := G40_0.ext e14
                    replace G46_0 := G46_0.ext e14
                    replace G64_0 := G64_0.ext e14
                    replace G70_0 := G70_0.ext e14
                    replace F75 := F75.ext e14
                    replace A75 := A75.ext e14
                    refine ov (xmove rfl) rfl rfl rfl ?_
                    refine oc (xcall Try.call26 rfl) rfl rfl rfl (sIsForm_ok _ _ _ xs75 _ (F75.sl) (by assumption)) ?_
                    rintro _ w15 ⟨rfl, e15⟩
                    have z15 := e15.size
                    have E := E.trans e15
                    replace F34 := F34.ext e15
                    replace A34 := A34.ext e15
                    replace G40_0 := G40_0.ext e15
                    replace G46_0 := G46_0.ext e15
                    replace G64_0 := G64_0.ext e15
                    replace G70_0 := G70_0.ext e15
                    replace F75 := F75.ext e15
                    replace A75 := A75.ext e15
                    refine ov (xbneq Try.underlying4 rfl rfl) rfl rfl rfl ?_
                    refine ods (fun c135 => ?_) (fun c135 => ?_)
                    · exfalso; exact absurd rfl c135
                    ·
                      refine ov (xpick_f rfl rfl) rfl rfl rfl ?_
                      refine ov (xmove rfl) rfl rfl rfl ?_
                      refine ov (xmove rfl) rfl rfl rfl ?_
                      refine ov (xmove rfl) rfl rfl rfl ?_
                      refine ov (xneq rfl rfl _ rfl) rfl rfl rfl ?_
                      refine ods (fun c140 => ?_) (fun c140 => ?_)
                      · exfalso; rw [tidyAnswers_code] at c140; exact absurd rfl c140
                      ·
                        refine ov (xpick_f rfl rfl) rfl rfl rfl ?_
                        refine ops_nil ?_
                        refine run_cond_f rfl ?_
                        refine run_skip ?_
                        refine run_seq ?_
                        refine run_seq ?_
                        refine run_region ?_
                        refine ov (xassign rfl) rfl rfl rfl ?_
                        refine ops_nil ?_
                        refine run_block ?_
                        refine run_loop (ι := Nat × World) (fun x_ => match x_ with | (k, wr) => (Ext w wr) ∧ (SlF Question.cells 3 wr w1.heap.size w2.heap.size q34 m34 d34 xs34) ∧ (Ow i64c 1 2 wr w2.heap.size w3.heap.size q40_0 m40_0 d40_0 (tidyAnswers xs34 az34).1) ∧ (Ow i64c 1 2 wr w6.heap.size w7.heap.size q64_0 m64_0 d64_0 (wayOf xs34 az34).1) ∧ (w15.heap.size ≤ wr.heap.size) ∧ (1 ≤ k)) (fun x_ => match x_ with | (k, wr) => [(3, .slice q34 m34 d34), (5, .slice q40_0 m40_0 d40_0), (6, .int .i64 (tidyAnswers xs34 az34).2), (9, .int .i64 (verdictOf xs34 az34).1), (13, .slice q64_0 m64_0 d64_0), (23, .int .i64 (k : Int))]) (fun x_ => match x_ with | (k, wr) => wr) (fun x_ => match x_ with | (k, wr) => m64_0 - k) ?_ (1, w15) (⟨E, F34, G40_0, G64_0, Nat.le_refl _, by omega⟩) ⟨rfl, rfl, rfl, rfl, rfl, rfl, trivial⟩ rfl
                        intro i_ hI_ hback16
                        obtain ⟨k, wr⟩ := i_
                        obtain ⟨E, F34, G40_0, G64_0, lz_wr, hk⟩ := hI_
                        try dsimp only
                        have zr := E.size
                        refine run_seq ?_
                        refine run_seq ?_
                        refine run_region ?_
                        refine ov (xmove rfl) rfl rfl rfl ?_
                        refine ov (xmove rfl) rfl rfl rfl ?_
                        refine ov (xlen Try.underlying31 rfl) rfl rfl rfl ?_
                        refine ov (xlss rfl rfl _ rfl) rfl rfl rfl ?_
                        refine ods (fun c145 => ?_) (fun c145 => ?_)
                        ·
                          refine ops_nil ?_
                          refine run_cond_t rfl ?_
                          refine run_skip ?_
                          refine run_seq ?_
                          refine run_block ?_
                          refine run_seq ?_
                          refine run_draw (by kernel_rfl) (by kernel_rfl) ?_
                          refine qv (fun w' x_ => xmove rfl) rfl rfl rfl ?_
                          refine qv (fun w' x_ => xmove rfl) rfl rfl rfl ?_
                          have h150 := (G64_0.sl).at (i := k) (by omega)
                          refine qv (fun w' x_ => xindexN (i := k) Try.underlying31 Try.sizeOf2 rfl rfl rfl ((G64_0.sl).p (i := k) (by omega)) (by have := (G64_0.sl).len; omega)) rfl rfl rfl ?_
                          refine qv (v := .int .i64 (wayOf xs34 az34).1[k]) (fun w' x_ => xloadz Try.isAgg2 rfl ((h150).ext x_) rfl) rfl rfl rfl ?_
                          refine qv (fun w' x_ => xmove rfl) rfl rfl rfl ?_
                          refine qv (fun w' x_ => xmove rfl) rfl rfl rfl ?_
                          refine qv (fun w' x_ => xsub rfl rfl (by unfold I64; omega)) rfl rfl rfl ?_
                          have h155 := (G64_0.sl).at (i := (k - 1)) (by omega)
                          refine qv (fun w' x_ => xindexN (i := (k - 1)) Try.underlying31 Try.sizeOf2 rfl rfl (by omega) ((G64_0.sl).p (i := (k - 1)) (by omega)) (by have := (G64_0.sl).len; omega)) rfl rfl rfl ?_
                          refine qv (v := .int .i64 (wayOf xs34 az34).1[(k - 1)]) (fun w' x_ => xloadz Try.isAgg2 rfl ((h155).ext x_) rfl) rfl rfl rfl ?_
                          refine qv (fun w' x_ => xleq rfl rfl _ rfl) rfl rfl rfl ?_
                          refine qds (fun c157 => ?_) (fun c157 => ?_)
                          · exfalso; have := wayOf_incr xs34 az34 (k := k) (by omega) (by omega); omega
                          ·
                            refine q_nil ?_
                            intro w16 e16
                            have z16 := e16.size
                            have E := E.trans e16
                            replace F34 := F34.ext e16
                            replace G40_0 := G40_0.ext e16
                            replace G64_0 := G64_0.ext e16
                            refine run_cond_f rfl ?_
                            refine run_skip ?_
                            refine run_inBlock ?_
                            refine run_region ?_
                            refine ov (xmove rfl) rfl rfl rfl ?_
                            refine ov (xadd rfl rfl (by unfold I64; omega)) rfl rfl rfl ?_
                            refine ov (xassign rfl) rfl rfl rfl ?_
                            refine ops_nil ?_
                            refine run_sub ?_ (hback16 (k + 1, w16) (⟨E, F34, G40_0, G64_0, by omega, by omega⟩) (by first | omega | (dsimp only; omega)))
                            exact ⟨rfl, rfl, rfl, rfl, rfl, rfl, trivial⟩
                        ·
                          refine ops_nil ?_
                          refine run_cond_f rfl ?_
                          refine run_exit rfl ?_
                          refine run_seq ?_
                          refine run_seq ?_
                          refine run_region ?_
                          refine ov (xmove rfl) rfl rfl rfl ?_
                          refine ov (xneq rfl rfl _ rfl) rfl rfl rfl ?_
                          refine ods (fun c159 => ?_) (fun c159 => ?_)
                          ·
                            refine ops_nil ?_
                            refine run_cond_t rfl ?_
                            refine run_seq ?_
                            refine run_region ?_
                            refine ov (xassign rfl) rfl rfl rfl ?_
                            refine ops_nil ?_
                            refine run_ret Try.func17 (res1 rfl rfl) ?_
                            exact ⟨_, rfl, rfl, E⟩
                          ·
                            have hv0 : (verdictOf xs34 az34).2 = 0 := by rw [← tidyAnswers_code]; omega
                            obtain ⟨k1, k2, k3, k4⟩ := tidy_keeps hv0
                            replace k2 : isTidy xs34 (tidyAnswers xs34 az34).1 = (true, 0) := by rw [k1]; exact k2
                            replace k3 : verdictOf xs34 (tidyAnswers xs34 az34).1 = verdictOf xs34 az34 := by rw [k1]; exact k3
                            replace k4 : wayOf xs34 (tidyAnswers xs34 az34).1 = wayOf xs34 az34 := by rw [k1]; exact k4
                            have hw0 : (wayOf xs34 az34).2 = 0 := by rw [wayOf, if_neg (by rw [verdictOf_code hv0]; simp)]
                            refine ops_nil ?_
                            refine run_cond_f rfl ?_
                            refine run_skip ?_
                            refine run_seq ?_
                            refine run_region ?_
                            refine ov (xmove rfl) rfl rfl rfl ?_
                            refine ov (xmove rfl) rfl rfl rfl ?_
                            refine oc (xcall Try.call49 rfl) rfl rfl rfl (IsTidy_ok _ _ _ xs34 _ _ _ (tidyAnswers xs34 az34).1 _ (F34.sl) (by assumption) (G40_0.sl) (ow_nil G40_0)) ?_
                            rintro _ w16 ⟨rfl, e16⟩
                            have z16 := e16.size
                            have E := E.trans e16
                            replace F34 := F34.ext e16
                            replace G40_0 := G40_0.ext e16
                            replace G64_0 := G64_0.ext e16
                            refine ov (xmove rfl) rfl rfl rfl ?_
                            refine ov (xextract rfl rfl) rfl rfl rfl ?_
                            refine obs (fun c164 => ?_) (fun c164 => ?_)
                            ·
                              refine ov (xextract rfl rfl) rfl rfl rfl ?_
                              refine ov (xassign rfl) rfl rfl rfl ?_
                              refine ov (xassign rfl) rfl rfl rfl ?_
                              refine ops_nil ?_
                              refine run_seq ?_
                              refine run_region ?_
                              refine ov (xmove rfl) rfl rfl rfl ?_
                              refine ov (xmove rfl) rfl rfl rfl ?_
                              refine oc (xcall Try.call34 rfl) rfl rfl rfl (VerdictOf_ok _ _ _ xs34 _ _ _ (tidyAnswers xs34 az34).1 _ (F34.sl) (by assumption) (G40_0.sl)) ?_
                              rintro _ w17 ⟨rfl, e17⟩
                              have z17 := e17.size
                              have E := E.trans e17
                              replace F34 := F34.ext e17
                              replace G40_0 := G40_0.ext e17
                              replace G64_0 := G64_0.ext e17
                              refine ov (xmove rfl) rfl rfl rfl ?_
                              refine ov (xextract rfl rfl) rfl rfl rfl ?_
                              refine ov (xextract rfl rfl) rfl rfl rfl ?_
                              refine ov (xassign rfl) rfl rfl rfl ?_
                              refine ov (xassign rfl) rfl rfl rfl ?_
                              refine ops_nil ?_
                              refine run_seq ?_
                              refine run_region ?_
                              refine ov (xmove rfl) rfl rfl rfl ?_
                              refine ov (xmove rfl) rfl rfl rfl ?_
                              refine oc (xcall Try.call42 rfl) rfl rfl rfl (WayOf_ok _ _ _ xs34 _ _ _ (tidyAnswers xs34 az34).1 _ (F34.sl) (by assumption) (G40_0.sl)) ?_
                              rintro _ w18 ⟨e18, q175_0, m175_0, d175_0, rfl, G175_0⟩
                              have z18 := e18.size
                              have E := E.trans e18
                              replace F34 := F34.ext e18
                              replace G40_0 := G40_0.ext e18
                              replace G64_0 := G64_0.ext e18
                              have lG175_0 := G175_0.len
                              have hwl175 := wayOf_len xs34 (tidyAnswers xs34 az34).1
                              refine ov (xmove rfl) rfl rfl rfl ?_
                              refine ov (xextract rfl rfl) rfl rfl rfl ?_
                              refine ov (xextract rfl rfl) rfl rfl rfl ?_
                              refine ov (xassign rfl) rfl rfl rfl ?_
                              refine ov (xassign rfl) rfl rfl rfl ?_
                              refine ops_nil ?_
                              refine run_seq ?_
                              refine run_region ?_
                              refine ov (xmove rfl) rfl rfl rfl ?_
                              refine ov (xeql rfl rfl _ rfl) rfl rfl rfl ?_
                              refine ods (fun c179 => ?_) (fun c179 => ?_)
                              ·
                                refine ov (xmove rfl) rfl rfl rfl ?_
                                refine ov (xmove rfl) rfl rfl rfl ?_
                                refine ov (xpick_t rfl rfl) rfl rfl rfl ?_
                                refine ov (xmove rfl) rfl rfl rfl ?_
                                refine ov (xmove rfl) rfl rfl rfl ?_
                                refine ov (xeql rfl rfl _ rfl) rfl rfl rfl ?_
                                refine ods (fun c185 => ?_) (fun c185 => ?_)
                                ·
                                  refine ov (xpick_t rfl rfl) rfl rfl rfl ?_
                                  refine ov (xmove rfl) rfl rfl rfl ?_
                                  refine ov (xmove rfl) rfl rfl rfl ?_
                                  refine ov (xmove rfl) rfl rfl rfl ?_
                                  refine ov (xeql rfl rfl _ rfl) rfl rfl rfl ?_
                                  refine ods (fun c190 => ?_) (fun c190 => ?_)
                                  ·
                                    refine ov (xpick_t rfl rfl) rfl rfl rfl ?_
                                    refine ov (xmove rfl) rfl rfl rfl ?_
                                    refine ov (xmove rfl) rfl rfl rfl ?_
                                    refine ov (xeql rfl rfl _ rfl) rfl rfl rfl ?_
                                    refine ods (fun c194 => ?_) (fun c194 => ?_)
                                    ·
                                      refine ov (xpick_t rfl rfl) rfl rfl rfl ?_
                                      refine ov (xmove rfl) rfl rfl rfl ?_
                                      refine ov (xmove rfl) rfl rfl rfl ?_
                                      refine ov (xmove rfl) rfl rfl rfl ?_
                                      rw [k4] at G175_0
                                      refine oc (xcall Try.call69 rfl) rfl rfl rfl (likeInts_ok _ _ _ _ _ _ _ _ (G175_0.sl) (G64_0.sl)) ?_
                                      rintro _ w19 ⟨rfl, e19⟩
                                      have z19 := e19.size
                                      have E := E.trans e19
                                      replace F34 := F34.ext e19
                                      replace G40_0 := G40_0.ext e19
                                      replace G64_0 := G64_0.ext e19
                                      replace G175_0 := G175_0.ext e19
                                      refine ov (xpick_t rfl rfl) rfl rfl rfl ?_
                                      refine ov (xassign rfl) rfl rfl rfl ?_
                                      refine ops_nil ?_
                                      refine run_ret Try.func17 (res1 rfl rfl) ?_
                                      exact ⟨_, rfl, rfl, E⟩
                                    · exfalso; exact c194 (by rw [k4]; exact hw0)
                                  · exfalso; exact c190 (by rw [k3])
                                · exfalso; exact c185 (by rw [k3, hv0])
                              · exfalso; exact c179 (by rw [k2])
                            · exfalso; rw [k2] at c164; cases c164
              · exfalso; cases c117
      · exfalso; cases c96
end Go.Proofs.Ytinpkihmkfiidaa
