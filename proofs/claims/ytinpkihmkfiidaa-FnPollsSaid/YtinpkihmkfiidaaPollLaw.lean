/-
  The law on polls: the walk. No condition beyond those written in each theorem.
-/
import Derived.Test.YtinpkihmkfiidaaPollDraw2
import Derived.Test.YtinpkihmkfiidaaPollP
import Derived.Test.YtinpkihmkfiidaaFormLaw
import Derived.Test.YtinpkihmkfiidaaPolls3
namespace Go.Proofs.Ytinpkihmkfiidaa
open Go.RowKit
set_option linter.unusedVariables false
set_option linter.unusedSimpArgs false
set_option linter.unusedSectionVars false
set_option maxRecDepth 4000

set_option maxHeartbeats 4000000 in
theorem FnPolls_ok (p : Option Addr) (n c : Nat) (bs : List Int) (w : World) (H : Sl u8c 1 w p n c bs) (hbs : ∀ x ∈ bs, 0 ≤ x ∧ x ≤ 255) : Ret Try.prog 21 [.slice p n c] w (Pv w (.bool true)) := by
  refine ret_of_run (N := 212) Try.func21 rfl rfl rfl ?_
  have hn := H.len
  have E : Ext w w := Ext.refl w
  refine run_seq ?_
  refine run_region ?_
  refine ov (xassign rfl) rfl rfl rfl ?_
  refine ops_nil ?_
  refine run_seq ?_
  refine run_seq ?_
  refine run_region ?_
  refine ov (xmove rfl) rfl rfl rfl ?_
  refine oc (xcall Try.call66 rfl) rfl rfl rfl (big_ok _ _ _ _ _ (H.ext E)) ?_
  rintro _ w1 ⟨rfl, e1⟩
  have z1 := e1.size
  have E := E.trans e1
  refine obs (fun c28 => ?_) (fun c28 => ?_)
  ·
    refine ops_nil ?_
    refine run_cond_t rfl ?_
    refine run_seq ?_
    refine run_region ?_
    refine ov (xassign rfl) rfl rfl rfl ?_
    refine ops_nil ?_
    refine run_ret Try.func21 (res1 rfl rfl) ?_
    first | exact ⟨_, rfl, rfl, E⟩ | exact ⟨_, rfl, by rw [decide_eq_true (y2.resolve_left (by omega))], E⟩
  ·
    refine ops_nil ?_
    refine run_cond_f rfl ?_
    refine run_skip ?_
    refine run_seq ?_
    refine run_region ?_
    refine ov (xmove rfl) rfl rfl rfl ?_
    refine oc (xcall Try.call78 rfl) rfl rfl rfl (DrawHungOn_ok _ _ _ _ _ (H.ext E) (by assumption)) ?_
    rintro _ w2 ⟨e2, xs31, q31, m31, d31, vs31, nd31, p31, n31, k31, rfl, ok31, hm31, F31, V31, hn31⟩
    have z2 := e2.size
    have E := E.trans e2
    have lF31 := F31.sl.len
    have lV31 := V31.len
    refine ov (xmove rfl) rfl rfl rfl ?_
    refine ov (xextract rfl rfl) rfl rfl rfl ?_
    refine ov (xextract rfl rfl) rfl rfl rfl ?_
    refine oalloc Try.zeroValue41 rfl rfl ?_
    intro b3 w3 e3 hb3 hz3 O3
    have E := E.trans e3
    replace F31 := F31.ext e3
    replace V31 := V31.ext e3
    replace O3 : Own w3 b3 [.int .i64 0, .slice none 0 0] 41 := O3
    refine ov (xassign rfl) rfl rfl rfl ?_
    refine ostoreN (vs := _) Try.sizeOf41 rfl rfl O3 rfl (by simp) (by simp [Value.oneCell']) rfl ?_
    intro w4 on4 O4
    have hz4 := on4.size
    have E := on4.ext E (by omega)
    replace F31 := F31.only on4 (by omega)
    replace V31 := V31.only on4 (by omega)
    replace O4 : Own w4 b3 [.int .i64 nd31, .slice p31 n31 k31] 41 := O4
    refine ops_nil ?_
    refine run_seq ?_
    refine run_region ?_
    refine ov (xmove rfl) rfl rfl rfl ?_
    refine ov (v := .agg #[.int .i64 nd31, .slice p31 n31 k31]) (xloadN Try.isAgg41 Try.sizeOf41 rfl (O4.cells) rfl) rfl rfl rfl ?_
    refine oc (xcall Try.call57 rfl) rfl rfl rfl (HungOn_ok _ _ _ xs31 nd31 vs31 _ _ _ _ (F31.sl) (by assumption) (V31.sl).sn) ?_
    rintro _ w5 ⟨rfl, e5⟩
    have z5 := e5.size
    have E := E.trans e5
    replace F31 := F31.ext e5
    replace V31 := V31.ext e5
    replace O4 := O4.ext e5
    refine ov (xmove rfl) rfl rfl rfl ?_
    refine ov (xextract rfl rfl) rfl rfl rfl ?_
    refine ov (xextract rfl rfl) rfl rfl rfl ?_
    refine ov (xassign rfl) rfl rfl rfl ?_
    refine ov (xassign rfl) rfl rfl rfl ?_
    refine ops_nil ?_
    refine run_seq ?_
    refine run_region ?_
    refine ov (xmove rfl) rfl rfl rfl ?_
    refine ov (v := .agg #[.int .i64 nd31, .slice p31 n31 k31]) (xloadN Try.isAgg41 Try.sizeOf41 rfl (O4.cells) rfl) rfl rfl rfl ?_
    refine oc (xcall Try.call56 rfl) rfl rfl rfl (sHungOn_ok _ _ _ xs31 nd31 vs31 _ _ _ _ (F31.sl) (by assumption) (V31.sl).sn) ?_
    rintro _ w6 ⟨rfl, e6⟩
    have z6 := e6.size
    have E := E.trans e6
    replace F31 := F31.ext e6
    replace V31 := V31.ext e6
    replace O4 := O4.ext e6
    refine ov (xmove rfl) rfl rfl rfl ?_
    refine ov (xextract rfl rfl) rfl rfl rfl ?_
    refine ov (xextract rfl rfl) rfl rfl rfl ?_
    refine ov (xassign rfl) rfl rfl rfl ?_
    refine ov (xassign rfl) rfl rfl rfl ?_
    refine ops_nil ?_
    refine run_seq ?_
    refine run_region ?_
    refine ov (xmove rfl) rfl rfl rfl ?_
    refine ov (v := .agg #[.int .i64 nd31, .slice p31 n31 k31]) (xloadN Try.isAgg41 Try.sizeOf41 rfl (O4.cells) rfl) rfl rfl rfl ?_
    refine oc (xcall Try.call71 rfl) rfl rfl rfl (PollVerdict_ok _ _ _ xs31 nd31 vs31 _ _ _ _ (F31.sl) (by assumption) (V31.sl).sn) ?_
    rintro _ w7 ⟨rfl, e7⟩
    have z7 := e7.size
    have E := E.trans e7
    replace F31 := F31.ext e7
    replace V31 := V31.ext e7
    replace O4 := O4.ext e7
    refine ov (xmove rfl) rfl rfl rfl ?_
    refine ov (xextract rfl rfl) rfl rfl rfl ?_
    refine ov (xextract rfl rfl) rfl rfl rfl ?_
    refine ov (xassign rfl) rfl rfl rfl ?_
    refine ov (xassign rfl) rfl rfl rfl ?_
    refine ops_nil ?_
    refine run_seq ?_
    refine run_region ?_
    refine ov (xmove rfl) rfl rfl rfl ?_
    refine ov (v := .agg #[.int .i64 nd31, .slice p31 n31 k31]) (xloadN Try.isAgg41 Try.sizeOf41 rfl (O4.cells) rfl) rfl rfl rfl ?_
    refine oc (xcall Try.call70 rfl) rfl rfl rfl (sPollVerdict_ok _ _ _ xs31 nd31 vs31 _ _ _ _ (F31.sl) (by assumption) (V31.sl).sn) ?_
    rintro _ w8 ⟨rfl, e8⟩
    have z8 := e8.size
    have E := E.trans e8
    replace F31 := F31.ext e8
    replace V31 := V31.ext e8
    replace O4 := O4.ext e8
    refine ov (xmove rfl) rfl rfl rfl ?_
    refine ov (xextract rfl rfl) rfl rfl rfl ?_
    refine ov (xextract rfl rfl) rfl rfl rfl ?_
    refine ov (xassign rfl) rfl rfl rfl ?_
    refine ov (xassign rfl) rfl rfl rfl ?_
    refine ops_nil ?_
    refine run_seq ?_
    refine run_region ?_
    refine ov (xmove rfl) rfl rfl rfl ?_
    refine ov (v := .agg #[.int .i64 nd31, .slice p31 n31 k31]) (xloadN Try.isAgg41 Try.sizeOf41 rfl (O4.cells) rfl) rfl rfl rfl ?_
    refine oc (xcall Try.call61 rfl) rfl rfl rfl (AnswersOf_ok _ _ _ xs31 nd31 vs31 _ _ _ _ (F31.sl) (by assumption) (V31.sl).sn) ?_
    rintro _ w9 ⟨e9, q61_0, m61_0, d61_0, rfl, G61_0⟩
    have z9 := e9.size
    have E := E.trans e9
    replace F31 := F31.ext e9
    replace V31 := V31.ext e9
    replace O4 := O4.ext e9
    have lG61_0 := G61_0.len
    have hal61 := answersOf_len xs31 nd31 vs31
    refine ov (xmove rfl) rfl rfl rfl ?_
    refine ov (xextract rfl rfl) rfl rfl rfl ?_
    refine ov (xextract rfl rfl) rfl rfl rfl ?_
    refine ov (xassign rfl) rfl rfl rfl ?_
    refine ov (xassign rfl) rfl rfl rfl ?_
    refine ops_nil ?_
    refine run_seq ?_
    refine run_region ?_
    refine ov (xmove rfl) rfl rfl rfl ?_
    refine ov (v := .agg #[.int .i64 nd31, .slice p31 n31 k31]) (xloadN Try.isAgg41 Try.sizeOf41 rfl (O4.cells) rfl) rfl rfl rfl ?_
    refine oc (xcall Try.call60 rfl) rfl rfl rfl (sAnswersOf_ok _ _ _ xs31 nd31 vs31 _ _ _ _ (F31.sl) (by assumption) (V31.sl).sn) ?_
    rintro _ w10 ⟨e10, q67_0, m67_0, d67_0, rfl, G67_0⟩
    have z10 := e10.size
    have E := E.trans e10
    replace F31 := F31.ext e10
    replace V31 := V31.ext e10
    replace G61_0 := G61_0.ext e10
    replace O4 := O4.ext e10
    have lG67_0 := G67_0.len
    have hal67 := answersOf_len xs31 nd31 vs31
    refine ov (xmove rfl) rfl rfl rfl ?_
    refine ov (xextract rfl rfl) rfl rfl rfl ?_
    refine ov (xextract rfl rfl) rfl rfl rfl ?_
    refine ov (xassign rfl) rfl rfl rfl ?_
    refine ov (xassign rfl) rfl rfl rfl ?_
    refine ops_nil ?_
    refine run_seq ?_
    refine run_region ?_
    refine ov (xmove rfl) rfl rfl rfl ?_
    refine ov (v := .agg #[.int .i64 nd31, .slice p31 n31 k31]) (xloadN Try.isAgg41 Try.sizeOf41 rfl (O4.cells) rfl) rfl rfl rfl ?_
    refine oc (xcall Try.call59 rfl) rfl rfl rfl (GreatestNeed_ok _ _ _ xs31 nd31 vs31 _ _ _ _ (F31.sl) (by assumption) (V31.sl).sn) ?_
    rintro _ w11 ⟨rfl, e11⟩
    have z11 := e11.size
    have E := E.trans e11
    replace F31 := F31.ext e11
    replace V31 := V31.ext e11
    replace G61_0 := G61_0.ext e11
    replace G67_0 := G67_0.ext e11
    replace O4 := O4.ext e11
    refine ov (xmove rfl) rfl rfl rfl ?_
    refine ov (xextract rfl rfl) rfl rfl rfl ?_
    refine ov (xextract rfl rfl) rfl rfl rfl ?_
    refine ov (xassign rfl) rfl rfl rfl ?_
    refine ov (xassign rfl) rfl rfl rfl ?_
    refine ops_nil ?_
    refine run_seq ?_
    refine run_region ?_
    refine ov (xmove rfl) rfl rfl rfl ?_
    refine ov (v := .agg #[.int .i64 nd31, .slice p31 n31 k31]) (xloadN Try.isAgg41 Try.sizeOf41 rfl (O4.cells) rfl) rfl rfl rfl ?_
    refine oc (xcall Try.call58 rfl) rfl rfl rfl (sGreatestNeed_ok _ _ _ xs31 nd31 vs31 _ _ _ _ (F31.sl) (by assumption) (V31.sl).sn) ?_
    rintro _ w12 ⟨rfl, e12⟩
    have z12 := e12.size
    have E := E.trans e12
    replace F31 := F31.ext e12
    replace V31 := V31.ext e12
    replace G61_0 := G61_0.ext e12
    replace G67_0 := G67_0.ext e12
    replace O4 := O4.ext e12
    refine ov (xmove rfl) rfl rfl rfl ?_
    refine ov (xextract rfl rfl) rfl rfl rfl ?_
    refine ov (xextract rfl rfl) rfl rfl rfl ?_
    refine ov (xassign rfl) rfl rfl rfl ?_
    refine ov (xassign rfl) rfl rfl rfl ?_
    refine ops_nil ?_
    refine run_seq ?_
    refine run_region ?_
    refine ov (xmove rfl) rfl rfl rfl ?_
    refine ov (v := .agg #[.int .i64 nd31, .slice p31 n31 k31]) (xloadN Try.isAgg41 Try.sizeOf41 rfl (O4.cells) rfl) rfl rfl rfl ?_
    refine oc (xcall Try.call77 rfl) rfl rfl rfl (Dissenters_ok _ _ _ xs31 nd31 vs31 _ _ _ _ (F31.sl) (by assumption) (V31.sl).sn) ?_
    rintro _ w13 ⟨e13, q85_0, m85_0, d85_0, rfl, G85_0⟩
    have z13 := e13.size
    have E := E.trans e13
    replace F31 := F31.ext e13
    replace V31 := V31.ext e13
    replace G61_0 := G61_0.ext e13
    replace G67_0 := G67_0.ext e13
    replace O4 := O4.ext e13
    have lG85_0 := G85_0.len
    have hal85 := dissenters_len xs31 nd31 vs31
    refine ov (xmove rfl) rfl rfl rfl ?_
    refine ov (xextract rfl rfl) rfl rfl rfl ?_
    refine ov (xextract rfl rfl) rfl rfl rfl ?_
    refine ov (xassign rfl) rfl rfl rfl ?_
    refine ov (xassign rfl) rfl rfl rfl ?_
    refine ops_nil ?_
    refine run_seq ?_
    refine run_region ?_
    refine ov (xmove rfl) rfl rfl rfl ?_
    refine ov (v := .agg #[.int .i64 nd31, .slice p31 n31 k31]) (xloadN Try.isAgg41 Try.sizeOf41 rfl (O4.cells) rfl) rfl rfl rfl ?_
    refine oc (xcall Try.call76 rfl) rfl rfl rfl (sDissenters_ok _ _ _ xs31 nd31 vs31 _ _ _ _ (F31.sl) (by assumption) (V31.sl).sn) ?_
    rintro _ w14 ⟨e14, q91_0, m91_0, d91_0, rfl, G91_0⟩
    have z14 := e14.size
    have E := E.trans e14
    replace F31 := F31.ext e14
    replace V31 := V31.ext e14
    replace G61_0 := G61_0.ext e14
    replace G67_0 := G67_0.ext e14
    replace G85_0 := G85_0.ext e14
    replace O4 := O4.ext e14
    have lG91_0 := G91_0.len
    have hal91 := dissenters_len xs31 nd31 vs31
    refine ov (xmove rfl) rfl rfl rfl ?_
    refine ov (xextract rfl rfl) rfl rfl rfl ?_
    refine ov (xextract rfl rfl) rfl rfl rfl ?_
    refine ov (xassign rfl) rfl rfl rfl ?_
    refine ov (xassign rfl) rfl rfl rfl ?_
    refine ops_nil ?_
    refine run_seq ?_
    refine run_seq ?_
    refine run_region ?_
    refine ov (xmove rfl) rfl rfl rfl ?_
    refine ov (xmove rfl) rfl rfl rfl ?_
    refine ov (xneq rfl rfl _ rfl) rfl rfl rfl ?_
    refine ods (fun c96 => ?_) (fun c96 => ?_)
    · exfalso; exact absurd rfl c96
    ·
      refine ov (xmove rfl) rfl rfl rfl ?_
      refine ov (xmove rfl) rfl rfl rfl ?_
      refine ov (xmove rfl) rfl rfl rfl ?_
      refine ov (xneq rfl rfl _ rfl) rfl rfl rfl ?_
      refine ods (fun c100 => ?_) (fun c100 => ?_)
      · exfalso; exact absurd rfl c100
      ·
        refine ov (xpick_f rfl rfl) rfl rfl rfl ?_
        refine ov (xmove rfl) rfl rfl rfl ?_
        refine ov (xmove rfl) rfl rfl rfl ?_
        refine ov (xmove rfl) rfl rfl rfl ?_
        refine ov (xneq rfl rfl _ rfl) rfl rfl rfl ?_
        refine ods (fun c105 => ?_) (fun c105 => ?_)
        · exfalso; exact absurd rfl c105
        ·
          refine ov (xpick_f rfl rfl) rfl rfl rfl ?_
          refine ov (xmove rfl) rfl rfl rfl ?_
          refine ov (xmove rfl) rfl rfl rfl ?_
          refine ov (xmove rfl) rfl rfl rfl ?_
          refine ov (xneq rfl rfl _ rfl) rfl rfl rfl ?_
          refine ods (fun c110 => ?_) (fun c110 => ?_)
          · exfalso; exact absurd rfl c110
          ·
            refine ov (xpick_f rfl rfl) rfl rfl rfl ?_
            refine ov (xmove rfl) rfl rfl rfl ?_
            refine ov (xmove rfl) rfl rfl rfl ?_
            refine ov (xmove rfl) rfl rfl rfl ?_
            refine ov (xneq rfl rfl _ rfl) rfl rfl rfl ?_
            refine ods (fun c115 => ?_) (fun c115 => ?_)
            · exfalso; exact absurd rfl c115
            ·
              refine ov (xpick_f rfl rfl) rfl rfl rfl ?_
              refine ov (xmove rfl) rfl rfl rfl ?_
              refine ov (xmove rfl) rfl rfl rfl ?_
              refine ov (xmove rfl) rfl rfl rfl ?_
              refine oc (xcall Try.call69 rfl) rfl rfl rfl (likeInts_ok _ _ _ _ _ _ _ _ (G61_0.sl) (G67_0.sl)) ?_
              rintro _ w15 ⟨rfl, e15⟩
              have z15 := e15.size
              have E := E.trans e15
              replace F31 := F31.ext e15
              replace V31 := V31.ext e15
              replace G61_0 := G61_0.ext e15
              replace G67_0 := G67_0.ext e15
              replace G85_0 := G85_0.ext e15
              replace G91_0 := G91_0.ext e15
              replace O4 := O4.ext e15
              refine obs (fun c120 => ?_) (fun c120 => ?_)
              ·
                refine ov (xnot rfl) rfl rfl rfl ?_
                refine ov (xpick_f rfl rfl) rfl rfl rfl ?_
                refine ov (xmove rfl) rfl rfl rfl ?_
                refine ov (xmove rfl) rfl rfl rfl ?_
                refine ov (xmove rfl) rfl rfl rfl ?_
                refine ov (xneq rfl rfl _ rfl) rfl rfl rfl ?_
                refine ods (fun c126 => ?_) (fun c126 => ?_)
                · exfalso; exact absurd rfl c126
                ·
                  refine ov (xpick_f rfl rfl) rfl rfl rfl ?_
                  refine ov (xmove rfl) rfl rfl rfl ?_
                  refine ov (xmove rfl) rfl rfl rfl ?_
                  refine ov (xmove rfl) rfl rfl rfl ?_
                  refine ov (xneq rfl rfl _ rfl) rfl rfl rfl ?_
                  refine ods (fun c131 => ?_) (fun c131 => ?_)
                  · exfalso; exact absurd rfl c131
                  ·
                    refine ov (xpick_f rfl rfl) rfl rfl rfl ?_
                    refine ov (xmove rfl) rfl rfl rfl ?_
                    refine ov (xmove rfl) rfl rfl rfl ?_
                    refine ov (xmove rfl) rfl rfl rfl ?_
                    refine ov (xneq rfl rfl _ rfl) rfl rfl rfl ?_
                    refine ods (fun c136 => ?_) (fun c136 => ?_)
                    · exfalso; exact absurd rfl c136
                    ·
                      refine ov (xpick_f rfl rfl) rfl rfl rfl ?_
                      refine ov (xmove rfl) rfl rfl rfl ?_
                      refine ov (xmove rfl) rfl rfl rfl ?_
                      refine ov (xmove rfl) rfl rfl rfl ?_
                      refine oc (xcall Try.call69 rfl) rfl rfl rfl (likeInts_ok _ _ _ _ _ _ _ _ (G85_0.sl) (G91_0.sl)) ?_
                      rintro _ w16 ⟨rfl, e16⟩
                      have z16 := e16.size
                      have E := E.trans e16
                      replace F31 := F31.ext e16
                      replace V31 := V31.ext e16
                      replace G61_0 := G61_0.ext e16
                      replace G67_0 := G67_0.ext e16
                      replace G85_0 := G85_0.ext e16
                      replace G91_0 := G91_0.ext e16
                      replace O4 := O4.ext e16
                      refine obs (fun c141 => ?_) (fun c141 => ?_)
                      ·
                        refine ov (xnot rfl) rfl rfl rfl ?_
                        refine ov (xpick_f rfl rfl) rfl rfl rfl ?_
                        refine ov (xmove rfl) rfl rfl rfl ?_
                        refine ov (xmove rfl) rfl rfl rfl ?_
                        refine ov (v := .agg #[.int .i64 nd31, .slice p31 n31 k31]) (xloadN Try.isAgg41 Try.sizeOf41 rfl (O4.cells) rfl) rfl rfl rfl ?_
                        refine oc (xcall Try.call39 rfl) rfl rfl rfl (IsPoll_ok _ _ _ xs31 nd31 vs31 _ _ _ _ (F31.sl) (by assumption) (V31.sl).sn) ?_
                        rintro _ w17 ⟨rfl, e17⟩
                        have z17 := e17.size
                        have E := E.trans e17
                        replace F31 := F31.ext e17
                        replace V31 := V31.ext e17
                        replace G61_0 := G61_0.ext e17
                        replace G67_0 := G67_0.ext e17
                        replace G85_0 := G85_0.ext e17
                        replace G91_0 := G91_0.ext e17
                        replace O4 := O4.ext e17
                        refine ov (xmove rfl) rfl rfl rfl ?_
                        refine ov (xeql rfl rfl _ rfl) rfl rfl rfl ?_
                        refine ov (xbneq Try.underlying4 rfl rfl) rfl rfl rfl ?_
                        refine ods (fun c150 => ?_) (fun c150 => ?_)
                        · exfalso; exact c150 (by rw [answersOf_code]; cases isPoll xs31 nd31 vs31 <;> rfl)
                        ·
                          refine ov (xpick_f rfl rfl) rfl rfl rfl ?_
                          refine ov (xmove rfl) rfl rfl rfl ?_
                          refine ov (xmove rfl) rfl rfl rfl ?_
                          refine ov (xmove rfl) rfl rfl rfl ?_
                          refine ov (xneq rfl rfl _ rfl) rfl rfl rfl ?_
                          refine ods (fun c155 => ?_) (fun c155 => ?_)
                          · exfalso; rw [dissenters_code] at c155; exact absurd rfl c155
                          ·
                            refine ov (xpick_f rfl rfl) rfl rfl rfl ?_
                            refine ops_nil ?_
                            refine run_cond_f rfl ?_
                            refine run_skip ?_
                            refine run_seq ?_
                            refine run_seq ?_
                            refine run_region ?_
                            refine ov (xmove rfl) rfl rfl rfl ?_
                            refine ov (xneq rfl rfl _ rfl) rfl rfl rfl ?_
                            refine ods (fun c158 => ?_) (fun c158 => ?_)
                            ·
                              refine ops_nil ?_
                              refine run_cond_t rfl ?_
                              refine run_seq ?_
                              refine run_region ?_
                              refine ov (xassign rfl) rfl rfl rfl ?_
                              refine ops_nil ?_
                              refine run_ret Try.func21 (res1 rfl rfl) ?_
                              first | exact ⟨_, rfl, rfl, E⟩ | exact ⟨_, rfl, by rw [decide_eq_true (y2.resolve_left (by omega))], E⟩
                            ·
                              have hpp := answers_poll (by omega : (answersOf xs31 nd31 vs31).2 = 0)
                              have hnd := isPoll_need hpp
                              refine ops_nil ?_
                              refine run_cond_f rfl ?_
                              refine run_skip ?_
                              refine run_seq ?_
                              refine run_seq ?_
                              refine run_region ?_
                              refine ov (xmove rfl) rfl rfl rfl ?_
                              refine ov (xeql rfl rfl _ rfl) rfl rfl rfl ?_
                              refine ov (xmove rfl) rfl rfl rfl ?_
                              refine ov (xeql rfl rfl _ rfl) rfl rfl rfl ?_
                              refine ov (xbneq Try.underlying4 rfl rfl) rfl rfl rfl ?_
                              refine ods (fun c163 => ?_) (fun c163 => ?_)
                              · exfalso; exact c163 (by rw [Bool.eq_iff_iff, decide_eq_true_iff, decide_eq_true_iff]; exact hung_iff hpp)
                              ·
                                refine ops_nil ?_
                                refine run_cond_f rfl ?_
                                refine run_skip ?_
                                refine run_seq ?_
                                refine run_seq ?_
                                refine run_region ?_
                                refine ov (xmove rfl) rfl rfl rfl ?_
                                refine ov (xeql rfl rfl _ rfl) rfl rfl rfl ?_
                                refine ods (fun c165 => ?_) (fun c165 => ?_)
                                ·
                                  obtain ⟨z1, z2, z3⟩ := poll_zero (by omega : (pollVerdict xs31 nd31 vs31).2 = 0)
                                  refine ov (xmove rfl) rfl rfl rfl ?_
                                  refine ov (xmove rfl) rfl rfl rfl ?_
                                  refine ov (xneq rfl rfl _ rfl) rfl rfl rfl ?_
                                  refine ods (fun c168 => ?_) (fun c168 => ?_)
                                  · exfalso; exact c168 z1
                                  ·
                                    refine ov (xmove rfl) rfl rfl rfl ?_
                                    refine ov (xmove rfl) rfl rfl rfl ?_
                                    refine ov (xfieldAddr fo41f0 rfl) rfl rfl rfl ?_
                                    refine ov (v := .int .i64 nd31) (xload1 Try.isAgg2 rfl (O4.cells) rfl) rfl rfl rfl ?_
                                    refine ov (xlss rfl rfl _ rfl) rfl rfl rfl ?_
                                    refine ods (fun c173 => ?_) (fun c173 => ?_)
                                    · exfalso; omega
                                    ·
                                      refine ov (xpick_f rfl rfl) rfl rfl rfl ?_
                                      refine ov (xmove rfl) rfl rfl rfl ?_
                                      refine ov (xmove rfl) rfl rfl rfl ?_
                                      refine ov (xlen Try.underlying31 rfl) rfl rfl rfl ?_
                                      refine ov (xmove rfl) rfl rfl rfl ?_
                                      refine ov (xlen Try.underlying31 rfl) rfl rfl rfl ?_
                                      refine ov (xfieldAddr fo41f1 rfl) rfl rfl rfl ?_
                                      refine ov (v := .slice p31 n31 k31) (xload1 Try.isAgg36 rfl (O4.cells) rfl) rfl rfl rfl ?_
                                      refine ov (xlen Try.underlying36 rfl) rfl rfl rfl ?_
                                      refine ov (xfieldAddr fo41f0 rfl) rfl rfl rfl ?_
                                      refine ov (v := .int .i64 nd31) (xload1 Try.isAgg2 rfl (O4.cells) rfl) rfl rfl rfl ?_
                                      refine ov (xsub rfl rfl (by unfold I64; omega)) rfl rfl rfl ?_
                                      refine ov (xmul rfl rfl (mul_small (by omega) (by omega) (by omega) (by omega))) rfl rfl rfl ?_
                                      refine ov (xgtr rfl rfl _ rfl) rfl rfl rfl ?_
                                      refine ods (fun c187 => ?_) (fun c187 => ?_)
                                      · exfalso; (rw [← lG85_0, ← lG61_0, ← lV31] at z3; omega)
                                      ·
                                        refine ov (xpick_f rfl rfl) rfl rfl rfl ?_
                                        refine ov (xpick_t rfl rfl) rfl rfl rfl ?_
                                        refine ops_nil ?_
                                        refine run_cond_f rfl ?_
                                        refine run_skip ?_
                                        refine run_seq ?_
                                        refine run_seq ?_
                                        refine run_region ?_
                                        refine ov (xmove rfl) rfl rfl rfl ?_
                                        refine ov (xneq rfl rfl _ rfl) rfl rfl rfl ?_
                                        refine ods (fun c191 => ?_) (fun c191 => ?_)
                                        ·
                                          refine ops_nil ?_
                                          refine run_cond_t rfl ?_
                                          refine run_seq ?_
                                          refine run_region ?_
                                          refine ov (xassign rfl) rfl rfl rfl ?_
                                          refine ops_nil ?_
                                          refine run_ret Try.func21 (res1 rfl rfl) ?_
                                          first | exact ⟨_, rfl, rfl, E⟩ | exact ⟨_, rfl, by rw [decide_eq_true (y2.resolve_left (by omega))], E⟩
                                        ·
                                          obtain ⟨y1, y2⟩ := need_zero hpp (by omega : (greatestNeed xs31 nd31 vs31).2 = 0)
                                          refine ops_nil ?_
                                          refine run_cond_f rfl ?_
                                          refine run_skip ?_
                                          refine run_seq ?_
                                          refine run_region ?_
                                          refine ov (xmove rfl) rfl rfl rfl ?_
                                          refine ov (xmove rfl) rfl rfl rfl ?_
                                          refine ov (xfieldAddr fo41f1 rfl) rfl rfl rfl ?_
                                          refine ov (v := .slice p31 n31 k31) (xload1 Try.isAgg36 rfl (O4.cells) rfl) rfl rfl rfl ?_
                                          refine ov (xbuild (vs := [.int .i64 (greatestNeed xs31 nd31 vs31).1, .slice p31 n31 k31]) (cells := #[.int .i64 (greatestNeed xs31 nd31 vs31).1, .slice p31 n31 k31]) rfl (by kernel_rfl)) rfl rfl rfl ?_
                                          refine oc (xcall Try.call71 rfl) rfl rfl rfl (PollVerdict_ok _ _ _ xs31 (greatestNeed xs31 nd31 vs31).1 vs31 _ _ _ _ (F31.sl) (by assumption) (V31.sl).sn) ?_
                                          rintro _ w18 ⟨rfl, e18⟩
                                          have z18 := e18.size
                                          have E := E.trans e18
                                          replace F31 := F31.ext e18
                                          replace V31 := V31.ext e18
                                          replace G61_0 := G61_0.ext e18
                                          replace G67_0 := G67_0.ext e18
                                          replace G85_0 := G85_0.ext e18
                                          replace G91_0 := G91_0.ext e18
                                          replace O4 := O4.ext e18
                                          refine ov (xmove rfl) rfl rfl rfl ?_
                                          refine ov (xextract rfl rfl) rfl rfl rfl ?_
                                          refine ov (xextract rfl rfl) rfl rfl rfl ?_
                                          refine ov (xassign rfl) rfl rfl rfl ?_
                                          refine ov (xassign rfl) rfl rfl rfl ?_
                                          refine ops_nil ?_
                                          refine run_seq ?_
                                          refine run_region ?_
                                          refine ov (xmove rfl) rfl rfl rfl ?_
                                          refine ov (xeql rfl rfl _ rfl) rfl rfl rfl ?_
                                          refine ods (fun c202 => ?_) (fun c202 => ?_)
                                          ·
                                            refine ov (xmove rfl) rfl rfl rfl ?_
                                            refine ov (xmove rfl) rfl rfl rfl ?_
                                            refine ov (xneq rfl rfl _ rfl) rfl rfl rfl ?_
                                            refine ods (fun c205 => ?_) (fun c205 => ?_)
                                            ·
                                              refine ov (xmove rfl) rfl rfl rfl ?_
                                              refine og rfl rfl rfl ?_
                                              refine og rfl rfl rfl ?_
                                              refine og rfl rfl rfl ?_
                                              refine ov (xpick_t rfl rfl) rfl rfl rfl ?_
                                              refine ov (xpick_t rfl rfl) rfl rfl rfl ?_
                                              refine ov (xassign rfl) rfl rfl rfl ?_
                                              refine ops_nil ?_
                                              refine run_ret Try.func21 (res1 rfl rfl) ?_
                                              first | exact ⟨_, rfl, rfl, E⟩ | exact ⟨_, rfl, by rw [decide_eq_true (y2.resolve_left (by omega))], E⟩
                                            ·
                                              refine ov (xmove rfl) rfl rfl rfl ?_
                                              refine ov (xmove rfl) rfl rfl rfl ?_
                                              refine ov (xmove rfl) rfl rfl rfl ?_
                                              refine ov (xeql rfl rfl _ rfl) rfl rfl rfl ?_
                                              refine ov (xpick_f rfl rfl) rfl rfl rfl ?_
                                              refine ov (xpick_t rfl rfl) rfl rfl rfl ?_
                                              refine ov (xassign rfl) rfl rfl rfl ?_
                                              refine ops_nil ?_
                                              refine run_ret Try.func21 (res1 rfl rfl) ?_
                                              first | exact ⟨_, rfl, rfl, E⟩ | exact ⟨_, rfl, by rw [decide_eq_true (y2.resolve_left (by omega))], E⟩
                                          · exfalso; exact c202 y1
                                ·
                                  refine ov (xmove rfl) rfl rfl rfl ?_
                                  refine og rfl rfl rfl ?_
                                  refine og rfl rfl rfl ?_
                                  refine og rfl rfl rfl ?_
                                  refine og rfl rfl rfl ?_
                                  refine og rfl rfl rfl ?_
                                  refine og rfl rfl rfl ?_
                                  refine og rfl rfl rfl ?_
                                  refine og rfl rfl rfl ?_
                                  refine og rfl rfl rfl ?_
                                  refine og rfl rfl rfl ?_
                                  refine og rfl rfl rfl ?_
                                  refine og rfl rfl rfl ?_
                                  refine og rfl rfl rfl ?_
                                  refine og rfl rfl rfl ?_
                                  refine og rfl rfl rfl ?_
                                  refine og rfl rfl rfl ?_
                                  refine og rfl rfl rfl ?_
                                  refine og rfl rfl rfl ?_
                                  refine og rfl rfl rfl ?_
                                  refine og rfl rfl rfl ?_
                                  refine og rfl rfl rfl ?_
                                  refine og rfl rfl rfl ?_
                                  refine ov (xpick_f rfl rfl) rfl rfl rfl ?_
                                  refine ops_nil ?_
                                  refine run_cond_f rfl ?_
                                  refine run_skip ?_
                                  refine run_seq ?_
                                  refine run_seq ?_
                                  refine run_region ?_
                                  refine ov (xmove rfl) rfl rfl rfl ?_
                                  refine ov (xneq rfl rfl _ rfl) rfl rfl rfl ?_
                                  refine ods (fun c191 => ?_) (fun c191 => ?_)
                                  ·
                                    refine ops_nil ?_
                                    refine run_cond_t rfl ?_
                                    refine run_seq ?_
                                    refine run_region ?_
                                    refine ov (xassign rfl) rfl rfl rfl ?_
                                    refine ops_nil ?_
                                    refine run_ret Try.func21 (res1 rfl rfl) ?_
                                    first | exact ⟨_, rfl, rfl, E⟩ | exact ⟨_, rfl, by rw [decide_eq_true (y2.resolve_left (by omega))], E⟩
                                  ·
                                    obtain ⟨y1, y2⟩ := need_zero hpp (by omega : (greatestNeed xs31 nd31 vs31).2 = 0)
                                    refine ops_nil ?_
                                    refine run_cond_f rfl ?_
                                    refine run_skip ?_
                                    refine run_seq ?_
                                    refine run_region ?_
                                    refine ov (xmove rfl) rfl rfl rfl ?_
                                    refine ov (xmove rfl) rfl rfl rfl ?_
                                    refine ov (xfieldAddr fo41f1 rfl) rfl rfl rfl ?_
                                    refine ov (v := .slice p31 n31 k31) (xload1 Try.isAgg36 rfl (O4.cells) rfl) rfl rfl rfl ?_
                                    refine ov (xbuild (vs := [.int .i64 (greatestNeed xs31 nd31 vs31).1, .slice p31 n31 k31]) (cells := #[.int .i64 (greatestNeed xs31 nd31 vs31).1, .slice p31 n31 k31]) rfl (by kernel_rfl)) rfl rfl rfl ?_
                                    refine oc (xcall Try.call71 rfl) rfl rfl rfl (PollVerdict_ok _ _ _ xs31 (greatestNeed xs31 nd31 vs31).1 vs31 _ _ _ _ (F31.sl) (by assumption) (V31.sl).sn) ?_
                                    rintro _ w18 ⟨rfl, e18⟩
                                    have z18 := e18.size
                                    have E := E.trans e18
                                    replace F31 := F31.ext e18
                                    replace V31 := V31.ext e18
                                    replace G61_0 := G61_0.ext e18
                                    replace G67_0 := G67_0.ext e18
                                    replace G85_0 := G85_0.ext e18
                                    replace G91_0 := G91_0.ext e18
                                    replace O4 := O4.ext e18
                                    refine ov (xmove rfl) rfl rfl rfl ?_
                                    refine ov (xextract rfl rfl) rfl rfl rfl ?_
                                    refine ov (xextract rfl rfl) rfl rfl rfl ?_
                                    refine ov (xassign rfl) rfl rfl rfl ?_
                                    refine ov (xassign rfl) rfl rfl rfl ?_
                                    refine ops_nil ?_
                                    refine run_seq ?_
                                    refine run_region ?_
                                    refine ov (xmove rfl) rfl rfl rfl ?_
                                    refine ov (xeql rfl rfl _ rfl) rfl rfl rfl ?_
                                    refine ods (fun c202 => ?_) (fun c202 => ?_)
                                    ·
                                      refine ov (xmove rfl) rfl rfl rfl ?_
                                      refine ov (xmove rfl) rfl rfl rfl ?_
                                      refine ov (xneq rfl rfl _ rfl) rfl rfl rfl ?_
                                      refine ods (fun c205 => ?_) (fun c205 => ?_)
                                      ·
                                        refine ov (xmove rfl) rfl rfl rfl ?_
                                        refine og rfl rfl rfl ?_
                                        refine og rfl rfl rfl ?_
                                        refine og rfl rfl rfl ?_
                                        refine ov (xpick_t rfl rfl) rfl rfl rfl ?_
                                        refine ov (xpick_t rfl rfl) rfl rfl rfl ?_
                                        refine ov (xassign rfl) rfl rfl rfl ?_
                                        refine ops_nil ?_
                                        refine run_ret Try.func21 (res1 rfl rfl) ?_
                                        first | exact ⟨_, rfl, rfl, E⟩ | exact ⟨_, rfl, by rw [decide_eq_true (y2.resolve_left (by omega))], E⟩
                                      ·
                                        refine ov (xmove rfl) rfl rfl rfl ?_
                                        refine ov (xmove rfl) rfl rfl rfl ?_
                                        refine ov (xmove rfl) rfl rfl rfl ?_
                                        refine ov (xeql rfl rfl _ rfl) rfl rfl rfl ?_
                                        refine ov (xpick_f rfl rfl) rfl rfl rfl ?_
                                        refine ov (xpick_t rfl rfl) rfl rfl rfl ?_
                                        refine ov (xassign rfl) rfl rfl rfl ?_
                                        refine ops_nil ?_
                                        refine run_ret Try.func21 (res1 rfl rfl) ?_
                                        first | exact ⟨_, rfl, rfl, E⟩ | exact ⟨_, rfl, by rw [decide_eq_true (y2.resolve_left (by omega))], E⟩
                                    · exfalso; exact c202 y1
                      · exfalso; cases c141
              · exfalso; cases c120
end Go.Proofs.Ytinpkihmkfiidaa
