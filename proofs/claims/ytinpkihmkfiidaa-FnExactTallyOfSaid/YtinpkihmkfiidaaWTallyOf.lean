/-
  The walk of the law FnExactTallyOf. No condition beyond those written in the theorem.
-/
import Derived.Test.YtinpkihmkfiidaaQuesRead
import Derived.Test.YtinpkihmkfiidaaPollRead
import Derived.Test.YtinpkihmkfiidaaNestClose
import Derived.Test.YtinpkihmkfiidaaToB
import Derived.Test.YtinpkihmkfiidaaPolls2
namespace Go.Proofs.Ytinpkihmkfiidaa
open Go.RowKit
set_option linter.unusedVariables false
set_option linter.unusedSimpArgs false
set_option linter.unusedSectionVars false
set_option maxRecDepth 4000

set_option maxHeartbeats 400000 in
theorem FnExactTallyOf_ok (w : World) (p0 : Option Addr) (n0 c0 : Nat) (xs0 : List Question) (H0 : Sl Question.cells 3 w p0 n0 c0 xs0) (hx0 : ∀ x ∈ xs0, x.ok) (r1 : Poll) (p1_v : Option Addr) (n1_v c1_v : Nat) (Hv1_v : SnInt64SS w p1_v n1_v c1_v r1.Votes) (hr1 : r1.ok) (k2 : Int) (hk2 : I64 k2) : Ret Try.prog 10 [.slice p0 n0 c0, .agg #[.int .i64 r1.Need, .slice p1_v n1_v c1_v], .int .i64 k2] w (Pv w (.bool true)) := by
  refine ret_of_run (N := 80) Try.func10 rfl rfl rfl ?_
  have hn0 := H0.len
  have hn1_v := Hv1_v.len
  have hc0 : ∀ x ∈ xs0, x.Label.size ≤ 9223372036854775807 := fun x h => (hx0 x h).1
  have E : Ext w w := Ext.refl w
  refine run_seq ?_
  refine run_region ?_
  refine obox rfl rfl rfl ?_
  intro b1 w1 e1 hb1 hz1 O1
  have E := E.trans e1
  replace O1 : Own w1 b1 [.int .i64 r1.Need, .slice p1_v n1_v c1_v] 38 := O1
  refine ov (xassign rfl) rfl rfl rfl ?_
  refine ops_nil ?_
  refine run_seq ?_
  refine run_region ?_
  refine ov (xassign rfl) rfl rfl rfl ?_
  refine ops_nil ?_
  refine run_seq ?_
  refine run_region ?_
  refine ov (xmove rfl) rfl rfl rfl ?_
  refine ov (xmove rfl) rfl rfl rfl ?_
  refine oc (xcall Try.call25 rfl) rfl rfl rfl (szQuestionS_ok _ _ _ xs0 1048576 _ (H0.ext E) hx0 (by omega) (by omega)) ?_
  rintro _ w2 ⟨rfl, e2⟩
  have z2 := e2.size
  have E := E.trans e2
  replace O1 := O1.ext e2
  refine ov (xassign rfl) rfl rfl rfl ?_
  refine ops_nil ?_
  refine run_seq ?_
  refine run_seq ?_
  refine run_region ?_
  refine ov (xmove rfl) rfl rfl rfl ?_
  refine ov (xlss rfl rfl _ rfl) rfl rfl rfl ?_
  refine ods (fun c22 => ?_) (fun c22 => ?_)
  ·
    refine ops_nil ?_
    refine run_cond_t rfl ?_
    refine run_seq ?_
    refine run_region ?_
    refine ov (xassign rfl) rfl rfl rfl ?_
    refine ops_nil ?_
    refine run_ret Try.func10 (res1 rfl rfl) ?_
    exact ⟨_, rfl, pv E⟩
  ·
    have hz0_ := szS_len szQuestion_le (by omega : 0 ≤ szS szQuestion xs0 1048576)
    refine ops_nil ?_
    refine run_cond_f rfl ?_
    refine run_skip ?_
    refine run_seq ?_
    refine run_region ?_
    refine ov (v := .agg #[.int .i64 r1.Need, .slice p1_v n1_v c1_v]) (xloadN Try.isAgg38 Try.sizeOf38 rfl (O1.cells) rfl) rfl rfl rfl ?_
    refine ov (xmove rfl) rfl rfl rfl ?_
    refine oc (xcall Try.call36 rfl) rfl rfl rfl (szPoll_ok r1 (szS szQuestion xs0 1048576) _ _ _ _ (Hv1_v.ext E) hr1 (by omega) (by omega)) ?_
    rintro _ w3 ⟨rfl, e3⟩
    have z3 := e3.size
    have E := E.trans e3
    replace O1 := O1.ext e3
    refine ov (xassign rfl) rfl rfl rfl ?_
    refine ops_nil ?_
    refine run_seq ?_
    refine run_seq ?_
    refine run_region ?_
    refine ov (xmove rfl) rfl rfl rfl ?_
    refine ov (xlss rfl rfl _ rfl) rfl rfl rfl ?_
    refine ods (fun c27 => ?_) (fun c27 => ?_)
    ·
      refine ops_nil ?_
      refine run_cond_t rfl ?_
      refine run_seq ?_
      refine run_region ?_
      refine ov (xassign rfl) rfl rfl rfl ?_
      refine ops_nil ?_
      refine run_ret Try.func10 (res1 rfl rfl) ?_
      exact ⟨_, rfl, pv E⟩
    ·
      have hz1_ := szMemInt64SS (xs := r1.Votes) (l := (szS szQuestion xs0 1048576)) (by have h_ : 0 ≤ szPoll r1 (szS szQuestion xs0 1048576) := (by omega); exact h_)
      have hm1_ : ∀ x ∈ r1.Votes, ((innInt64SS x).length : Int) ≤ 1048576 := fun x m => by have := hz1_.2.2.1 x m; omega
      replace hz1_ : _ ∧ _ ∧ _ := ⟨hz1_.1, hz1_.2.1, hz1_.2.2.2⟩
      refine ops_nil ?_
      refine run_cond_f rfl ?_
      refine run_skip ?_
      refine run_seq ?_
      have RE := E
      have RO1 := O1
      refine run_held (ι := Unit) (fun x_ w' => match x_ with | () => Ext w3 w' ∧ True) (fun x_ => match x_ with | () => [(0, .slice p0 n0 c0), (2, .int .i64 k2), (4, .pointer (some ⟨b1, 0, none⟩)), (6, .bool false), (8, .int .i64 (tallyOf xs0 r1.Need r1.Votes k2).1), (9, .int .i64 (tallyOf xs0 r1.Need r1.Votes k2).2.1), (10, .int .i64 (tallyOf xs0 r1.Need r1.Votes k2).2.2.1), (11, .int .i64 (tallyOf xs0 r1.Need r1.Votes k2).2.2.2)]) (by kernel_rfl) ?_ ?_
      · intro w0_ F
        have z0_ := F.size
        have E := E.trans F
        replace O1 := O1.ext F
        refine h_take 0 rfl (by kernel_rfl) (by kernel_rfl) (by kernel_rfl) (fun w' x_ => xmove rfl) rfl rfl rfl F ?_
        refine h_take 2 (v := .agg #[.int .i64 r1.Need, .slice p1_v n1_v c1_v]) rfl (by kernel_rfl) (by kernel_rfl) (by kernel_rfl) (fun w' x_ => xloadN Try.isAgg38 Try.sizeOf38 rfl ((RO1.cells).ext x_) rfl) rfl rfl rfl F ?_
        refine h_take 4 rfl (by kernel_rfl) (by kernel_rfl) (by kernel_rfl) (fun w' x_ => xmove rfl) rfl rfl rfl F ?_
        refine h_ready (rs := [1]) (by kernel_rfl) (by decide) ⟨?_, trivial⟩
        ·
          refine hs_call rfl (xcall Try.call27 rfl) rfl rfl rfl (toQuestionS_ok _ _ _ xs0 _ (H0.ext E) (by omega)) ?_
          rintro _ w4 ⟨e4, q30, rfl, G30⟩
          have z4 := e4.size
          have E := E.trans e4
          replace O1 := O1.ext e4
          have F := F.trans e4
          refine ⟨F, ?_⟩
          refine h_ready (rs := [3]) (by kernel_rfl) (by decide) ⟨?_, trivial⟩
          ·
            refine hs_call rfl (xcall Try.call38 rfl) rfl rfl rfl (toPoll_ok r1 _ _ _ _ (Hv1_v.ext E) hm1_ (by omega)) ?_
            rintro _ w5 ⟨e5, q32, rfl, G32⟩
            have z5 := e5.size
            have E := E.trans e5
            replace G30 := G30.ext e5
            replace O1 := O1.ext e5
            have F := F.trans e5
            refine ⟨F, ?_⟩
            refine h_ready (rs := [5]) (by kernel_rfl) (by decide) ⟨?_, trivial⟩
            ·
              refine hs_call rfl (xcall Try.call50 rfl) rfl rfl rfl (sTallyOf_ok _ _ _ xs0 r1.Need r1.Votes _ _ _ _ (G30.sl) hc0 (G32.sl).sn k2) ?_
              rintro _ w6 ⟨rfl, e6⟩
              have z6 := e6.size
              have E := E.trans e6
              replace G30 := G30.ext e6
              replace G32 := G32.ext e6
              replace O1 := O1.ext e6
              have F := F.trans e6
              refine ⟨F, ?_⟩
              refine h_take 6 rfl (by kernel_rfl) (by kernel_rfl) (by kernel_rfl) (fun w' x_ => xmove rfl) rfl rfl rfl F ?_
              refine h_take 7 rfl (by kernel_rfl) (by kernel_rfl) (by kernel_rfl) (fun w' x_ => xextract rfl rfl) rfl rfl rfl F ?_
              refine h_take 8 rfl (by kernel_rfl) (by kernel_rfl) (by kernel_rfl) (fun w' x_ => xextract rfl rfl) rfl rfl rfl F ?_
              refine h_take 9 rfl (by kernel_rfl) (by kernel_rfl) (by kernel_rfl) (fun w' x_ => xextract rfl rfl) rfl rfl rfl F ?_
              refine h_take 10 rfl (by kernel_rfl) (by kernel_rfl) (by kernel_rfl) (fun w' x_ => xextract rfl rfl) rfl rfl rfl F ?_
              refine h_take 11 rfl (by kernel_rfl) (by kernel_rfl) (by kernel_rfl) (fun w' x_ => xassign rfl) rfl rfl rfl F ?_
              refine h_take 12 rfl (by kernel_rfl) (by kernel_rfl) (by kernel_rfl) (fun w' x_ => xassign rfl) rfl rfl rfl F ?_
              refine h_take 13 rfl (by kernel_rfl) (by kernel_rfl) (by kernel_rfl) (fun w' x_ => xassign rfl) rfl rfl rfl F ?_
              refine h_take 14 rfl (by kernel_rfl) (by kernel_rfl) (by kernel_rfl) (fun w' x_ => xassign rfl) rfl rfl rfl F ?_
              refine h_done (by kernel_rfl) ?_
              intro a_ ha_
              exact ⟨(), ⟨F, trivial⟩, ha_.sub ⟨rfl, rfl, rfl, rfl, rfl, rfl, rfl, rfl, trivial⟩⟩
      · intro x_
        obtain ⟨⟩ := x_
        rintro w4 ⟨e4, _⟩
        have z4 := e4.size
        have E := E.trans e4
        replace O1 := O1.ext e4
        refine run_seq ?_
        refine run_region ?_
        refine ov (xmove rfl) rfl rfl rfl ?_
        refine oc (xcall Try.call27 rfl) rfl rfl rfl (toQuestionS_ok _ _ _ xs0 _ (H0.ext E) (by omega)) ?_
        rintro _ w5 ⟨e5, q40, rfl, G40⟩
        have z5 := e5.size
        have E := E.trans e5
        replace O1 := O1.ext e5
        refine ov (xassign rfl) rfl rfl rfl ?_
        refine ops_nil ?_
        refine run_seq ?_
        refine run_region ?_
        refine ov (v := .agg #[.int .i64 r1.Need, .slice p1_v n1_v c1_v]) (xloadN Try.isAgg38 Try.sizeOf38 rfl (O1.cells) rfl) rfl rfl rfl ?_
        refine oc (xcall Try.call38 rfl) rfl rfl rfl (toPoll_ok r1 _ _ _ _ (Hv1_v.ext E) hm1_ (by omega)) ?_
        rintro _ w6 ⟨e6, q42, rfl, G42⟩
        have z6 := e6.size
        have E := E.trans e6
        replace G40 := G40.ext e6
        replace O1 := O1.ext e6
        refine oalloc Try.zeroValue41 rfl rfl ?_
        intro b7 w7 e7 hb7 hz7 O7
        have E := E.trans e7
        replace G40 := G40.ext e7
        replace G42 := G42.ext e7
        replace O1 := O1.ext e7
        replace O7 : Own w7 b7 [.int .i64 0, .slice none 0 0] 41 := O7
        refine ostoreN (vs := _) Try.sizeOf41 rfl rfl O7 rfl (by simp) (by simp [Value.oneCell']) rfl ?_
        intro w8 on8 O8
        have hz8 := on8.size
        have E := on8.ext E (by omega)
        replace G40 := G40.only on8 (by omega)
        replace G42 := G42.only on8 (by omega)
        replace O1 := on8.own O1 (by omega)
        replace O8 : Own w8 b7 [.int .i64 r1.Need, .slice (some q42) n1_v n1_v] 41 := O8
        refine ops_nil ?_
        refine run_seq ?_
        refine run_region ?_
        refine ov (xmove rfl) rfl rfl rfl ?_
        refine ov (v := .agg #[.int .i64 r1.Need, .slice (some q42) n1_v n1_v]) (xloadN Try.isAgg41 Try.sizeOf41 rfl (O8.cells) rfl) rfl rfl rfl ?_
        refine ov (xmove rfl) rfl rfl rfl ?_
        refine oc (xcall Try.call51 rfl) rfl rfl rfl (TallyOf_ok _ _ _ xs0 r1.Need r1.Votes _ _ _ _ (G40.sl) hc0 (G42.sl).sn k2) ?_
        rintro _ w9 ⟨rfl, e9⟩
        have z9 := e9.size
        have E := E.trans e9
        replace G40 := G40.ext e9
        replace G42 := G42.ext e9
        replace O1 := O1.ext e9
        replace O8 := O8.ext e9
        refine ov (xmove rfl) rfl rfl rfl ?_
        refine ov (xextract rfl rfl) rfl rfl rfl ?_
        refine ov (xextract rfl rfl) rfl rfl rfl ?_
        refine ov (xextract rfl rfl) rfl rfl rfl ?_
        refine ov (xextract rfl rfl) rfl rfl rfl ?_
        refine ov (xassign rfl) rfl rfl rfl ?_
        refine ov (xassign rfl) rfl rfl rfl ?_
        refine ov (xassign rfl) rfl rfl rfl ?_
        refine ov (xassign rfl) rfl rfl rfl ?_
        refine ops_nil ?_
        refine run_seq ?_
        refine run_seq ?_
        refine run_region ?_
        refine ov (xmove rfl) rfl rfl rfl ?_
        refine ov (xmove rfl) rfl rfl rfl ?_
        refine ov (xneq rfl rfl _ rfl) rfl rfl rfl ?_
        refine ods (fun c54 => ?_) (fun c54 => ?_)
        · exfalso; first | exact absurd rfl c54 | omega
        ·
          refine ov (xmove rfl) rfl rfl rfl ?_
          refine ov (xmove rfl) rfl rfl rfl ?_
          refine ov (xmove rfl) rfl rfl rfl ?_
          refine ov (xneq rfl rfl _ rfl) rfl rfl rfl ?_
          refine ods (fun c58 => ?_) (fun c58 => ?_)
          · exfalso; first | exact absurd rfl c58 | omega
          ·
            refine ov (xpick_f rfl rfl) rfl rfl rfl ?_
            refine ov (xmove rfl) rfl rfl rfl ?_
            refine ov (xmove rfl) rfl rfl rfl ?_
            refine ov (xmove rfl) rfl rfl rfl ?_
            refine ov (xneq rfl rfl _ rfl) rfl rfl rfl ?_
            refine ods (fun c63 => ?_) (fun c63 => ?_)
            · exfalso; first | exact absurd rfl c63 | omega
            ·
              refine ov (xpick_f rfl rfl) rfl rfl rfl ?_
              refine ov (xmove rfl) rfl rfl rfl ?_
              refine ov (xmove rfl) rfl rfl rfl ?_
              refine ov (xmove rfl) rfl rfl rfl ?_
              refine ov (xneq rfl rfl _ rfl) rfl rfl rfl ?_
              refine ods (fun c68 => ?_) (fun c68 => ?_)
              · exfalso; first | exact absurd rfl c68 | omega
              ·
                refine ov (xpick_f rfl rfl) rfl rfl rfl ?_
                refine ops_nil ?_
                refine run_cond_f rfl ?_
                refine run_skip ?_
                refine run_seq ?_
                refine run_seq ?_
                refine run_region ?_
                refine ov (xmove rfl) rfl rfl rfl ?_
                refine ov (xmove rfl) rfl rfl rfl ?_
                refine oc (xcall Try.call27 rfl) rfl rfl rfl (toQuestionS_ok _ _ _ xs0 _ (H0.ext E) (by omega)) ?_
                rintro _ w10 ⟨e10, q72, rfl, G72⟩
                have z10 := e10.size
                have E := E.trans e10
                replace G40 := G40.ext e10
                replace G42 := G42.ext e10
                replace O1 := O1.ext e10
                replace O8 := O8.ext e10
                refine oc (xcall Try.call29 rfl) rfl rfl rfl (eqQuestionS_ok _ _ _ _ _ _ _ _ _ (G40.sl) (G72.sl)) ?_
                rintro _ w11 ⟨rfl, e11⟩
                have z11 := e11.size
                have E := E.trans e11
                replace G40 := G40.ext e11
                replace G42 := G42.ext e11
                replace G72 := G72.ext e11
                replace O1 := O1.ext e11
                replace O8 := O8.ext e11
                refine obs (fun c73 => ?_) (fun c73 => ?_)
                ·
                  refine ov (xnot rfl) rfl rfl rfl ?_
                  refine ops_nil ?_
                  refine run_cond_f rfl ?_
                  refine run_skip ?_
                  refine run_seq ?_
                  refine run_seq ?_
                  have RE := E
                  have RO1 := O1
                  have RO8 := O8
                  refine run_held (ι := Unit) (fun x_ w' => match x_ with | () => Ext w11 w' ∧ True) (fun x_ => match x_ with | () => [(6, .bool false), (79, .bool false)]) (by kernel_rfl) ?_ ?_
                  · intro w0_ F
                    have z0_ := F.size
                    have E := E.trans F
                    replace G40 := G40.ext F
                    replace G42 := G42.ext F
                    replace G72 := G72.ext F
                    replace O1 := O1.ext F
                    replace O8 := O8.ext F
                    refine h_take 0 (v := .agg #[.int .i64 r1.Need, .slice (some q42) n1_v n1_v]) rfl (by kernel_rfl) (by kernel_rfl) (by kernel_rfl) (fun w' x_ => xloadN Try.isAgg41 Try.sizeOf41 rfl ((RO8.cells).ext x_) rfl) rfl rfl rfl F ?_
                    refine h_take 1 (v := .agg #[.int .i64 r1.Need, .slice p1_v n1_v c1_v]) rfl (by kernel_rfl) (by kernel_rfl) (by kernel_rfl) (fun w' x_ => xloadN Try.isAgg38 Try.sizeOf38 rfl ((RO1.cells).ext x_) rfl) rfl rfl rfl F ?_
                    refine h_ready (rs := [2]) (by kernel_rfl) (by decide) ⟨?_, trivial⟩
                    ·
                      refine hs_call rfl (xcall Try.call38 rfl) rfl rfl rfl (toPoll_ok r1 _ _ _ _ (Hv1_v.ext E) hm1_ (by omega)) ?_
                      rintro _ w12 ⟨e12, q77, rfl, G77⟩
                      have z12 := e12.size
                      have E := E.trans e12
                      replace G40 := G40.ext e12
                      replace G42 := G42.ext e12
                      replace G72 := G72.ext e12
                      replace O1 := O1.ext e12
                      replace O8 := O8.ext e12
                      have F := F.trans e12
                      refine ⟨F, ?_⟩
                      refine h_ready (rs := [3]) (by kernel_rfl) (by decide) ⟨?_, trivial⟩
                      ·
                        refine hs_call rfl (xcall Try.call40 rfl) rfl rfl rfl (eqPoll_ok _ _ _ _ _ _ (G42.sl) _ _ _ (G77.sl)) ?_
                        rintro _ w13 ⟨rfl, e13⟩
                        have z13 := e13.size
                        have E := E.trans e13
                        replace G40 := G40.ext e13
                        replace G42 := G42.ext e13
                        replace G72 := G72.ext e13
                        replace G77 := G77.ext e13
                        replace O1 := O1.ext e13
                        replace O8 := O8.ext e13
                        have F := F.trans e13
                        refine ⟨F, ?_⟩
                        refine h_bs (fun c78 => ?_) (fun c78 => ?_)
                        ·
                          refine h_take 4 rfl (by kernel_rfl) (by kernel_rfl) (by kernel_rfl) (fun w' x_ => xnot rfl) rfl rfl rfl F ?_
                          refine h_done (by kernel_rfl) ?_
                          intro a_ ha_
                          exact ⟨(), ⟨F, trivial⟩, ha_.sub ⟨rfl, rfl, trivial⟩⟩
                        · exfalso; rw [eqPoll_refl] at c78; cases c78
                  · intro x_
                    obtain ⟨⟩ := x_
                    rintro w12 ⟨e12, _⟩
                    have z12 := e12.size
                    have E := E.trans e12
                    replace G40 := G40.ext e12
                    replace G42 := G42.ext e12
                    replace G72 := G72.ext e12
                    replace O1 := O1.ext e12
                    replace O8 := O8.ext e12
                    refine run_cond_f rfl ?_
                    refine run_skip ?_
                    refine run_seq ?_
                    refine run_region ?_
                    refine ov (xassign rfl) rfl rfl rfl ?_
                    refine ops_nil ?_
                    refine run_ret Try.func10 (res1 rfl rfl) ?_
                    exact ⟨_, rfl, pv E⟩
                · exfalso; rw [eqL_refl eqQuestion_refl] at c73; cases c73
end Go.Proofs.Ytinpkihmkfiidaa
