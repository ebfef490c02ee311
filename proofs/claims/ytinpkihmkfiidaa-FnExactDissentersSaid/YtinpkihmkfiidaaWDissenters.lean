/-
  The walk of the law FnExactDissenters. No condition beyond those written in the theorem.
-/
import Derived.Test.YtinpkihmkfiidaaQuesRead
import Derived.Test.YtinpkihmkfiidaaPollRead
import Derived.Test.YtinpkihmkfiidaaNestClose
import Derived.Test.YtinpkihmkfiidaaToB
import Derived.Test.YtinpkihmkfiidaaPolls2
import Derived.Test.YtinpkihmkfiidaaMarkB
import Derived.Test.YtinpkihmkfiidaaMarkQ
import Derived.Test.YtinpkihmkfiidaaPolls3
namespace Go.Proofs.Ytinpkihmkfiidaa
open Go.RowKit
set_option linter.unusedVariables false
set_option linter.unusedSimpArgs false
set_option linter.unusedSectionVars false
set_option maxRecDepth 4000

set_option maxHeartbeats 400000 in
theorem FnExactDissenters_ok (w : World) (p0 : Option Addr) (n0 c0 : Nat) (xs0 : List Question) (H0 : Sl Question.cells 3 w p0 n0 c0 xs0) (hx0 : ∀ x ∈ xs0, x.ok) (r1 : Poll) (p1_v : Option Addr) (n1_v c1_v : Nat) (Hv1_v : SnInt64SS w p1_v n1_v c1_v r1.Votes) (hr1 : r1.ok) : Ret Try.prog 20 [.slice p0 n0 c0, .agg #[.int .i64 r1.Need, .slice p1_v n1_v c1_v]] w (Pv w (.bool true)) := by
  refine ret_of_run (N := 119) Try.func20 rfl rfl rfl ?_
  have hn0 := H0.len
  have hn1_v := Hv1_v.len
  have hc0 : ∀ x ∈ xs0, x.Label.size ≤ 9223372036854775807 := fun x h => (hx0 x h).1
  have E : Ext w w := Ext.refl w
  refine run_seq ?_
  refine run_region ?_
  refine obox rfl rfl rfl ?_
  intro b1 w1 e1 hb1 hz1 O1
  have E := E.trans e1
  replace O1 : Own w1 b1 [.int .i64 r1.Need, .slice p1_v n1_v c1_v] 38 := O1
  refine ov (xassign rfl) rfl rfl rfl ?_
  refine ops_nil ?_
  refine run_seq ?_
  refine run_region ?_
  refine ov (xassign rfl) rfl rfl rfl ?_
  refine ops_nil ?_
  refine run_seq ?_
  refine run_region ?_
  refine ov (xmove rfl) rfl rfl rfl ?_
  refine ov (xmove rfl) rfl rfl rfl ?_
  refine oc (xcall Try.call25 rfl) rfl rfl rfl (szQuestionS_ok _ _ _ xs0 1048576 _ (H0.ext E) hx0 (by omega) (by omega)) ?_
  rintro _ w2 ⟨rfl, e2⟩
  have z2 := e2.size
  have E := E.trans e2
  replace O1 := O1.ext e2
  refine ov (xassign rfl) rfl rfl rfl ?_
  refine ops_nil ?_
  refine run_seq ?_
  refine run_seq ?_
  refine run_region ?_
  refine ov (xmove rfl) rfl rfl rfl ?_
  refine ov (xlss rfl rfl _ rfl) rfl rfl rfl ?_
  refine ods (fun c21 => ?_) (fun c21 => ?_)
  ·
    refine ops_nil ?_
    refine run_cond_t rfl ?_
    refine run_seq ?_
    refine run_region ?_
    refine ov (xassign rfl) rfl rfl rfl ?_
    refine ops_nil ?_
    refine run_ret Try.func20 (res1 rfl rfl) ?_
    exact ⟨_, rfl, pv E⟩
  ·
    have hz0_ := szS_len szQuestion_le (by omega : 0 ≤ szS szQuestion xs0 1048576)
    refine ops_nil ?_
    refine run_cond_f rfl ?_
    refine run_skip ?_
    refine run_seq ?_
    refine run_region ?_
    refine ov (v := .agg #[.int .i64 r1.Need, .slice p1_v n1_v c1_v]) (xloadN Try.isAgg38 Try.sizeOf38 rfl (O1.cells) rfl) rfl rfl rfl ?_
    refine ov (xmove rfl) rfl rfl rfl ?_
    refine oc (xcall Try.call36 rfl) rfl rfl rfl (szPoll_ok r1 (szS szQuestion xs0 1048576) _ _ _ _ (Hv1_v.ext E) hr1 (by omega) (by omega)) ?_
    rintro _ w3 ⟨rfl, e3⟩
    have z3 := e3.size
    have E := E.trans e3
    replace O1 := O1.ext e3
    refine ov (xassign rfl) rfl rfl rfl ?_
    refine ops_nil ?_
    refine run_seq ?_
    refine run_seq ?_
    refine run_region ?_
    refine ov (xmove rfl) rfl rfl rfl ?_
    refine ov (xlss rfl rfl _ rfl) rfl rfl rfl ?_
    refine ods (fun c26 => ?_) (fun c26 => ?_)
    ·
      refine ops_nil ?_
      refine run_cond_t rfl ?_
      refine run_seq ?_
      refine run_region ?_
      refine ov (xassign rfl) rfl rfl rfl ?_
      refine ops_nil ?_
      refine run_ret Try.func20 (res1 rfl rfl) ?_
      exact ⟨_, rfl, pv E⟩
    ·
      have hz1_ := szMemInt64SS (xs := r1.Votes) (l := (szS szQuestion xs0 1048576)) (by have h_ : 0 ≤ szPoll r1 (szS szQuestion xs0 1048576) := (by omega); exact h_)
      have hm1_ : ∀ x ∈ r1.Votes, ((innInt64SS x).length : Int) ≤ 1048576 := fun x m => by have := hz1_.2.2.1 x m; omega
      replace hz1_ : _ ∧ _ ∧ _ := ⟨hz1_.1, hz1_.2.1, hz1_.2.2.2⟩
      refine ops_nil ?_
      refine run_cond_f rfl ?_
      refine run_skip ?_
      refine run_seq ?_
      have RE := E
      have RO1 := O1
      refine run_held (ι := Option Addr × Nat × Nat) (fun x_ w' => match x_ with | (q8_0, m8_0, d8_0) => Ext w3 w' ∧ Ow i64c 1 2 w' w3.heap.size w'.heap.size q8_0 m8_0 d8_0 ((dissenters xs0 r1.Need r1.Votes).1)) (fun x_ => match x_ with | (q8_0, m8_0, d8_0) => [(0, .slice p0 n0 c0), (3, .pointer (some ⟨b1, 0, none⟩)), (4, .bool false), (6, .slice q8_0 m8_0 d8_0), (7, .int .i64 (dissenters xs0 r1.Need r1.Votes).2)]) (by kernel_rfl) ?_ ?_
      · intro w0_ F
        have z0_ := F.size
        have E := E.trans F
        replace O1 := O1.ext F
        refine h_take 0 rfl (by kernel_rfl) (by kernel_rfl) (by kernel_rfl) (fun w' x_ => xmove rfl) rfl rfl rfl F ?_
        refine h_take 2 (v := .agg #[.int .i64 r1.Need, .slice p1_v n1_v c1_v]) rfl (by kernel_rfl) (by kernel_rfl) (by kernel_rfl) (fun w' x_ => xloadN Try.isAgg38 Try.sizeOf38 rfl ((RO1.cells).ext x_) rfl) rfl rfl rfl F ?_
        refine h_ready (rs := [1]) (by kernel_rfl) (by decide) ⟨?_, trivial⟩
        ·
          refine hs_call rfl (xcall Try.call27 rfl) rfl rfl rfl (toQuestionS_ok _ _ _ xs0 _ (H0.ext E) (by omega)) ?_
          rintro _ w4 ⟨e4, q29, rfl, G29⟩
          have z4 := e4.size
          have E := E.trans e4
          replace O1 := O1.ext e4
          have F := F.trans e4
          refine ⟨F, ?_⟩
          refine h_ready (rs := [3]) (by kernel_rfl) (by decide) ⟨?_, trivial⟩
          ·
            refine hs_call rfl (xcall Try.call38 rfl) rfl rfl rfl (toPoll_ok r1 _ _ _ _ (Hv1_v.ext E) hm1_ (by omega)) ?_
            rintro _ w5 ⟨e5, q31, rfl, G31⟩
            have z5 := e5.size
            have E := E.trans e5
            replace G29 := G29.ext e5
            replace O1 := O1.ext e5
            have F := F.trans e5
            refine ⟨F, ?_⟩
            refine h_ready (rs := [4]) (by kernel_rfl) (by decide) ⟨?_, trivial⟩
            ·
              refine hs_call rfl (xcall Try.call76 rfl) rfl rfl rfl (sDissenters_ok _ _ _ xs0 r1.Need r1.Votes _ _ _ _ (G29.sl) hc0 (G31.sl).sn) ?_
              rintro _ w6 ⟨e6, q32_0, m32_0, d32_0, rfl, G32_0⟩
              have z6 := e6.size
              have E := E.trans e6
              replace G29 := G29.ext e6
              replace G31 := G31.ext e6
              replace O1 := O1.ext e6
              have F := F.trans e6
              have lG32_0 := G32_0.len
              have hl_ := dissenters_len xs0 r1.Need r1.Votes
              refine ⟨F, ?_⟩
              refine h_take 5 rfl (by kernel_rfl) (by kernel_rfl) (by kernel_rfl) (fun w' x_ => xmove rfl) rfl rfl rfl F ?_
              refine h_take 6 rfl (by kernel_rfl) (by kernel_rfl) (by kernel_rfl) (fun w' x_ => xextract rfl rfl) rfl rfl rfl F ?_
              refine h_take 7 rfl (by kernel_rfl) (by kernel_rfl) (by kernel_rfl) (fun w' x_ => xextract rfl rfl) rfl rfl rfl F ?_
              refine h_take 8 rfl (by kernel_rfl) (by kernel_rfl) (by kernel_rfl) (fun w' x_ => xassign rfl) rfl rfl rfl F ?_
              refine h_take 9 rfl (by kernel_rfl) (by kernel_rfl) (by kernel_rfl) (fun w' x_ => xassign rfl) rfl rfl rfl F ?_
              refine h_done (by kernel_rfl) ?_
              intro a_ ha_
              exact ⟨(q32_0, m32_0, d32_0), ⟨F, G32_0.wide (by omega) (by omega)⟩, ha_.sub ⟨rfl, rfl, rfl, rfl, rfl, trivial⟩⟩
      · intro x_
        obtain ⟨q8_0, m8_0, d8_0⟩ := x_
        rintro w4 ⟨e4, X8_0⟩
        have z4 := e4.size
        have E := E.trans e4
        replace O1 := O1.ext e4
        have lX8_0 := X8_0.len
        have hl_ := dissenters_len xs0 r1.Need r1.Votes
        refine run_seq ?_
        refine run_region ?_
        refine ov (xmove rfl) rfl rfl rfl ?_
        refine oc (xcall Try.call27 rfl) rfl rfl rfl (toQuestionS_ok _ _ _ xs0 _ (H0.ext E) (by omega)) ?_
        rintro _ w5 ⟨e5, q36, rfl, G36⟩
        have z5 := e5.size
        have E := E.trans e5
        replace X8_0 := X8_0.ext e5
        replace O1 := O1.ext e5
        refine ov (xassign rfl) rfl rfl rfl ?_
        refine ops_nil ?_
        refine run_seq ?_
        refine run_region ?_
        refine ov (v := .agg #[.int .i64 r1.Need, .slice p1_v n1_v c1_v]) (xloadN Try.isAgg38 Try.sizeOf38 rfl (O1.cells) rfl) rfl rfl rfl ?_
        refine oc (xcall Try.call38 rfl) rfl rfl rfl (toPoll_ok r1 _ _ _ _ (Hv1_v.ext E) hm1_ (by omega)) ?_
        rintro _ w6 ⟨e6, q38, rfl, G38⟩
        have z6 := e6.size
        have E := E.trans e6
        replace X8_0 := X8_0.ext e6
        replace G36 := G36.ext e6
        replace O1 := O1.ext e6
        refine oalloc Try.zeroValue41 rfl rfl ?_
        intro b7 w7 e7 hb7 hz7 O7
        have E := E.trans e7
        replace X8_0 := X8_0.ext e7
        replace G36 := G36.ext e7
        replace G38 := G38.ext e7
        replace O1 := O1.ext e7
        replace O7 : Own w7 b7 [.int .i64 0, .slice none 0 0] 41 := O7
        refine ostoreN (vs := _) Try.sizeOf41 rfl rfl O7 rfl (by simp) (by simp [Value.oneCell']) rfl ?_
        intro w8 on8 O8
        have hz8 := on8.size
        have E := on8.ext E (by omega)
        replace X8_0 := X8_0.only on8 (by omega)
        replace G36 := G36.only on8 (by omega)
        replace G38 := G38.only on8 (by omega)
        replace O1 := on8.own O1 (by omega)
        replace O8 : Own w8 b7 [.int .i64 r1.Need, .slice (some q38) n1_v n1_v] 41 := O8
        refine ops_nil ?_
        refine run_seq ?_
        refine run_region ?_
        refine ov (xmove rfl) rfl rfl rfl ?_
        refine ov (v := .agg #[.int .i64 r1.Need, .slice (some q38) n1_v n1_v]) (xloadN Try.isAgg41 Try.sizeOf41 rfl (O8.cells) rfl) rfl rfl rfl ?_
        refine oc (xcall Try.call77 rfl) rfl rfl rfl (Dissenters_ok _ _ _ xs0 r1.Need r1.Votes _ _ _ _ (G36.sl) hc0 (G38.sl).sn) ?_
        rintro _ w9 ⟨e9, q42_0, m42_0, d42_0, rfl, G42_0⟩
        have z9 := e9.size
        have E := E.trans e9
        replace X8_0 := X8_0.ext e9
        replace G36 := G36.ext e9
        replace G38 := G38.ext e9
        replace O1 := O1.ext e9
        replace O8 := O8.ext e9
        have lG42_0 := G42_0.len
        have hl_ := dissenters_len xs0 r1.Need r1.Votes
        refine ov (xmove rfl) rfl rfl rfl ?_
        refine ov (xextract rfl rfl) rfl rfl rfl ?_
        refine ov (xextract rfl rfl) rfl rfl rfl ?_
        refine ov (xassign rfl) rfl rfl rfl ?_
        refine ov (xassign rfl) rfl rfl rfl ?_
        refine ops_nil ?_
        refine run_seq ?_
        refine run_seq ?_
        refine run_region ?_
        refine ov (xmove rfl) rfl rfl rfl ?_
        refine ov (xmove rfl) rfl rfl rfl ?_
        refine oc (xcall Try.call35 rfl) rfl rfl rfl (eqInt64S_ok _ _ _ _ _ _ _ _ _ (G42_0.sl) (X8_0.sl)) ?_
        rintro _ w10 ⟨rfl, e10⟩
        have z10 := e10.size
        have E := E.trans e10
        replace X8_0 := X8_0.ext e10
        replace G36 := G36.ext e10
        replace G38 := G38.ext e10
        replace G42_0 := G42_0.ext e10
        replace O1 := O1.ext e10
        replace O8 := O8.ext e10
        refine obs (fun c47 => ?_) (fun c47 => ?_)
        ·
          refine ov (xnot rfl) rfl rfl rfl ?_
          refine ov (xmove rfl) rfl rfl rfl ?_
          refine ov (xmove rfl) rfl rfl rfl ?_
          refine ov (xmove rfl) rfl rfl rfl ?_
          refine ov (xneq rfl rfl _ rfl) rfl rfl rfl ?_
          refine ods (fun c52 => ?_) (fun c52 => ?_)
          · exfalso; first | exact absurd rfl c52 | omega
          ·
            refine ov (xpick_f rfl rfl) rfl rfl rfl ?_
            refine ops_nil ?_
            refine run_cond_f rfl ?_
            refine run_skip ?_
            refine run_seq ?_
            refine run_seq ?_
            refine run_region ?_
            refine ov (xmove rfl) rfl rfl rfl ?_
            refine ov (xmove rfl) rfl rfl rfl ?_
            refine oc (xcall Try.call27 rfl) rfl rfl rfl (toQuestionS_ok _ _ _ xs0 _ (H0.ext E) (by omega)) ?_
            rintro _ w11 ⟨e11, q56, rfl, G56⟩
            have z11 := e11.size
            have E := E.trans e11
            replace X8_0 := X8_0.ext e11
            replace G36 := G36.ext e11
            replace G38 := G38.ext e11
            replace G42_0 := G42_0.ext e11
            replace O1 := O1.ext e11
            replace O8 := O8.ext e11
            refine oc (xcall Try.call29 rfl) rfl rfl rfl (eqQuestionS_ok _ _ _ _ _ _ _ _ _ (G36.sl) (G56.sl)) ?_
            rintro _ w12 ⟨rfl, e12⟩
            have z12 := e12.size
            have E := E.trans e12
            replace X8_0 := X8_0.ext e12
            replace G36 := G36.ext e12
            replace G38 := G38.ext e12
            replace G42_0 := G42_0.ext e12
            replace G56 := G56.ext e12
            replace O1 := O1.ext e12
            replace O8 := O8.ext e12
            refine obs (fun c57 => ?_) (fun c57 => ?_)
            ·
              refine ov (xnot rfl) rfl rfl rfl ?_
              refine ops_nil ?_
              refine run_cond_f rfl ?_
              refine run_skip ?_
              refine run_seq ?_
              refine run_seq ?_
              have RE := E
              have RO1 := O1
              have RO8 := O8
              refine run_held (ι := Unit) (fun x_ w' => match x_ with | () => Ext w12 w' ∧ True) (fun x_ => match x_ with | () => [(0, .slice p0 n0 c0), (3, .pointer (some ⟨b1, 0, none⟩)), (4, .bool false), (6, .slice q8_0 m8_0 d8_0), (7, .int .i64 (dissenters xs0 r1.Need r1.Votes).2), (8, .slice (some q36) n0 n0), (9, .pointer (some ⟨b7, 0, none⟩)), (10, .slice q42_0 m42_0 d42_0), (11, .int .i64 (dissenters xs0 r1.Need r1.Votes).2), (63, .bool false)]) (by kernel_rfl) ?_ ?_
              · intro w0_ F
                have z0_ := F.size
                have E := E.trans F
                replace X8_0 := X8_0.ext F
                replace G36 := G36.ext F
                replace G38 := G38.ext F
                replace G42_0 := G42_0.ext F
                replace G56 := G56.ext F
                replace O1 := O1.ext F
                replace O8 := O8.ext F
                refine h_take 0 (v := .agg #[.int .i64 r1.Need, .slice (some q38) n1_v n1_v]) rfl (by kernel_rfl) (by kernel_rfl) (by kernel_rfl) (fun w' x_ => xloadN Try.isAgg41 Try.sizeOf41 rfl ((RO8.cells).ext x_) rfl) rfl rfl rfl F ?_
                refine h_take 1 (v := .agg #[.int .i64 r1.Need, .slice p1_v n1_v c1_v]) rfl (by kernel_rfl) (by kernel_rfl) (by kernel_rfl) (fun w' x_ => xloadN Try.isAgg38 Try.sizeOf38 rfl ((RO1.cells).ext x_) rfl) rfl rfl rfl F ?_
                refine h_ready (rs := [2]) (by kernel_rfl) (by decide) ⟨?_, trivial⟩
                ·
                  refine hs_call rfl (xcall Try.call38 rfl) rfl rfl rfl (toPoll_ok r1 _ _ _ _ (Hv1_v.ext E) hm1_ (by omega)) ?_
                  rintro _ w13 ⟨e13, q61, rfl, G61⟩
                  have z13 := e13.size
                  have E := E.trans e13
                  replace X8_0 := X8_0.ext e13
                  replace G36 := G36.ext e13
                  replace G38 := G38.ext e13
                  replace G42_0 := G42_0.ext e13
                  replace G56 := G56.ext e13
                  replace O1 := O1.ext e13
                  replace O8 := O8.ext e13
                  have F := F.trans e13
                  refine ⟨F, ?_⟩
                  refine h_ready (rs := [3]) (by kernel_rfl) (by decide) ⟨?_, trivial⟩
                  ·
                    refine hs_call rfl (xcall Try.call40 rfl) rfl rfl rfl (eqPoll_ok _ _ _ _ _ _ (G38.sl) _ _ _ (G61.sl)) ?_
                    rintro _ w14 ⟨rfl, e14⟩
                    have z14 := e14.size
                    have E := E.trans e14
                    replace X8_0 := X8_0.ext e14
                    replace G36 := G36.ext e14
                    replace G38 := G38.ext e14
                    replace G42_0 := G42_0.ext e14
                    replace G56 := G56.ext e14
                    replace G61 := G61.ext e14
                    replace O1 := O1.ext e14
                    replace O8 := O8.ext e14
                    have F := F.trans e14
                    refine ⟨F, ?_⟩
                    refine h_bs (fun c62 => ?_) (fun c62 => ?_)
                    ·
                      refine h_take 4 rfl (by kernel_rfl) (by kernel_rfl) (by kernel_rfl) (fun w' x_ => xnot rfl) rfl rfl rfl F ?_
                      refine h_done (by kernel_rfl) ?_
                      intro a_ ha_
                      exact ⟨(), ⟨F, trivial⟩, ha_.sub ⟨rfl, rfl, rfl, rfl, rfl, rfl, rfl, rfl, rfl, rfl, trivial⟩⟩
                    · exfalso; rw [eqPoll_refl] at c62; cases c62
              · intro x_
                obtain ⟨⟩ := x_
                rintro w13 ⟨e13, _⟩
                have z13 := e13.size
                have E := E.trans e13
                replace X8_0 := X8_0.ext e13
                replace G36 := G36.ext e13
                replace G38 := G38.ext e13
                replace G42_0 := G42_0.ext e13
                replace G56 := G56.ext e13
                replace O1 := O1.ext e13
                replace O8 := O8.ext e13
                refine run_cond_f rfl ?_
                refine run_skip ?_
                refine run_seq ?_
                refine run_region ?_
                refine ov (xassign rfl) rfl rfl rfl ?_
                refine ops_nil ?_
                refine run_seq ?_
                refine run_region ?_
                refine ov (xmove rfl) rfl rfl rfl ?_
                refine ov (xmove rfl) rfl rfl rfl ?_
                refine oc (xcall Try.call43 rfl) rfl rfl rfl (markQuestionS_ok _ _ _ _ _ _ _ _ G36 (by omega) (by omega) (by omega)) ?_
                rintro _ w14 ⟨rfl, m14, g14⟩
                have z14 := m14.size
                have E := m14.toExt E (by omega)
                replace X8_0 := X8_0.off m14 (by omega)
                replace G38 := G38.off m14 (by omega)
                replace G42_0 := G42_0.off m14 (by omega)
                replace G56 := G56.off m14 (by omega)
                replace O1 := m14.own O1 (by omega)
                replace O8 := m14.own O8 (by omega)
                replace G36 := g14
                refine ov (xassign rfl) rfl rfl rfl ?_
                refine ops_nil ?_
                refine run_seq ?_
                refine run_region ?_
                refine ov (v := .agg #[.int .i64 r1.Need, .slice (some q38) n1_v n1_v]) (xloadN Try.isAgg41 Try.sizeOf41 rfl (O8.cells) rfl) rfl rfl rfl ?_
                refine ov (xmove rfl) rfl rfl rfl ?_
                refine oc (xcall Try.call62 rfl) rfl rfl rfl (markPoll_ok _ _ _ _ _ _ _ _ _ G38 (by omega) (by omega) (by omega) (by omega) (by omega)) ?_
                rintro _ w15 ⟨k69_, rfl, hk69_, m15, g15⟩
                have z15 := m15.size
                have E := m15.toExt E (by omega)
                replace X8_0 := X8_0.off m15 (by omega)
                replace G36 := G36.off m15 (by omega)
                replace G42_0 := G42_0.off m15 (by omega)
                replace G56 := G56.off m15 (by omega)
                replace O1 := m15.own O1 (by omega)
                replace O8 := m15.own O8 (by omega)
                replace G38 := g15
                refine ov (xassign rfl) rfl rfl rfl ?_
                refine ops_nil ?_
                refine run_seq ?_
                refine run_seq ?_
                refine run_region ?_
                refine ov (xmove rfl) rfl rfl rfl ?_
                refine ov (xlss rfl rfl _ rfl) rfl rfl rfl ?_
                refine ods (fun c71 => ?_) (fun c71 => ?_)
                · exfalso; omega
                ·
                  refine ov (xmove rfl) rfl rfl rfl ?_
                  refine ov (xmove rfl) rfl rfl rfl ?_
                  refine ov (xmove rfl) rfl rfl rfl ?_
                  refine oc (xcall Try.call35 rfl) rfl rfl rfl (eqInt64S_ok _ _ _ _ _ _ _ _ _ (G42_0.sl) (X8_0.sl)) ?_
                  rintro _ w16 ⟨rfl, e16⟩
                  have z16 := e16.size
                  have E := E.trans e16
                  replace X8_0 := X8_0.ext e16
                  replace G36 := G36.ext e16
                  replace G38 := G38.ext e16
                  replace G42_0 := G42_0.ext e16
                  replace G56 := G56.ext e16
                  replace O1 := O1.ext e16
                  replace O8 := O8.ext e16
                  refine obs (fun c75 => ?_) (fun c75 => ?_)
                  ·
                    refine ov (xnot rfl) rfl rfl rfl ?_
                    refine ov (xpick_f rfl rfl) rfl rfl rfl ?_
                    refine ov (xmove rfl) rfl rfl rfl ?_
                    refine ov (xmove rfl) rfl rfl rfl ?_
                    refine ov (xmove rfl) rfl rfl rfl ?_
                    refine ov (xneq rfl rfl _ rfl) rfl rfl rfl ?_
                    refine ods (fun c81 => ?_) (fun c81 => ?_)
                    · exfalso; first | exact absurd rfl c81 | omega
                    ·
                      refine ov (xpick_f rfl rfl) rfl rfl rfl ?_
                      refine ops_nil ?_
                      refine run_cond_f rfl ?_
                      refine run_skip ?_
                      refine run_seq ?_
                      refine run_region ?_
                      refine ov (xassign rfl) rfl rfl rfl ?_
                      refine ops_nil ?_
                      refine run_seq ?_
                      refine run_region ?_
                      refine ov (xmove rfl) rfl rfl rfl ?_
                      refine ov (xmove rfl) rfl rfl rfl ?_
                      refine oc (xcall Try.call44 rfl) rfl rfl rfl (markInt64S_ok _ _ _ _ _ _ _ _ G42_0 (by omega) (by omega) (by omega)) ?_
                      rintro _ w17 ⟨rfl, m17, g17⟩
                      have z17 := m17.size
                      have E := m17.toExt E (by omega)
                      replace X8_0 := X8_0.off m17 (by omega)
                      replace G36 := G36.off m17 (by omega)
                      replace G38 := G38.off m17 (by omega)
                      replace G56 := G56.off m17 (by omega)
                      replace O1 := m17.own O1 (by omega)
                      replace O8 := m17.own O8 (by omega)
                      replace G42_0 := g17
                      refine ov (xassign rfl) rfl rfl rfl ?_
                      refine ops_nil ?_
                      refine run_seq ?_
                      refine run_region ?_
                      refine ov (xassign rfl) rfl rfl rfl ?_
                      refine ops_nil ?_
                      refine run_seq ?_
                      refine run_region ?_
                      refine ov (xmove rfl) rfl rfl rfl ?_
                      refine ov (xmove rfl) rfl rfl rfl ?_
                      refine oc (xcall Try.call45 rfl) rfl rfl rfl (heldInt64S_ok _ _ _ _ _ _ (G42_0.sl) (by omega) (by omega) (by omega)) ?_
                      rintro _ w18 ⟨rfl, e18⟩
                      have z18 := e18.size
                      have E := E.trans e18
                      replace X8_0 := X8_0.ext e18
                      replace G36 := G36.ext e18
                      replace G38 := G38.ext e18
                      replace G42_0 := G42_0.ext e18
                      replace G56 := G56.ext e18
                      replace O1 := O1.ext e18
                      replace O8 := O8.ext e18
                      refine ov (xassign rfl) rfl rfl rfl ?_
                      refine ops_nil ?_
                      refine run_seq ?_
                      refine run_seq ?_
                      refine run_region ?_
                      refine ov (xmove rfl) rfl rfl rfl ?_
                      refine ov (xlss rfl rfl _ rfl) rfl rfl rfl ?_
                      refine ods (fun c90 => ?_) (fun c90 => ?_)
                      · exfalso; omega
                      ·
                        refine ops_nil ?_
                        refine run_cond_f rfl ?_
                        refine run_skip ?_
                        refine run_seq ?_
                        refine run_seq ?_
                        refine run_region ?_
                        refine ov (xmove rfl) rfl rfl rfl ?_
                        refine ov (xmove rfl) rfl rfl rfl ?_
                        refine ov (xneq rfl rfl _ rfl) rfl rfl rfl ?_
                        refine ods (fun c93 => ?_) (fun c93 => ?_)
                        · exfalso; first | exact absurd rfl c93 | omega
                        ·
                          refine ops_nil ?_
                          refine run_cond_f rfl ?_
                          refine run_skip ?_
                          refine run_seq ?_
                          have RE := E
                          have RO1 := O1
                          have RO8 := O8
                          refine run_held (ι := Option Addr × Nat × Nat) (fun x_ w' => match x_ with | (q31_0, m31_0, d31_0) => Ext w18 w' ∧ Ow i64c 1 2 w' w18.heap.size w'.heap.size q31_0 m31_0 d31_0 ((dissenters xs0 r1.Need r1.Votes).1)) (fun x_ => match x_ with | (q31_0, m31_0, d31_0) => [(4, .bool false), (6, .slice q8_0 m8_0 d8_0), (7, .int .i64 (dissenters xs0 r1.Need r1.Votes).2), (10, .slice q42_0 m42_0 d42_0), (13, .int .i64 (1 + 1 * (m42_0 : Int))), (14, .int .i64 (1 + 1 * (m42_0 : Int))), (15, .slice q31_0 m31_0 d31_0), (16, .int .i64 (dissenters xs0 r1.Need r1.Votes).2)]) (by kernel_rfl) ?_ ?_
                          · intro w0_ F
                            have z0_ := F.size
                            have E := E.trans F
                            replace X8_0 := X8_0.ext F
                            replace G36 := G36.ext F
                            replace G38 := G38.ext F
                            replace G42_0 := G42_0.ext F
                            replace G56 := G56.ext F
                            replace O1 := O1.ext F
                            replace O8 := O8.ext F
                            refine h_take 0 rfl (by kernel_rfl) (by kernel_rfl) (by kernel_rfl) (fun w' x_ => xmove rfl) rfl rfl rfl F ?_
                            refine h_take 2 (v := .agg #[.int .i64 r1.Need, .slice p1_v n1_v c1_v]) rfl (by kernel_rfl) (by kernel_rfl) (by kernel_rfl) (fun w' x_ => xloadN Try.isAgg38 Try.sizeOf38 rfl ((RO1.cells).ext x_) rfl) rfl rfl rfl F ?_
                            refine h_ready (rs := [1]) (by kernel_rfl) (by decide) ⟨?_, trivial⟩
                            ·
                              refine hs_call rfl (xcall Try.call27 rfl) rfl rfl rfl (toQuestionS_ok _ _ _ xs0 _ (H0.ext E) (by omega)) ?_
                              rintro _ w19 ⟨e19, q96, rfl, G96⟩
                              have z19 := e19.size
                              have E := E.trans e19
                              replace X8_0 := X8_0.ext e19
                              replace G36 := G36.ext e19
                              replace G38 := G38.ext e19
                              replace G42_0 := G42_0.ext e19
                              replace G56 := G56.ext e19
                              replace O1 := O1.ext e19
                              replace O8 := O8.ext e19
                              have F := F.trans e19
                              refine ⟨F, ?_⟩
                              refine h_ready (rs := [3]) (by kernel_rfl) (by decide) ⟨?_, trivial⟩
                              ·
                                refine hs_call rfl (xcall Try.call38 rfl) rfl rfl rfl (toPoll_ok r1 _ _ _ _ (Hv1_v.ext E) hm1_ (by omega)) ?_
                                rintro _ w20 ⟨e20, q98, rfl, G98⟩
                                have z20 := e20.size
                                have E := E.trans e20
                                replace X8_0 := X8_0.ext e20
                                replace G36 := G36.ext e20
                                replace G38 := G38.ext e20
                                replace G42_0 := G42_0.ext e20
                                replace G56 := G56.ext e20
                                replace G96 := G96.ext e20
                                replace O1 := O1.ext e20
                                replace O8 := O8.ext e20
                                have F := F.trans e20
                                refine ⟨F, ?_⟩
                                refine h_ready (rs := [4]) (by kernel_rfl) (by decide) ⟨?_, trivial⟩
                                ·
                                  refine hs_call rfl (xcall Try.call77 rfl) rfl rfl rfl (Dissenters_ok _ _ _ xs0 r1.Need r1.Votes _ _ _ _ (G96.sl) hc0 (G98.sl).sn) ?_
                                  rintro _ w21 ⟨e21, q99_0, m99_0, d99_0, rfl, G99_0⟩
                                  have z21 := e21.size
                                  have E := E.trans e21
                                  replace X8_0 := X8_0.ext e21
                                  replace G36 := G36.ext e21
                                  replace G38 := G38.ext e21
                                  replace G42_0 := G42_0.ext e21
                                  replace G56 := G56.ext e21
                                  replace G96 := G96.ext e21
                                  replace G98 := G98.ext e21
                                  replace O1 := O1.ext e21
                                  replace O8 := O8.ext e21
                                  have F := F.trans e21
                                  have lG99_0 := G99_0.len
                                  have hl_ := dissenters_len xs0 r1.Need r1.Votes
                                  refine ⟨F, ?_⟩
                                  refine h_take 5 rfl (by kernel_rfl) (by kernel_rfl) (by kernel_rfl) (fun w' x_ => xmove rfl) rfl rfl rfl F ?_
                                  refine h_take 6 rfl (by kernel_rfl) (by kernel_rfl) (by kernel_rfl) (fun w' x_ => xextract rfl rfl) rfl rfl rfl F ?_
                                  refine h_take 7 rfl (by kernel_rfl) (by kernel_rfl) (by kernel_rfl) (fun w' x_ => xextract rfl rfl) rfl rfl rfl F ?_
                                  refine h_take 8 rfl (by kernel_rfl) (by kernel_rfl) (by kernel_rfl) (fun w' x_ => xassign rfl) rfl rfl rfl F ?_
                                  refine h_take 9 rfl (by kernel_rfl) (by kernel_rfl) (by kernel_rfl) (fun w' x_ => xassign rfl) rfl rfl rfl F ?_
                                  refine h_done (by kernel_rfl) ?_
                                  intro a_ ha_
                                  exact ⟨(q99_0, m99_0, d99_0), ⟨F, G99_0.wide (by omega) (by omega)⟩, ha_.sub ⟨rfl, rfl, rfl, rfl, rfl, rfl, rfl, rfl, trivial⟩⟩
                          · intro x_
                            obtain ⟨q31_0, m31_0, d31_0⟩ := x_
                            rintro w19 ⟨e19, X31_0⟩
                            have z19 := e19.size
                            have E := E.trans e19
                            replace X8_0 := X8_0.ext e19
                            replace G36 := G36.ext e19
                            replace G38 := G38.ext e19
                            replace G42_0 := G42_0.ext e19
                            replace G56 := G56.ext e19
                            replace O1 := O1.ext e19
                            replace O8 := O8.ext e19
                            have lX31_0 := X31_0.len
                            have hl_ := dissenters_len xs0 r1.Need r1.Votes
                            refine run_seq ?_
                            refine run_seq ?_
                            refine run_region ?_
                            refine ov (xmove rfl) rfl rfl rfl ?_
                            refine ov (xmove rfl) rfl rfl rfl ?_
                            refine oc (xcall Try.call35 rfl) rfl rfl rfl (eqInt64S_ok _ _ _ _ _ _ _ _ _ (X31_0.sl) (X8_0.sl)) ?_
                            rintro _ w20 ⟨rfl, e20⟩
                            have z20 := e20.size
                            have E := E.trans e20
                            replace X8_0 := X8_0.ext e20
                            replace G36 := G36.ext e20
                            replace G38 := G38.ext e20
                            replace G42_0 := G42_0.ext e20
                            replace G56 := G56.ext e20
                            replace X31_0 := X31_0.ext e20
                            replace O1 := O1.ext e20
                            replace O8 := O8.ext e20
                            refine obs (fun c104 => ?_) (fun c104 => ?_)
                            ·
                              refine ov (xnot rfl) rfl rfl rfl ?_
                              refine ov (xmove rfl) rfl rfl rfl ?_
                              refine ov (xmove rfl) rfl rfl rfl ?_
                              refine ov (xmove rfl) rfl rfl rfl ?_
                              refine ov (xneq rfl rfl _ rfl) rfl rfl rfl ?_
                              refine ods (fun c109 => ?_) (fun c109 => ?_)
                              · exfalso; first | exact absurd rfl c109 | omega
                              ·
                                refine ov (xpick_f rfl rfl) rfl rfl rfl ?_
                                refine ops_nil ?_
                                refine run_cond_f rfl ?_
                                refine run_skip ?_
                                refine run_seq ?_
                                refine run_region ?_
                                refine ov (xassign rfl) rfl rfl rfl ?_
                                refine ops_nil ?_
                                refine run_seq ?_
                                refine run_region ?_
                                refine ov (xmove rfl) rfl rfl rfl ?_
                                refine ov (xmove rfl) rfl rfl rfl ?_
                                refine oc (xcall Try.call45 rfl) rfl rfl rfl (heldInt64S_ok _ _ _ _ _ _ (G42_0.sl) (by omega) (by omega) (by omega)) ?_
                                rintro _ w21 ⟨rfl, e21⟩
                                have z21 := e21.size
                                have E := E.trans e21
                                replace X8_0 := X8_0.ext e21
                                replace G36 := G36.ext e21
                                replace G38 := G38.ext e21
                                replace G42_0 := G42_0.ext e21
                                replace G56 := G56.ext e21
                                replace X31_0 := X31_0.ext e21
                                replace O1 := O1.ext e21
                                replace O8 := O8.ext e21
                                refine ov (xassign rfl) rfl rfl rfl ?_
                                refine ops_nil ?_
                                refine run_seq ?_
                                refine run_seq ?_
                                refine run_region ?_
                                refine ov (xmove rfl) rfl rfl rfl ?_
                                refine ov (xlss rfl rfl _ rfl) rfl rfl rfl ?_
                                refine ods (fun c115 => ?_) (fun c115 => ?_)
                                · exfalso; omega
                                ·
                                  refine ops_nil ?_
                                  refine run_cond_f rfl ?_
                                  refine run_skip ?_
                                  refine run_seq ?_
                                  refine run_seq ?_
                                  refine run_region ?_
                                  refine ov (xmove rfl) rfl rfl rfl ?_
                                  refine ov (xmove rfl) rfl rfl rfl ?_
                                  refine ov (xneq rfl rfl _ rfl) rfl rfl rfl ?_
                                  refine ods (fun c118 => ?_) (fun c118 => ?_)
                                  · exfalso; first | exact absurd rfl c118 | omega
                                  ·
                                    refine ops_nil ?_
                                    refine run_cond_f rfl ?_
                                    refine run_skip ?_
                                    refine run_seq ?_
                                    refine run_region ?_
                                    refine ov (xassign rfl) rfl rfl rfl ?_
                                    refine ops_nil ?_
                                    refine run_ret Try.func20 (res1 rfl rfl) ?_
                                    exact ⟨_, rfl, pv E⟩
                            · exfalso; rw [eqL_refl eqI_refl] at c104; cases c104
                  · exfalso; rw [eqL_refl eqI_refl] at c75; cases c75
            · exfalso; rw [eqL_refl eqQuestion_refl] at c57; cases c57
        · exfalso; rw [eqL_refl eqI_refl] at c47; cases c47
end Go.Proofs.Ytinpkihmkfiidaa
