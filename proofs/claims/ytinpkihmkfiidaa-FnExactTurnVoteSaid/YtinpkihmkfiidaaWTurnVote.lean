/-
  The walk of the law FnExactTurnVote. No condition beyond those written in the theorem.
-/
import Derived.Test.YtinpkihmkfiidaaQuesRead
import Derived.Test.YtinpkihmkfiidaaPollRead
import Derived.Test.YtinpkihmkfiidaaNestClose
import Derived.Test.YtinpkihmkfiidaaToB
import Derived.Test.YtinpkihmkfiidaaPolls2
import Derived.Test.YtinpkihmkfiidaaMarkB
import Derived.Test.YtinpkihmkfiidaaMarkQ
import Derived.Test.YtinpkihmkfiidaaTurnF
namespace Go.Proofs.Ytinpkihmkfiidaa
open Go.RowKit
set_option linter.unusedVariables false
set_option linter.unusedSimpArgs false
set_option linter.unusedSectionVars false
set_option maxRecDepth 4000

set_option maxHeartbeats 4000000 in
theorem FnExactTurnVote_ok (w : World) (p0 : Option Addr) (n0 c0 : Nat) (xs0 : List Question) (H0 : Sl Question.cells 3 w p0 n0 c0 xs0) (hx0 : ∀ x ∈ xs0, x.ok) (r1 : Poll) (p1_v : Option Addr) (n1_v c1_v : Nat) (Hv1_v : SnInt64SS w p1_v n1_v c1_v r1.Votes) (hr1 : r1.ok) (k2 : Int) (hk2 : I64 k2) (k3 : Int) (hk3 : I64 k3) : Ret Try.prog 16 [.slice p0 n0 c0, .agg #[.int .i64 r1.Need, .slice p1_v n1_v c1_v], .int .i64 k2, .int .i64 k3] w (Pv w (.bool true)) := by
  refine ret_of_run (N := 129) Try.func16 rfl rfl rfl ?_
  have hn0 := H0.len
  have hn1_v := Hv1_v.len
  have hc0 : ∀ x ∈ xs0, x.Label.size ≤ 9223372036854775807 := fun x h => (hx0 x h).1
  have E : Ext w w := Ext.refl w
  refine run_seq ?_
  refine run_region ?_
  refine obox rfl rfl rfl ?_
  intro b1 w1 e1 hb1 hz1 O1
  have E := E.trans e1
  replace O1 : Own w1 b1 [.int .i64 r1.Need, .slice p1_v n1_v c1_v] 38 := O1
  refine ov (xassign rfl) rfl rfl rfl ?_
  refine ops_nil ?_
  refine run_seq ?_
  refine run_region ?_
  refine ov (xassign rfl) rfl rfl rfl ?_
  refine ops_nil ?_
  refine run_seq ?_
  refine run_region ?_
  refine ov (xmove rfl) rfl rfl rfl ?_
  refine ov (xmove rfl) rfl rfl rfl ?_
  refine oc (xcall Try.call25 rfl) rfl rfl rfl (szQuestionS_ok _ _ _ xs0 1048576 _ (H0.ext E) hx0 (by omega) (by omega)) ?_
  rintro _ w2 ⟨rfl, e2⟩
  have z2 := e2.size
  have E := E.trans e2
  replace O1 := O1.ext e2
  refine ov (xassign rfl) rfl rfl rfl ?_
  refine ops_nil ?_
  refine run_seq ?_
  refine run_seq ?_
  refine run_region ?_
  refine ov (xmove rfl) rfl rfl rfl ?_
  refine ov (xlss rfl rfl _ rfl) rfl rfl rfl ?_
  refine ods (fun c25 => ?_) (fun c25 => ?_)
  ·
    refine ops_nil ?_
    refine run_cond_t rfl ?_
    refine run_seq ?_
    refine run_region ?_
    refine ov (xassign rfl) rfl rfl rfl ?_
    refine ops_nil ?_
    refine run_ret Try.func16 (res1 rfl rfl) ?_
    exact ⟨_, rfl, pv E⟩
  ·
    have hz0_ := szS_len szQuestion_le (by omega : 0 ≤ szS szQuestion xs0 1048576)
    refine ops_nil ?_
    refine run_cond_f rfl ?_
    refine run_skip ?_
    refine run_seq ?_
    refine run_region ?_
    refine ov (v := .agg #[.int .i64 r1.Need, .slice p1_v n1_v c1_v]) (xloadN Try.isAgg38 Try.sizeOf38 rfl (O1.cells) rfl) rfl rfl rfl ?_
    refine ov (xmove rfl) rfl rfl rfl ?_
    refine oc (xcall Try.call36 rfl) rfl rfl rfl (szPoll_ok r1 (szS szQuestion xs0 1048576) _ _ _ _ (Hv1_v.ext E) hr1 (by omega) (by omega)) ?_
    rintro _ w3 ⟨rfl, e3⟩
    have z3 := e3.size
    have E := E.trans e3
    replace O1 := O1.ext e3
    refine ov (xassign rfl) rfl rfl rfl ?_
    refine ops_nil ?_
    refine run_seq ?_
    refine run_seq ?_
    refine run_region ?_
    refine ov (xmove rfl) rfl rfl rfl ?_
    refine ov (xlss rfl rfl _ rfl) rfl rfl rfl ?_
    refine ods (fun c30 => ?_) (fun c30 => ?_)
    ·
      refine ops_nil ?_
      refine run_cond_t rfl ?_
      refine run_seq ?_
      refine run_region ?_
      refine ov (xassign rfl) rfl rfl rfl ?_
      refine ops_nil ?_
      refine run_ret Try.func16 (res1 rfl rfl) ?_
      exact ⟨_, rfl, pv E⟩
    ·
      have hz1_ := szMemInt64SS (xs := r1.Votes) (l := (szS szQuestion xs0 1048576)) (by have h_ : 0 ≤ szPoll r1 (szS szQuestion xs0 1048576) := (by omega); exact h_)
      have hm1_ : ∀ x ∈ r1.Votes, ((innInt64SS x).length : Int) ≤ 1048576 := fun x m => by have := hz1_.2.2.1 x m; omega
      replace hz1_ : _ ∧ _ ∧ _ := ⟨hz1_.1, hz1_.2.1, hz1_.2.2.2⟩
      refine ops_nil ?_
      refine run_cond_f rfl ?_
      refine run_skip ?_
      refine run_seq ?_
      have RE := E
      have RO1 := O1
      refine run_held (ι := Option Addr × Nat × Nat × Nat × Nat × Nat) (fun x_ w' => match x_ with | (q8_0, m8_0, d8_0, la8_0, ha8_0, bx10) => Ext w3 w' ∧ OnInt64SS w' la8_0 ha8_0 q8_0 m8_0 d8_0 ((turnVote xs0 r1.Need r1.Votes k2 k3).1.2) ∧ w3.heap.size ≤ bx10 ∧ Own w' bx10 [.int .i64 (turnVote xs0 r1.Need r1.Votes k2 k3).1.1, .slice q8_0 m8_0 d8_0] 41 ∧ (w3.heap.size ≤ la8_0 ∧ ha8_0 ≤ w'.heap.size ∧ (bx10 < la8_0 ∨ ha8_0 ≤ bx10))) (fun x_ => match x_ with | (q8_0, m8_0, d8_0, la8_0, ha8_0, bx10) => [(0, .slice p0 n0 c0), (2, .int .i64 k2), (3, .int .i64 k3), (5, .pointer (some ⟨b1, 0, none⟩)), (8, .bool false), (11, .int .i64 (turnVote xs0 r1.Need r1.Votes k2 k3).2), (10, .pointer (some ⟨bx10, 0, none⟩))]) (by kernel_rfl) ?_ ?_
      · intro w0_ F
        have z0_ := F.size
        have E := E.trans F
        replace O1 := O1.ext F
        refine h_take 0 rfl (by kernel_rfl) (by kernel_rfl) (by kernel_rfl) (fun w' x_ => xmove rfl) rfl rfl rfl F ?_
        refine h_take 2 (v := .agg #[.int .i64 r1.Need, .slice p1_v n1_v c1_v]) rfl (by kernel_rfl) (by kernel_rfl) (by kernel_rfl) (fun w' x_ => xloadN Try.isAgg38 Try.sizeOf38 rfl ((RO1.cells).ext x_) rfl) rfl rfl rfl F ?_
        refine h_take 4 rfl (by kernel_rfl) (by kernel_rfl) (by kernel_rfl) (fun w' x_ => xmove rfl) rfl rfl rfl F ?_
        refine h_take 5 rfl (by kernel_rfl) (by kernel_rfl) (by kernel_rfl) (fun w' x_ => xmove rfl) rfl rfl rfl F ?_
        refine h_ready (rs := [1, 10]) (by kernel_rfl) (by decide) ⟨?_, ?_, trivial⟩
        ·
          refine hs_call rfl (xcall Try.call27 rfl) rfl rfl rfl (toQuestionS_ok _ _ _ xs0 _ (H0.ext E) (by omega)) ?_
          rintro _ w4 ⟨e4, q33, rfl, G33⟩
          have z4 := e4.size
          have E := E.trans e4
          replace O1 := O1.ext e4
          have F := F.trans e4
          refine ⟨F, ?_⟩
          refine h_ready (rs := [3, 10]) (by kernel_rfl) (by decide) ⟨?_, ?_, trivial⟩
          ·
            refine hs_call rfl (xcall Try.call38 rfl) rfl rfl rfl (toPoll_ok r1 _ _ _ _ (Hv1_v.ext E) hm1_ (by omega)) ?_
            rintro _ w5 ⟨e5, q35, rfl, G35⟩
            have z5 := e5.size
            have E := E.trans e5
            replace G33 := G33.ext e5
            replace O1 := O1.ext e5
            have F := F.trans e5
            refine ⟨F, ?_⟩
            refine h_ready (rs := [6, 10]) (by kernel_rfl) (by decide) ⟨?_, ?_, trivial⟩
            ·
              refine hs_call rfl (xcall Try.call63 rfl) rfl rfl rfl (sTurnVote_ok _ _ _ xs0 r1.Need r1.Votes _ _ _ _ (G33.sl) hc0 (G35.sl).sn k2 k3) ?_
              rintro _ w6 ⟨e6, q38_0, m38_0, d38_0, rfl, G38_0⟩
              have z6 := e6.size
              have E := E.trans e6
              replace G33 := G33.ext e6
              replace G35 := G35.ext e6
              replace O1 := O1.ext e6
              have F := F.trans e6
              have lG38_0 := G38_0.len
              have hl_ := turn_len xs0 r1.Need r1.Votes k2 k3
              refine ⟨F, ?_⟩
              refine h_take 7 rfl (by kernel_rfl) (by kernel_rfl) (by kernel_rfl) (fun w' x_ => xmove rfl) rfl rfl rfl F ?_
              refine h_take 8 rfl (by kernel_rfl) (by kernel_rfl) (by kernel_rfl) (fun w' x_ => xextract rfl rfl) rfl rfl rfl F ?_
              refine h_take 9 rfl (by kernel_rfl) (by kernel_rfl) (by kernel_rfl) (fun w' x_ => xextract rfl rfl) rfl rfl rfl F ?_
              refine h_ready (rs := [10]) (by kernel_rfl) (by decide) ⟨?_, trivial⟩
              ·
                refine hs_alloc Try.zeroValue41 F rfl rfl rfl ?_
                intro b7 w7 e7 hb7 hz7 O7
                have E := E.trans e7
                replace G33 := G33.ext e7
                replace G35 := G35.ext e7
                replace G38_0 := G38_0.ext e7
                replace O1 := O1.ext e7
                have F := F.trans e7
                replace O7 : Own w7 b7 [.int .i64 0, .slice none 0 0] 41 := O7
                refine h_ready (rs := [11]) (by kernel_rfl) (by decide) ⟨?_, trivial⟩
                ·
                  refine hs_storeN (vs := [.int .i64 (turnVote xs0 r1.Need r1.Votes k2 k3).1.1, .slice q38_0 m38_0 d38_0]) Try.sizeOf41 rfl rfl O7 rfl (by simp) (by simp [Value.oneCell']) F (by omega) rfl rfl ?_
                  intro w8 on8 O8
                  have hz8 := on8.size
                  have E := on8.ext E (by omega)
                  replace G33 := G33.only on8 (by omega)
                  replace G35 := G35.only on8 (by omega)
                  replace G38_0 := G38_0.only on8 (by omega)
                  replace O1 := on8.own O1 (by omega)
                  have F := on8.ext F (by omega)
                  replace O8 : Own w8 b7 [.int .i64 (turnVote xs0 r1.Need r1.Votes k2 k3).1.1, .slice q38_0 m38_0 d38_0] 41 := O8
                  refine h_take 12 rfl (by kernel_rfl) (by kernel_rfl) (by kernel_rfl) (fun w' x_ => xassign rfl) rfl rfl rfl F ?_
                  refine h_done (by kernel_rfl) ?_
                  intro a_ ha_
                  exact ⟨(q38_0, m38_0, d38_0, _, _, b7), ⟨F, ⟨G38_0, by omega, O8, by omega⟩⟩, ha_.sub ⟨rfl, rfl, rfl, rfl, rfl, rfl, rfl, trivial⟩⟩
            ·
              refine hs_alloc Try.zeroValue41 F rfl rfl rfl ?_
              intro b6 w6 e6 hb6 hz6 O6
              have E := E.trans e6
              replace G33 := G33.ext e6
              replace G35 := G35.ext e6
              replace O1 := O1.ext e6
              have F := F.trans e6
              replace O6 : Own w6 b6 [.int .i64 0, .slice none 0 0] 41 := O6
              refine h_ready (rs := [6]) (by kernel_rfl) (by decide) ⟨?_, trivial⟩
              ·
                refine hs_call rfl (xcall Try.call63 rfl) rfl rfl rfl (sTurnVote_ok _ _ _ xs0 r1.Need r1.Votes _ _ _ _ (G33.sl) hc0 (G35.sl).sn k2 k3) ?_
                rintro _ w7 ⟨e7, q38_0, m38_0, d38_0, rfl, G38_0⟩
                have z7 := e7.size
                have E := E.trans e7
                replace G33 := G33.ext e7
                replace G35 := G35.ext e7
                replace O1 := O1.ext e7
                replace O6 := O6.ext e7
                have F := F.trans e7
                have lG38_0 := G38_0.len
                have hl_ := turn_len xs0 r1.Need r1.Votes k2 k3
                refine ⟨F, ?_⟩
                refine h_take 7 rfl (by kernel_rfl) (by kernel_rfl) (by kernel_rfl) (fun w' x_ => xmove rfl) rfl rfl rfl F ?_
                refine h_take 8 rfl (by kernel_rfl) (by kernel_rfl) (by kernel_rfl) (fun w' x_ => xextract rfl rfl) rfl rfl rfl F ?_
                refine h_take 9 rfl (by kernel_rfl) (by kernel_rfl) (by kernel_rfl) (fun w' x_ => xextract rfl rfl) rfl rfl rfl F ?_
                refine h_ready (rs := [11]) (by kernel_rfl) (by decide) ⟨?_, trivial⟩
                ·
                  refine hs_storeN (vs := [.int .i64 (turnVote xs0 r1.Need r1.Votes k2 k3).1.1, .slice q38_0 m38_0 d38_0]) Try.sizeOf41 rfl rfl O6 rfl (by simp) (by simp [Value.oneCell']) F (by omega) rfl rfl ?_
                  intro w8 on8 O8
                  have hz8 := on8.size
                  have E := on8.ext E (by omega)
                  replace G33 := G33.only on8 (by omega)
                  replace G35 := G35.only on8 (by omega)
                  replace G38_0 := G38_0.only on8 (by omega)
                  replace O1 := on8.own O1 (by omega)
                  have F := on8.ext F (by omega)
                  replace O8 : Own w8 b6 [.int .i64 (turnVote xs0 r1.Need r1.Votes k2 k3).1.1, .slice q38_0 m38_0 d38_0] 41 := O8
                  refine h_take 12 rfl (by kernel_rfl) (by kernel_rfl) (by kernel_rfl) (fun w' x_ => xassign rfl) rfl rfl rfl F ?_
                  refine h_done (by kernel_rfl) ?_
                  intro a_ ha_
                  exact ⟨(q38_0, m38_0, d38_0, _, _, b6), ⟨F, ⟨G38_0, by omega, O8, by omega⟩⟩, ha_.sub ⟨rfl, rfl, rfl, rfl, rfl, rfl, rfl, trivial⟩⟩
          ·
            refine hs_alloc Try.zeroValue41 F rfl rfl rfl ?_
            intro b5 w5 e5 hb5 hz5 O5
            have E := E.trans e5
            replace G33 := G33.ext e5
            replace O1 := O1.ext e5
            have F := F.trans e5
            replace O5 : Own w5 b5 [.int .i64 0, .slice none 0 0] 41 := O5
            refine h_ready (rs := [3]) (by kernel_rfl) (by decide) ⟨?_, trivial⟩
            ·
              refine hs_call rfl (xcall Try.call38 rfl) rfl rfl rfl (toPoll_ok r1 _ _ _ _ (Hv1_v.ext E) hm1_ (by omega)) ?_
              rintro _ w6 ⟨e6, q35, rfl, G35⟩
              have z6 := e6.size
              have E := E.trans e6
              replace G33 := G33.ext e6
              replace O1 := O1.ext e6
              replace O5 := O5.ext e6
              have F := F.trans e6
              refine ⟨F, ?_⟩
              refine h_ready (rs := [6]) (by kernel_rfl) (by decide) ⟨?_, trivial⟩
              ·
                refine hs_call rfl (xcall Try.call63 rfl) rfl rfl rfl (sTurnVote_ok _ _ _ xs0 r1.Need r1.Votes _ _ _ _ (G33.sl) hc0 (G35.sl).sn k2 k3) ?_
                rintro _ w7 ⟨e7, q38_0, m38_0, d38_0, rfl, G38_0⟩
                have z7 := e7.size
                have E := E.trans e7
                replace G33 := G33.ext e7
                replace G35 := G35.ext e7
                replace O1 := O1.ext e7
                replace O5 := O5.ext e7
                have F := F.trans e7
                have lG38_0 := G38_0.len
                have hl_ := turn_len xs0 r1.Need r1.Votes k2 k3
                refine ⟨F, ?_⟩
                refine h_take 7 rfl (by kernel_rfl) (by kernel_rfl) (by kernel_rfl) (fun w' x_ => xmove rfl) rfl rfl rfl F ?_
                refine h_take 8 rfl (by kernel_rfl) (by kernel_rfl) (by kernel_rfl) (fun w' x_ => xextract rfl rfl) rfl rfl rfl F ?_
                refine h_take 9 rfl (by kernel_rfl) (by kernel_rfl) (by kernel_rfl) (fun w' x_ => xextract rfl rfl) rfl rfl rfl F ?_
                refine h_ready (rs := [11]) (by kernel_rfl) (by decide) ⟨?_, trivial⟩
                ·
                  refine hs_storeN (vs := [.int .i64 (turnVote xs0 r1.Need r1.Votes k2 k3).1.1, .slice q38_0 m38_0 d38_0]) Try.sizeOf41 rfl rfl O5 rfl (by simp) (by simp [Value.oneCell']) F (by omega) rfl rfl ?_
                  intro w8 on8 O8
                  have hz8 := on8.size
                  have E := on8.ext E (by omega)
                  replace G33 := G33.only on8 (by omega)
                  replace G35 := G35.only on8 (by omega)
                  replace G38_0 := G38_0.only on8 (by omega)
                  replace O1 := on8.own O1 (by omega)
                  have F := on8.ext F (by omega)
                  replace O8 : Own w8 b5 [.int .i64 (turnVote xs0 r1.Need r1.Votes k2 k3).1.1, .slice q38_0 m38_0 d38_0] 41 := O8
                  refine h_take 12 rfl (by kernel_rfl) (by kernel_rfl) (by kernel_rfl) (fun w' x_ => xassign rfl) rfl rfl rfl F ?_
                  refine h_done (by kernel_rfl) ?_
                  intro a_ ha_
                  exact ⟨(q38_0, m38_0, d38_0, _, _, b5), ⟨F, ⟨G38_0, by omega, O8, by omega⟩⟩, ha_.sub ⟨rfl, rfl, rfl, rfl, rfl, rfl, rfl, trivial⟩⟩
        ·
          refine hs_alloc Try.zeroValue41 F rfl rfl rfl ?_
          intro b4 w4 e4 hb4 hz4 O4
          have E := E.trans e4
          replace O1 := O1.ext e4
          have F := F.trans e4
          replace O4 : Own w4 b4 [.int .i64 0, .slice none 0 0] 41 := O4
          refine h_ready (rs := [1]) (by kernel_rfl) (by decide) ⟨?_, trivial⟩
          ·
            refine hs_call rfl (xcall Try.call27 rfl) rfl rfl rfl (toQuestionS_ok _ _ _ xs0 _ (H0.ext E) (by omega)) ?_
            rintro _ w5 ⟨e5, q33, rfl, G33⟩
            have z5 := e5.size
            have E := E.trans e5
            replace O1 := O1.ext e5
            replace O4 := O4.ext e5
            have F := F.trans e5
            refine ⟨F, ?_⟩
            refine h_ready (rs := [3]) (by kernel_rfl) (by decide) ⟨?_, trivial⟩
            ·
              refine hs_call rfl (xcall Try.call38 rfl) rfl rfl rfl (toPoll_ok r1 _ _ _ _ (Hv1_v.ext E) hm1_ (by omega)) ?_
              rintro _ w6 ⟨e6, q35, rfl, G35⟩
              have z6 := e6.size
              have E := E.trans e6
              replace G33 := G33.ext e6
              replace O1 := O1.ext e6
              replace O4 := O4.ext e6
              have F := F.trans e6
              refine ⟨F, ?_⟩
              refine h_ready (rs := [6]) (by kernel_rfl) (by decide) ⟨?_, trivial⟩
              ·
                refine hs_call rfl (xcall Try.call63 rfl) rfl rfl rfl (sTurnVote_ok _ _ _ xs0 r1.Need r1.Votes _ _ _ _ (G33.sl) hc0 (G35.sl).sn k2 k3) ?_
                rintro _ w7 ⟨e7, q38_0, m38_0, d38_0, rfl, G38_0⟩
                have z7 := e7.size
                have E := E.trans e7
                replace G33 := G33.ext e7
                replace G35 := G35.ext e7
                replace O1 := O1.ext e7
                replace O4 := O4.ext e7
                have F := F.trans e7
                have lG38_0 := G38_0.len
                have hl_ := turn_len xs0 r1.Need r1.Votes k2 k3
                refine ⟨F, ?_⟩
                refine h_take 7 rfl (by kernel_rfl) (by kernel_rfl) (by kernel_rfl) (fun w' x_ => xmove rfl) rfl rfl rfl F ?_
                refine h_take 8 rfl (by kernel_rfl) (by kernel_rfl) (by kernel_rfl) (fun w' x_ => xextract rfl rfl) rfl rfl rfl F ?_
                refine h_take 9 rfl (by kernel_rfl) (by kernel_rfl) (by kernel_rfl) (fun w' x_ => xextract rfl rfl) rfl rfl rfl F ?_
                refine h_ready (rs := [11]) (by kernel_rfl) (by decide) ⟨?_, trivial⟩
                ·
                  refine hs_storeN (vs := [.int .i64 (turnVote xs0 r1.Need r1.Votes k2 k3).1.1, .slice q38_0 m38_0 d38_0]) Try.sizeOf41 rfl rfl O4 rfl (by simp) (by simp [Value.oneCell']) F (by omega) rfl rfl ?_
                  intro w8 on8 O8
                  have hz8 := on8.size
                  have E := on8.ext E (by omega)
                  replace G33 := G33.only on8 (by omega)
                  replace G35 := G35.only on8 (by omega)
                  replace G38_0 := G38_0.only on8 (by omega)
                  replace O1 := on8.own O1 (by omega)
                  have F := on8.ext F (by omega)
                  replace O8 : Own w8 b4 [.int .i64 (turnVote xs0 r1.Need r1.Votes k2 k3).1.1, .slice q38_0 m38_0 d38_0] 41 := O8
                  refine h_take 12 rfl (by kernel_rfl) (by kernel_rfl) (by kernel_rfl) (fun w' x_ => xassign rfl) rfl rfl rfl F ?_
                  refine h_done (by kernel_rfl) ?_
                  intro a_ ha_
                  exact ⟨(q38_0, m38_0, d38_0, _, _, b4), ⟨F, ⟨G38_0, by omega, O8, by omega⟩⟩, ha_.sub ⟨rfl, rfl, rfl, rfl, rfl, rfl, rfl, trivial⟩⟩
      · intro x_
        obtain ⟨q8_0, m8_0, d8_0, la8_0, ha8_0, bx10⟩ := x_
        rintro w4 ⟨e4, X8_0, hbx10, OX10, hla8_0⟩
        have z4 := e4.size
        have E := E.trans e4
        replace O1 := O1.ext e4
        have lX8_0 := X8_0.len
        have ltOX10 := OX10.lt
        have hl_ := turn_len xs0 r1.Need r1.Votes k2 k3
        refine run_seq ?_
        refine run_region ?_
        refine ov (xmove rfl) rfl rfl rfl ?_
        refine oc (xcall Try.call27 rfl) rfl rfl rfl (toQuestionS_ok _ _ _ xs0 _ (H0.ext E) (by omega)) ?_
        rintro _ w5 ⟨e5, q42, rfl, G42⟩
        have z5 := e5.size
        have E := E.trans e5
        replace X8_0 := X8_0.ext e5
        replace O1 := O1.ext e5
        replace OX10 := OX10.ext e5
        refine ov (xassign rfl) rfl rfl rfl ?_
        refine ops_nil ?_
        refine run_seq ?_
        refine run_region ?_
        refine ov (v := .agg #[.int .i64 r1.Need, .slice p1_v n1_v c1_v]) (xloadN Try.isAgg38 Try.sizeOf38 rfl (O1.cells) rfl) rfl rfl rfl ?_
        refine oc (xcall Try.call38 rfl) rfl rfl rfl (toPoll_ok r1 _ _ _ _ (Hv1_v.ext E) hm1_ (by omega)) ?_
        rintro _ w6 ⟨e6, q44, rfl, G44⟩
        have z6 := e6.size
        have E := E.trans e6
        replace X8_0 := X8_0.ext e6
        replace G42 := G42.ext e6
        replace O1 := O1.ext e6
        replace OX10 := OX10.ext e6
        refine oalloc Try.zeroValue41 rfl rfl ?_
        intro b7 w7 e7 hb7 hz7 O7
        have E := E.trans e7
        replace X8_0 := X8_0.ext e7
        replace G42 := G42.ext e7
        replace G44 := G44.ext e7
        replace O1 := O1.ext e7
        replace OX10 := OX10.ext e7
        replace O7 : Own w7 b7 [.int .i64 0, .slice none 0 0] 41 := O7
        refine ostoreN (vs := _) Try.sizeOf41 rfl rfl O7 rfl (by simp) (by simp [Value.oneCell']) rfl ?_
        intro w8 on8 O8
        have hz8 := on8.size
        have E := on8.ext E (by omega)
        replace X8_0 := X8_0.only on8 (by omega)
        replace G42 := G42.only on8 (by omega)
        replace G44 := G44.only on8 (by omega)
        replace O1 := on8.own O1 (by omega)
        replace OX10 := on8.own OX10 (by omega)
        replace O8 : Own w8 b7 [.int .i64 r1.Need, .slice (some q44) n1_v n1_v] 41 := O8
        refine ops_nil ?_
        refine run_seq ?_
        refine run_region ?_
        refine ov (xmove rfl) rfl rfl rfl ?_
        refine ov (v := .agg #[.int .i64 r1.Need, .slice (some q44) n1_v n1_v]) (xloadN Try.isAgg41 Try.sizeOf41 rfl (O8.cells) rfl) rfl rfl rfl ?_
        refine ov (xmove rfl) rfl rfl rfl ?_
        refine ov (xmove rfl) rfl rfl rfl ?_
        refine oc (xcall Try.call64 rfl) rfl rfl rfl (TurnVote_ok _ _ _ xs0 r1.Need r1.Votes _ _ _ _ (G42.sl) hc0 (G44.sl).sn k2 k3) ?_
        rintro _ w9 ⟨e9, q50_0, m50_0, d50_0, rfl, G50_0⟩
        have z9 := e9.size
        have E := E.trans e9
        replace X8_0 := X8_0.ext e9
        replace G42 := G42.ext e9
        replace G44 := G44.ext e9
        replace O1 := O1.ext e9
        replace OX10 := OX10.ext e9
        replace O8 := O8.ext e9
        have lG50_0 := G50_0.len
        have hl_ := turn_len xs0 r1.Need r1.Votes k2 k3
        refine ov (xmove rfl) rfl rfl rfl ?_
        refine ov (xextract rfl rfl) rfl rfl rfl ?_
        refine ov (xextract rfl rfl) rfl rfl rfl ?_
        refine oalloc Try.zeroValue41 rfl rfl ?_
        intro b10 w10 e10 hb10 hz10 O10
        have E := E.trans e10
        replace X8_0 := X8_0.ext e10
        replace G42 := G42.ext e10
        replace G44 := G44.ext e10
        replace G50_0 := G50_0.ext e10
        replace O1 := O1.ext e10
        replace OX10 := OX10.ext e10
        replace O8 := O8.ext e10
        replace O10 : Own w10 b10 [.int .i64 0, .slice none 0 0] 41 := O10
        refine ostoreN (vs := _) Try.sizeOf41 rfl rfl O10 rfl (by simp) (by simp [Value.oneCell']) rfl ?_
        intro w11 on11 O11
        have hz11 := on11.size
        have E := on11.ext E (by omega)
        replace X8_0 := X8_0.only on11 (by omega)
        replace G42 := G42.only on11 (by omega)
        replace G44 := G44.only on11 (by omega)
        replace G50_0 := G50_0.only on11 (by omega)
        replace O1 := on11.own O1 (by omega)
        replace OX10 := on11.own OX10 (by omega)
        replace O8 := on11.own O8 (by omega)
        replace O11 : Own w11 b10 [.int .i64 (turnVote xs0 r1.Need r1.Votes k2 k3).1.1, .slice q50_0 m50_0 d50_0] 41 := O11
        refine ov (xassign rfl) rfl rfl rfl ?_
        refine ops_nil ?_
        refine run_seq ?_
        refine run_seq ?_
        refine run_region ?_
        refine ov (v := .agg #[.int .i64 (turnVote xs0 r1.Need r1.Votes k2 k3).1.1, .slice q50_0 m50_0 d50_0]) (xloadN Try.isAgg41 Try.sizeOf41 rfl (O11.cells) rfl) rfl rfl rfl ?_
        refine ov (v := .agg #[.int .i64 (turnVote xs0 r1.Need r1.Votes k2 k3).1.1, .slice q8_0 m8_0 d8_0]) (xloadN Try.isAgg41 Try.sizeOf41 rfl (OX10.cells) rfl) rfl rfl rfl ?_
        refine oc (xcall Try.call40 rfl) rfl rfl rfl (eqPoll_ok (⟨(turnVote xs0 r1.Need r1.Votes k2 k3).1.1, (turnVote xs0 r1.Need r1.Votes k2 k3).1.2⟩ : Poll) (⟨(turnVote xs0 r1.Need r1.Votes k2 k3).1.1, (turnVote xs0 r1.Need r1.Votes k2 k3).1.2⟩ : Poll) _ _ _ _ (G50_0.sl) _ _ _ (X8_0.sl)) ?_
        rintro _ w12 ⟨rfl, e12⟩
        have z12 := e12.size
        have E := E.trans e12
        replace X8_0 := X8_0.ext e12
        replace G42 := G42.ext e12
        replace G44 := G44.ext e12
        replace G50_0 := G50_0.ext e12
        replace O1 := O1.ext e12
        replace OX10 := OX10.ext e12
        replace O8 := O8.ext e12
        replace O11 := O11.ext e12
        refine obs (fun c55 => ?_) (fun c55 => ?_)
        ·
          refine ov (xnot rfl) rfl rfl rfl ?_
          refine ov (xmove rfl) rfl rfl rfl ?_
          refine ov (xmove rfl) rfl rfl rfl ?_
          refine ov (xmove rfl) rfl rfl rfl ?_
          refine ov (xneq rfl rfl _ rfl) rfl rfl rfl ?_
          refine ods (fun c60 => ?_) (fun c60 => ?_)
          · exfalso; first | exact absurd rfl c60 | omega
          ·
            refine ov (xpick_f rfl rfl) rfl rfl rfl ?_
            refine ops_nil ?_
            refine run_cond_f rfl ?_
            refine run_skip ?_
            refine run_seq ?_
            refine run_seq ?_
            refine run_region ?_
            refine ov (xmove rfl) rfl rfl rfl ?_
            refine ov (xmove rfl) rfl rfl rfl ?_
            refine oc (xcall Try.call27 rfl) rfl rfl rfl (toQuestionS_ok _ _ _ xs0 _ (H0.ext E) (by omega)) ?_
            rintro _ w13 ⟨e13, q64, rfl, G64⟩
            have z13 := e13.size
            have E := E.trans e13
            replace X8_0 := X8_0.ext e13
            replace G42 := G42.ext e13
            replace G44 := G44.ext e13
            replace G50_0 := G50_0.ext e13
            replace O1 := O1.ext e13
            replace OX10 := OX10.ext e13
            replace O8 := O8.ext e13
            replace O11 := O11.ext e13
            refine oc (xcall Try.call29 rfl) rfl rfl rfl (eqQuestionS_ok _ _ _ _ _ _ _ _ _ (G42.sl) (G64.sl)) ?_
            rintro _ w14 ⟨rfl, e14⟩
            have z14 := e14.size
            have E := E.trans e14
            replace X8_0 := X8_0.ext e14
            replace G42 := G42.ext e14
            replace G44 := G44.ext e14
            replace G50_0 := G50_0.ext e14
            replace G64 := G64.ext e14
            replace O1 := O1.ext e14
            replace OX10 := OX10.ext e14
            replace O8 := O8.ext e14
            replace O11 := O11.ext e14
            refine obs (fun c65 => ?_) (fun c65 => ?_)
            ·
              refine ov (xnot rfl) rfl rfl rfl ?_
              refine ops_nil ?_
              refine run_cond_f rfl ?_
              refine run_skip ?_
              refine run_seq ?_
              refine run_seq ?_
              have RE := E
              have RO1 := O1
              have ROX10 := OX10
              have RO8 := O8
              have RO11 := O11
              refine run_held (ι := Unit) (fun x_ w' => match x_ with | () => Ext w14 w' ∧ True) (fun x_ => match x_ with | () => [(0, .slice p0 n0 c0), (2, .int .i64 k2), (3, .int .i64 k3), (5, .pointer (some ⟨b1, 0, none⟩)), (8, .bool false), (10, .pointer (some ⟨bx10, 0, none⟩)), (11, .int .i64 (turnVote xs0 r1.Need r1.Votes k2 k3).2), (12, .slice (some q42) n0 n0), (13, .pointer (some ⟨b7, 0, none⟩)), (14, .pointer (some ⟨b10, 0, none⟩)), (15, .int .i64 (turnVote xs0 r1.Need r1.Votes k2 k3).2), (71, .bool false)]) (by kernel_rfl) ?_ ?_
              · intro w0_ F
                have z0_ := F.size
                have E := E.trans F
                replace X8_0 := X8_0.ext F
                replace G42 := G42.ext F
                replace G44 := G44.ext F
                replace G50_0 := G50_0.ext F
                replace G64 := G64.ext F
                replace O1 := O1.ext F
                replace OX10 := OX10.ext F
                replace O8 := O8.ext F
                replace O11 := O11.ext F
                refine h_take 0 (v := .agg #[.int .i64 r1.Need, .slice (some q44) n1_v n1_v]) rfl (by kernel_rfl) (by kernel_rfl) (by kernel_rfl) (fun w' x_ => xloadN Try.isAgg41 Try.sizeOf41 rfl ((RO8.cells).ext x_) rfl) rfl rfl rfl F ?_
                refine h_take 1 (v := .agg #[.int .i64 r1.Need, .slice p1_v n1_v c1_v]) rfl (by kernel_rfl) (by kernel_rfl) (by kernel_rfl) (fun w' x_ => xloadN Try.isAgg38 Try.sizeOf38 rfl ((RO1.cells).ext x_) rfl) rfl rfl rfl F ?_
                refine h_ready (rs := [2]) (by kernel_rfl) (by decide) ⟨?_, trivial⟩
                ·
                  refine hs_call rfl (xcall Try.call38 rfl) rfl rfl rfl (toPoll_ok r1 _ _ _ _ (Hv1_v.ext E) hm1_ (by omega)) ?_
                  rintro _ w15 ⟨e15, q69, rfl, G69⟩
                  have z15 := e15.size
                  have E := E.trans e15
                  replace X8_0 := X8_0.ext e15
                  replace G42 := G42.ext e15
                  replace G44 := G44.ext e15
                  replace G50_0 := G50_0.ext e15
                  replace G64 := G64.ext e15
                  replace O1 := O1.ext e15
                  replace OX10 := OX10.ext e15
                  replace O8 := O8.ext e15
                  replace O11 := O11.ext e15
                  have F := F.trans e15
                  refine ⟨F, ?_⟩
                  refine h_ready (rs := [3]) (by kernel_rfl) (by decide) ⟨?_, trivial⟩
                  ·
                    refine hs_call rfl (xcall Try.call40 rfl) rfl rfl rfl (eqPoll_ok _ _ _ _ _ _ (G44.sl) _ _ _ (G69.sl)) ?_
                    rintro _ w16 ⟨rfl, e16⟩
                    have z16 := e16.size
                    have E := E.trans e16
                    replace X8_0 := X8_0.ext e16
                    replace G42 := G42.ext e16
                    replace G44 := G44.ext e16
                    replace G50_0 := G50_0.ext e16
                    replace G64 := G64.ext e16
                    replace G69 := G69.ext e16
                    replace O1 := O1.ext e16
                    replace OX10 := OX10.ext e16
                    replace O8 := O8.ext e16
                    replace O11 := O11.ext e16
                    have F := F.trans e16
                    refine ⟨F, ?_⟩
                    refine h_bs (fun c70 => ?_) (fun c70 => ?_)
                    ·
                      refine h_take 4 rfl (by kernel_rfl) (by kernel_rfl) (by kernel_rfl) (fun w' x_ => xnot rfl) rfl rfl rfl F ?_
                      refine h_done (by kernel_rfl) ?_
                      intro a_ ha_
                      exact ⟨(), ⟨F, trivial⟩, ha_.sub ⟨rfl, rfl, rfl, rfl, rfl, rfl, rfl, rfl, rfl, rfl, rfl, rfl, trivial⟩⟩
                    · exfalso; rw [eqPoll_refl] at c70; cases c70
              · intro x_
                obtain ⟨⟩ := x_
                rintro w15 ⟨e15, _⟩
                have z15 := e15.size
                have E := E.trans e15
                replace X8_0 := X8_0.ext e15
                replace G42 := G42.ext e15
                replace G44 := G44.ext e15
                replace G50_0 := G50_0.ext e15
                replace G64 := G64.ext e15
                replace O1 := O1.ext e15
                replace OX10 := OX10.ext e15
                replace O8 := O8.ext e15
                replace O11 := O11.ext e15
                refine run_cond_f rfl ?_
                refine run_skip ?_
                refine run_seq ?_
                refine run_region ?_
                refine ov (xassign rfl) rfl rfl rfl ?_
                refine ops_nil ?_
                refine run_seq ?_
                refine run_region ?_
                refine ov (xmove rfl) rfl rfl rfl ?_
                refine ov (xmove rfl) rfl rfl rfl ?_
                refine oc (xcall Try.call43 rfl) rfl rfl rfl (markQuestionS_ok _ _ _ _ _ _ _ _ G42 (by omega) (by omega) (by omega)) ?_
                rintro _ w16 ⟨rfl, m16, g16⟩
                have z16 := m16.size
                have E := m16.toExt E (by omega)
                replace X8_0 := X8_0.off m16 (by omega)
                replace G44 := G44.off m16 (by omega)
                replace G50_0 := G50_0.off m16 (by omega)
                replace G64 := G64.off m16 (by omega)
                replace O1 := m16.own O1 (by omega)
                replace OX10 := m16.own OX10 (by omega)
                replace O8 := m16.own O8 (by omega)
                replace O11 := m16.own O11 (by omega)
                replace G42 := g16
                refine ov (xassign rfl) rfl rfl rfl ?_
                refine ops_nil ?_
                refine run_seq ?_
                refine run_region ?_
                refine ov (v := .agg #[.int .i64 r1.Need, .slice (some q44) n1_v n1_v]) (xloadN Try.isAgg41 Try.sizeOf41 rfl (O8.cells) rfl) rfl rfl rfl ?_
                refine ov (xmove rfl) rfl rfl rfl ?_
                refine oc (xcall Try.call62 rfl) rfl rfl rfl (markPoll_ok _ _ _ _ _ _ _ _ _ G44 (by omega) (by omega) (by omega) (by omega) (by omega)) ?_
                rintro _ w17 ⟨k77_, rfl, hk77_, m17, g17⟩
                have z17 := m17.size
                have E := m17.toExt E (by omega)
                replace X8_0 := X8_0.off m17 (by omega)
                replace G42 := G42.off m17 (by omega)
                replace G50_0 := G50_0.off m17 (by omega)
                replace G64 := G64.off m17 (by omega)
                replace O1 := m17.own O1 (by omega)
                replace OX10 := m17.own OX10 (by omega)
                replace O8 := m17.own O8 (by omega)
                replace O11 := m17.own O11 (by omega)
                replace G44 := g17
                refine ov (xassign rfl) rfl rfl rfl ?_
                refine ops_nil ?_
                refine run_seq ?_
                refine run_seq ?_
                refine run_region ?_
                refine ov (xmove rfl) rfl rfl rfl ?_
                refine ov (xlss rfl rfl _ rfl) rfl rfl rfl ?_
                refine ods (fun c79 => ?_) (fun c79 => ?_)
                · exfalso; omega
                ·
                  refine ov (xmove rfl) rfl rfl rfl ?_
                  refine ov (v := .agg #[.int .i64 (turnVote xs0 r1.Need r1.Votes k2 k3).1.1, .slice q50_0 m50_0 d50_0]) (xloadN Try.isAgg41 Try.sizeOf41 rfl (O11.cells) rfl) rfl rfl rfl ?_
                  refine ov (v := .agg #[.int .i64 (turnVote xs0 r1.Need r1.Votes k2 k3).1.1, .slice q8_0 m8_0 d8_0]) (xloadN Try.isAgg41 Try.sizeOf41 rfl (OX10.cells) rfl) rfl rfl rfl ?_
                  refine oc (xcall Try.call40 rfl) rfl rfl rfl (eqPoll_ok (⟨(turnVote xs0 r1.Need r1.Votes k2 k3).1.1, (turnVote xs0 r1.Need r1.Votes k2 k3).1.2⟩ : Poll) (⟨(turnVote xs0 r1.Need r1.Votes k2 k3).1.1, (turnVote xs0 r1.Need r1.Votes k2 k3).1.2⟩ : Poll) _ _ _ _ (G50_0.sl) _ _ _ (X8_0.sl)) ?_
                  rintro _ w18 ⟨rfl, e18⟩
                  have z18 := e18.size
                  have E := E.trans e18
                  replace X8_0 := X8_0.ext e18
                  replace G42 := G42.ext e18
                  replace G44 := G44.ext e18
                  replace G50_0 := G50_0.ext e18
                  replace G64 := G64.ext e18
                  replace O1 := O1.ext e18
                  replace OX10 := OX10.ext e18
                  replace O8 := O8.ext e18
                  replace O11 := O11.ext e18
                  refine obs (fun c83 => ?_) (fun c83 => ?_)
                  ·
                    refine ov (xnot rfl) rfl rfl rfl ?_
                    refine ov (xpick_f rfl rfl) rfl rfl rfl ?_
                    refine ov (xmove rfl) rfl rfl rfl ?_
                    refine ov (xmove rfl) rfl rfl rfl ?_
                    refine ov (xmove rfl) rfl rfl rfl ?_
                    refine ov (xneq rfl rfl _ rfl) rfl rfl rfl ?_
                    refine ods (fun c89 => ?_) (fun c89 => ?_)
                    · exfalso; first | exact absurd rfl c89 | omega
                    ·
                      refine ov (xpick_f rfl rfl) rfl rfl rfl ?_
                      refine ops_nil ?_
                      refine run_cond_f rfl ?_
                      refine run_skip ?_
                      refine run_seq ?_
                      refine run_region ?_
                      refine ov (xassign rfl) rfl rfl rfl ?_
                      refine ops_nil ?_
                      refine run_seq ?_
                      refine run_region ?_
                      refine ov (v := .agg #[.int .i64 (turnVote xs0 r1.Need r1.Votes k2 k3).1.1, .slice q50_0 m50_0 d50_0]) (xloadN Try.isAgg41 Try.sizeOf41 rfl (O11.cells) rfl) rfl rfl rfl ?_
                      refine ov (xmove rfl) rfl rfl rfl ?_
                      refine oc (xcall Try.call62 rfl) rfl rfl rfl (markPoll_ok _ _ _ _ _ _ _ _ _ G50_0 (by omega) (by omega) (by omega) (by omega) (by omega)) ?_
                      rintro _ w19 ⟨k93_, rfl, hk93_, m19, g19⟩
                      have z19 := m19.size
                      have E := m19.toExt E (by omega)
                      replace X8_0 := X8_0.off m19 (by omega)
                      replace G42 := G42.off m19 (by omega)
                      replace G44 := G44.off m19 (by omega)
                      replace G64 := G64.off m19 (by omega)
                      replace O1 := m19.own O1 (by omega)
                      replace OX10 := m19.own OX10 (by omega)
                      replace O8 := m19.own O8 (by omega)
                      replace O11 := m19.own O11 (by omega)
                      replace G50_0 := g19
                      refine ov (xassign rfl) rfl rfl rfl ?_
                      refine ops_nil ?_
                      refine run_seq ?_
                      refine run_region ?_
                      refine ov (xassign rfl) rfl rfl rfl ?_
                      refine ops_nil ?_
                      refine run_seq ?_
                      refine run_region ?_
                      refine ov (v := .agg #[.int .i64 (turnVote xs0 r1.Need r1.Votes k2 k3).1.1, .slice q50_0 m50_0 d50_0]) (xloadN Try.isAgg41 Try.sizeOf41 rfl (O11.cells) rfl) rfl rfl rfl ?_
                      refine ov (xmove rfl) rfl rfl rfl ?_
                      refine oc (xcall Try.call65 rfl) rfl rfl rfl (heldPoll_ok _ _ _ _ _ _ _ (G50_0.sl) (by omega) (by omega) (by omega) (by omega)) ?_
                      rintro _ w20 ⟨k96_, rfl, hk96_, e20⟩
                      have z20 := e20.size
                      have E := E.trans e20
                      replace X8_0 := X8_0.ext e20
                      replace G42 := G42.ext e20
                      replace G44 := G44.ext e20
                      replace G50_0 := G50_0.ext e20
                      replace G64 := G64.ext e20
                      replace O1 := O1.ext e20
                      replace OX10 := OX10.ext e20
                      replace O8 := O8.ext e20
                      replace O11 := O11.ext e20
                      refine ov (xassign rfl) rfl rfl rfl ?_
                      refine ops_nil ?_
                      refine run_seq ?_
                      refine run_seq ?_
                      refine run_region ?_
                      refine ov (xmove rfl) rfl rfl rfl ?_
                      refine ov (xlss rfl rfl _ rfl) rfl rfl rfl ?_
                      refine ods (fun c98 => ?_) (fun c98 => ?_)
                      · exfalso; omega
                      ·
                        refine ops_nil ?_
                        refine run_cond_f rfl ?_
                        refine run_skip ?_
                        refine run_seq ?_
                        refine run_seq ?_
                        refine run_region ?_
                        refine ov (xmove rfl) rfl rfl rfl ?_
                        refine ov (xmove rfl) rfl rfl rfl ?_
                        refine ov (xneq rfl rfl _ rfl) rfl rfl rfl ?_
                        refine ods (fun c101 => ?_) (fun c101 => ?_)
                        · exfalso; first | exact absurd rfl c101 | omega
                        ·
                          refine ops_nil ?_
                          refine run_cond_f rfl ?_
                          refine run_skip ?_
                          refine run_seq ?_
                          have RE := E
                          have RO1 := O1
                          have ROX10 := OX10
                          have RO8 := O8
                          have RO11 := O11
                          refine run_held (ι := Option Addr × Nat × Nat × Nat × Nat × Nat) (fun x_ w' => match x_ with | (q31_0, m31_0, d31_0, la31_0, ha31_0, bx19) => Ext w20 w' ∧ OnInt64SS w' la31_0 ha31_0 q31_0 m31_0 d31_0 ((turnVote xs0 r1.Need r1.Votes k2 k3).1.2) ∧ w20.heap.size ≤ bx19 ∧ Own w' bx19 [.int .i64 (turnVote xs0 r1.Need r1.Votes k2 k3).1.1, .slice q31_0 m31_0 d31_0] 41 ∧ (w20.heap.size ≤ la31_0 ∧ ha31_0 ≤ w'.heap.size ∧ (bx19 < la31_0 ∨ ha31_0 ≤ bx19))) (fun x_ => match x_ with | (q31_0, m31_0, d31_0, la31_0, ha31_0, bx19) => [(8, .bool false), (10, .pointer (some ⟨bx10, 0, none⟩)), (11, .int .i64 (turnVote xs0 r1.Need r1.Votes k2 k3).2), (14, .pointer (some ⟨b10, 0, none⟩)), (17, .int .i64 k93_), (18, .int .i64 k96_), (20, .int .i64 (turnVote xs0 r1.Need r1.Votes k2 k3).2), (19, .pointer (some ⟨bx19, 0, none⟩))]) (by kernel_rfl) ?_ ?_
                          · intro w0_ F
                            have z0_ := F.size
                            have E := E.trans F
                            replace X8_0 := X8_0.ext F
                            replace G42 := G42.ext F
                            replace G44 := G44.ext F
                            replace G50_0 := G50_0.ext F
                            replace G64 := G64.ext F
                            replace O1 := O1.ext F
                            replace OX10 := OX10.ext F
                            replace O8 := O8.ext F
                            replace O11 := O11.ext F
                            refine h_take 0 rfl (by kernel_rfl) (by kernel_rfl) (by kernel_rfl) (fun w' x_ => xmove rfl) rfl rfl rfl F ?_
                            refine h_take 2 (v := .agg #[.int .i64 r1.Need, .slice p1_v n1_v c1_v]) rfl (by kernel_rfl) (by kernel_rfl) (by kernel_rfl) (fun w' x_ => xloadN Try.isAgg38 Try.sizeOf38 rfl ((RO1.cells).ext x_) rfl) rfl rfl rfl F ?_
                            refine h_take 4 rfl (by kernel_rfl) (by kernel_rfl) (by kernel_rfl) (fun w' x_ => xmove rfl) rfl rfl rfl F ?_
                            refine h_take 5 rfl (by kernel_rfl) (by kernel_rfl) (by kernel_rfl) (fun w' x_ => xmove rfl) rfl rfl rfl F ?_
                            refine h_ready (rs := [1, 10]) (by kernel_rfl) (by decide) ⟨?_, ?_, trivial⟩
                            ·
                              refine hs_call rfl (xcall Try.call27 rfl) rfl rfl rfl (toQuestionS_ok _ _ _ xs0 _ (H0.ext E) (by omega)) ?_
                              rintro _ w21 ⟨e21, q104, rfl, G104⟩
                              have z21 := e21.size
                              have E := E.trans e21
                              replace X8_0 := X8_0.ext e21
                              replace G42 := G42.ext e21
                              replace G44 := G44.ext e21
                              replace G50_0 := G50_0.ext e21
                              replace G64 := G64.ext e21
                              replace O1 := O1.ext e21
                              replace OX10 := OX10.ext e21
                              replace O8 := O8.ext e21
                              replace O11 := O11.ext e21
                              have F := F.trans e21
                              refine ⟨F, ?_⟩
                              refine h_ready (rs := [3, 10]) (by kernel_rfl) (by decide) ⟨?_, ?_, trivial⟩
                              ·
                                refine hs_call rfl (xcall Try.call38 rfl) rfl rfl rfl (toPoll_ok r1 _ _ _ _ (Hv1_v.ext E) hm1_ (by omega)) ?_
                                rintro _ w22 ⟨e22, q106, rfl, G106⟩
                                have z22 := e22.size
                                have E := E.trans e22
                                replace X8_0 := X8_0.ext e22
                                replace G42 := G42.ext e22
                                replace G44 := G44.ext e22
                                replace G50_0 := G50_0.ext e22
                                replace G64 := G64.ext e22
                                replace G104 := G104.ext e22
                                replace O1 := O1.ext e22
                                replace OX10 := OX10.ext e22
                                replace O8 := O8.ext e22
                                replace O11 := O11.ext e22
                                have F := F.trans e22
                                refine ⟨F, ?_⟩
                                refine h_ready (rs := [6, 10]) (by kernel_rfl) (by decide) ⟨?_, ?_, trivial⟩
                                ·
                                  refine hs_call rfl (xcall Try.call64 rfl) rfl rfl rfl (TurnVote_ok _ _ _ xs0 r1.Need r1.Votes _ _ _ _ (G104.sl) hc0 (G106.sl).sn k2 k3) ?_
                                  rintro _ w23 ⟨e23, q109_0, m109_0, d109_0, rfl, G109_0⟩
                                  have z23 := e23.size
                                  have E := E.trans e23
                                  replace X8_0 := X8_0.ext e23
                                  replace G42 := G42.ext e23
                                  replace G44 := G44.ext e23
                                  replace G50_0 := G50_0.ext e23
                                  replace G64 := G64.ext e23
                                  replace G104 := G104.ext e23
                                  replace G106 := G106.ext e23
                                  replace O1 := O1.ext e23
                                  replace OX10 := OX10.ext e23
                                  replace O8 := O8.ext e23
                                  replace O11 := O11.ext e23
                                  have F := F.trans e23
                                  have lG109_0 := G109_0.len
                                  have hl_ := turn_len xs0 r1.Need r1.Votes k2 k3
                                  refine ⟨F, ?_⟩
                                  refine h_take 7 rfl (by kernel_rfl) (by kernel_rfl) (by kernel_rfl) (fun w' x_ => xmove rfl) rfl rfl rfl F ?_
                                  refine h_take 8 rfl (by kernel_rfl) (by kernel_rfl) (by kernel_rfl) (fun w' x_ => xextract rfl rfl) rfl rfl rfl F ?_
                                  refine h_take 9 rfl (by kernel_rfl) (by kernel_rfl) (by kernel_rfl) (fun w' x_ => xextract rfl rfl) rfl rfl rfl F ?_
                                  refine h_ready (rs := [10]) (by kernel_rfl) (by decide) ⟨?_, trivial⟩
                                  ·
                                    refine hs_alloc Try.zeroValue41 F rfl rfl rfl ?_
                                    intro b24 w24 e24 hb24 hz24 O24
                                    have E := E.trans e24
                                    replace X8_0 := X8_0.ext e24
                                    replace G42 := G42.ext e24
                                    replace G44 := G44.ext e24
                                    replace G50_0 := G50_0.ext e24
                                    replace G64 := G64.ext e24
                                    replace G104 := G104.ext e24
                                    replace G106 := G106.ext e24
                                    replace G109_0 := G109_0.ext e24
                                    replace O1 := O1.ext e24
                                    replace OX10 := OX10.ext e24
                                    replace O8 := O8.ext e24
                                    replace O11 := O11.ext e24
                                    have F := F.trans e24
                                    replace O24 : Own w24 b24 [.int .i64 0, .slice none 0 0] 41 := O24
                                    refine h_ready (rs := [11]) (by kernel_rfl) (by decide) ⟨?_, trivial⟩
                                    ·
                                      refine hs_storeN (vs := [.int .i64 (turnVote xs0 r1.Need r1.Votes k2 k3).1.1, .slice q109_0 m109_0 d109_0]) Try.sizeOf41 rfl rfl O24 rfl (by simp) (by simp [Value.oneCell']) F (by omega) rfl rfl ?_
                                      intro w25 on25 O25
                                      have hz25 := on25.size
                                      have E := on25.ext E (by omega)
                                      replace X8_0 := X8_0.only on25 (by omega)
                                      replace G42 := G42.only on25 (by omega)
                                      replace G44 := G44.only on25 (by omega)
                                      replace G50_0 := G50_0.only on25 (by omega)
                                      replace G64 := G64.only on25 (by omega)
                                      replace G104 := G104.only on25 (by omega)
                                      replace G106 := G106.only on25 (by omega)
                                      replace G109_0 := G109_0.only on25 (by omega)
                                      replace O1 := on25.own O1 (by omega)
                                      replace OX10 := on25.own OX10 (by omega)
                                      replace O8 := on25.own O8 (by omega)
                                      replace O11 := on25.own O11 (by omega)
                                      have F := on25.ext F (by omega)
                                      replace O25 : Own w25 b24 [.int .i64 (turnVote xs0 r1.Need r1.Votes k2 k3).1.1, .slice q109_0 m109_0 d109_0] 41 := O25
                                      refine h_take 12 rfl (by kernel_rfl) (by kernel_rfl) (by kernel_rfl) (fun w' x_ => xassign rfl) rfl rfl rfl F ?_
                                      refine h_done (by kernel_rfl) ?_
                                      intro a_ ha_
                                      exact ⟨(q109_0, m109_0, d109_0, _, _, b24), ⟨F, ⟨G109_0, by omega, O25, by omega⟩⟩, ha_.sub ⟨rfl, rfl, rfl, rfl, rfl, rfl, rfl, rfl, trivial⟩⟩
                                ·
                                  refine hs_alloc Try.zeroValue41 F rfl rfl rfl ?_
                                  intro b23 w23 e23 hb23 hz23 O23
                                  have E := E.trans e23
                                  replace X8_0 := X8_0.ext e23
                                  replace G42 := G42.ext e23
                                  replace G44 := G44.ext e23
                                  replace G50_0 := G50_0.ext e23
                                  replace G64 := G64.ext e23
                                  replace G104 := G104.ext e23
                                  replace G106 := G106.ext e23
                                  replace O1 := O1.ext e23
                                  replace OX10 := OX10.ext e23
                                  replace O8 := O8.ext e23
                                  replace O11 := O11.ext e23
                                  have F := F.trans e23
                                  replace O23 : Own w23 b23 [.int .i64 0, .slice none 0 0] 41 := O23
                                  refine h_ready (rs := [6]) (by kernel_rfl) (by decide) ⟨?_, trivial⟩
                                  ·
                                    refine hs_call rfl (xcall Try.call64 rfl) rfl rfl rfl (TurnVote_ok _ _ _ xs0 r1.Need r1.Votes _ _ _ _ (G104.sl) hc0 (G106.sl).sn k2 k3) ?_
                                    rintro _ w24 ⟨e24, q109_0, m109_0, d109_0, rfl, G109_0⟩
                                    have z24 := e24.size
                                    have E := E.trans e24
                                    replace X8_0 := X8_0.ext e24
                                    replace G42 := G42.ext e24
                                    replace G44 := G44.ext e24
                                    replace G50_0 := G50_0.ext e24
                                    replace G64 := G64.ext e24
                                    replace G104 := G104.ext e24
                                    replace G106 := G106.ext e24
                                    replace O1 := O1.ext e24
                                    replace OX10 := OX10.ext e24
                                    replace O8 := O8.ext e24
                                    replace O11 := O11.ext e24
                                    replace O23 := O23.ext e24
                                    have F := F.trans e24
                                    have lG109_0 := G109_0.len
                                    have hl_ := turn_len xs0 r1.Need r1.Votes k2 k3
                                    refine ⟨F, ?_⟩
                                    refine h_take 7 rfl (by kernel_rfl) (by kernel_rfl) (by kernel_rfl) (fun w' x_ => xmove rfl) rfl rfl rfl F ?_
                                    refine h_take 8 rfl (by kernel_rfl) (by kernel_rfl) (by kernel_rfl) (fun w' x_ => xextract rfl rfl) rfl rfl rfl F ?_
                                    refine h_take 9 rfl (by kernel_rfl) (by kernel_rfl) (by kernel_rfl) (fun w' x_ => xextract rfl rfl) rfl rfl rfl F ?_
                                    refine h_ready (rs := [11]) (by kernel_rfl) (by decide) ⟨?_, trivial⟩
                                    ·
                                      refine hs_storeN (vs := [.int .i64 (turnVote xs0 r1.Need r1.Votes k2 k3).1.1, .slice q109_0 m109_0 d109_0]) Try.sizeOf41 rfl rfl O23 rfl (by simp) (by simp [Value.oneCell']) F (by omega) rfl rfl ?_
                                      intro w25 on25 O25
                                      have hz25 := on25.size
                                      have E := on25.ext E (by omega)
                                      replace X8_0 := X8_0.only on25 (by omega)
                                      replace G42 := G42.only on25 (by omega)
                                      replace G44 := G44.only on25 (by omega)
                                      replace G50_0 := G50_0.only on25 (by omega)
                                      replace G64 := G64.only on25 (by omega)
                                      replace G104 := G104.only on25 (by omega)
                                      replace G106 := G106.only on25 (by omega)
                                      replace G109_0 := G109_0.only on25 (by omega)
                                      replace O1 := on25.own O1 (by omega)
                                      replace OX10 := on25.own OX10 (by omega)
                                      replace O8 := on25.own O8 (by omega)
                                      replace O11 := on25.own O11 (by omega)
                                      have F := on25.ext F (by omega)
                                      replace O25 : Own w25 b23 [.int .i64 (turnVote xs0 r1.Need r1.Votes k2 k3).1.1, .slice q109_0 m109_0 d109_0] 41 := O25
                                      refine h_take 12 rfl (by kernel_rfl) (by kernel_rfl) (by kernel_rfl) (fun w' x_ => xassign rfl) rfl rfl rfl F ?_
                                      refine h_done (by kernel_rfl) ?_
                                      intro a_ ha_
                                      exact ⟨(q109_0, m109_0, d109_0, _, _, b23), ⟨F, ⟨G109_0, by omega, O25, by omega⟩⟩, ha_.sub ⟨rfl, rfl, rfl, rfl, rfl, rfl, rfl, rfl, trivial⟩⟩
                              ·
                                refine hs_alloc Try.zeroValue41 F rfl rfl rfl ?_
                                intro b22 w22 e22 hb22 hz22 O22
                                have E := E.trans e22
                                replace X8_0 := X8_0.ext e22
                                replace G42 := G42.ext e22
                                replace G44 := G44.ext e22
                                replace G50_0 := G50_0.ext e22
                                replace G64 := G64.ext e22
                                replace G104 := G104.ext e22
                                replace O1 := O1.ext e22
                                replace OX10 := OX10.ext e22
                                replace O8 := O8.ext e22
                                replace O11 := O11.ext e22
                                have F := F.trans e22
                                replace O22 : Own w22 b22 [.int .i64 0, .slice none 0 0] 41 := O22
                                refine h_ready (rs := [3]) (by kernel_rfl) (by decide) ⟨?_, trivial⟩
                                ·
                                  refine hs_call rfl (xcall Try.call38 rfl) rfl rfl rfl (toPoll_ok r1 _ _ _ _ (Hv1_v.ext E) hm1_ (by omega)) ?_
                                  rintro _ w23 ⟨e23, q106, rfl, G106⟩
                                  have z23 := e23.size
                                  have E := E.trans e23
                                  replace X8_0 := X8_0.ext e23
                                  replace G42 := G42.ext e23
                                  replace G44 := G44.ext e23
                                  replace G50_0 := G50_0.ext e23
                                  replace G64 := G64.ext e23
                                  replace G104 := G104.ext e23
                                  replace O1 := O1.ext e23
                                  replace OX10 := OX10.ext e23
                                  replace O8 := O8.ext e23
                                  replace O11 := O11.ext e23
                                  replace O22 := O22.ext e23
                                  have F := F.trans e23
                                  refine ⟨F, ?_⟩
                                  refine h_ready (rs := [6]) (by kernel_rfl) (by decide) ⟨?_, trivial⟩
                                  ·
                                    refine hs_call rfl (xcall Try.call64 rfl) rfl rfl rfl (TurnVote_ok _ _ _ xs0 r1.Need r1.Votes _ _ _ _ (G104.sl) hc0 (G106.sl).sn k2 k3) ?_
                                    rintro _ w24 ⟨e24, q109_0, m109_0, d109_0, rfl, G109_0⟩
                                    have z24 := e24.size
                                    have E := E.trans e24
                                    replace X8_0 := X8_0.ext e24
                                    replace G42 := G42.ext e24
                                    replace G44 := G44.ext e24
                                    replace G50_0 := G50_0.ext e24
                                    replace G64 := G64.ext e24
                                    replace G104 := G104.ext e24
                                    replace G106 := G106.ext e24
                                    replace O1 := O1.ext e24
                                    replace OX10 := OX10.ext e24
                                    replace O8 := O8.ext e24
                                    replace O11 := O11.ext e24
                                    replace O22 := O22.ext e24
                                    have F := F.trans e24
                                    have lG109_0 := G109_0.len
                                    have hl_ := turn_len xs0 r1.Need r1.Votes k2 k3
                                    refine ⟨F, ?_⟩
                                    refine h_take 7 rfl (by kernel_rfl) (by kernel_rfl) (by kernel_rfl) (fun w' x_ => xmove rfl) rfl rfl rfl F ?_
                                    refine h_take 8 rfl (by kernel_rfl) (by kernel_rfl) (by kernel_rfl) (fun w' x_ => xextract rfl rfl) rfl rfl rfl F ?_
                                    refine h_take 9 rfl (by kernel_rfl) (by kernel_rfl) (by kernel_rfl) (fun w' x_ => xextract rfl rfl) rfl rfl rfl F ?_
                                    refine h_ready (rs := [11]) (by kernel_rfl) (by decide) ⟨?_, trivial⟩
                                    ·
                                      refine hs_storeN (vs := [.int .i64 (turnVote xs0 r1.Need r1.Votes k2 k3).1.1, .slice q109_0 m109_0 d109_0]) Try.sizeOf41 rfl rfl O22 rfl (by simp) (by simp [Value.oneCell']) F (by omega) rfl rfl ?_
                                      intro w25 on25 O25
                                      have hz25 := on25.size
                                      have E := on25.ext E (by omega)
                                      replace X8_0 := X8_0.only on25 (by omega)
                                      replace G42 := G42.only on25 (by omega)
                                      replace G44 := G44.only on25 (by omega)
                                      replace G50_0 := G50_0.only on25 (by omega)
                                      replace G64 := G64.only on25 (by omega)
                                      replace G104 := G104.only on25 (by omega)
                                      replace G106 := G106.only on25 (by omega)
                                      replace G109_0 := G109_0.only on25 (by omega)
                                      replace O1 := on25.own O1 (by omega)
                                      replace OX10 := on25.own OX10 (by omega)
                                      replace O8 := on25.own O8 (by omega)
                                      replace O11 := on25.own O11 (by omega)
                                      have F := on25.ext F (by omega)
                                      replace O25 : Own w25 b22 [.int .i64 (turnVote xs0 r1.Need r1.Votes k2 k3).1.1, .slice q109_0 m109_0 d109_0] 41 := O25
                                      refine h_take 12 rfl (by kernel_rfl) (by kernel_rfl) (by kernel_rfl) (fun w' x_ => xassign rfl) rfl rfl rfl F ?_
                                      refine h_done (by kernel_rfl) ?_
                                      intro a_ ha_
                                      exact ⟨(q109_0, m109_0, d109_0, _, _, b22), ⟨F, ⟨G109_0, by omega, O25, by omega⟩⟩, ha_.sub ⟨rfl, rfl, rfl, rfl, rfl, rfl, rfl, rfl, trivial⟩⟩
                            ·
                              refine hs_alloc Try.zeroValue41 F rfl rfl rfl ?_
                              intro b21 w21 e21 hb21 hz21 O21
                              have E := E.trans e21
                              replace X8_0 := X8_0.ext e21
                              replace G42 := G42.ext e21
                              replace G44 := G44.ext e21
                              replace G50_0 := G50_0.ext e21
                              replace G64 := G64.ext e21
                              replace O1 := O1.ext e21
                              replace OX10 := OX10.ext e21
                              replace O8 := O8.ext e21
                              replace O11 := O11.ext e21
                              have F := F.trans e21
                              replace O21 : Own w21 b21 [.int .i64 0, .slice none 0 0] 41 := O21
                              refine h_ready (rs := [1]) (by kernel_rfl) (by decide) ⟨?_, trivial⟩
                              ·
                                refine hs_call rfl (xcall Try.call27 rfl) rfl rfl rfl (toQuestionS_ok _ _ _ xs0 _ (H0.ext E) (by omega)) ?_
                                rintro _ w22 ⟨e22, q104, rfl, G104⟩
                                have z22 := e22.size
                                have E := E.trans e22
                                replace X8_0 := X8_0.ext e22
                                replace G42 := G42.ext e22
                                replace G44 := G44.ext e22
                                replace G50_0 := G50_0.ext e22
                                replace G64 := G64.ext e22
                                replace O1 := O1.ext e22
                                replace OX10 := OX10.ext e22
                                replace O8 := O8.ext e22
                                replace O11 := O11.ext e22
                                replace O21 := O21.ext e22
                                have F := F.trans e22
                                refine ⟨F, ?_⟩
                                refine h_ready (rs := [3]) (by kernel_rfl) (by decide) ⟨?_, trivial⟩
                                ·
                                  refine hs_call rfl (xcall Try.call38 rfl) rfl rfl rfl (toPoll_ok r1 _ _ _ _ (Hv1_v.ext E) hm1_ (by omega)) ?_
                                  rintro _ w23 ⟨e23, q106, rfl, G106⟩
                                  have z23 := e23.size
                                  have E := E.trans e23
                                  replace X8_0 := X8_0.ext e23
                                  replace G42 := G42.ext e23
                                  replace G44 := G44.ext e23
                                  replace G50_0 := G50_0.ext e23
                                  replace G64 := G64.ext e23
                                  replace G104 := G104.ext e23
                                  replace O1 := O1.ext e23
                                  replace OX10 := OX10.ext e23
                                  replace O8 := O8.ext e23
                                  replace O11 := O11.ext e23
                                  replace O21 := O21.ext e23
                                  have F := F.trans e23
                                  refine ⟨F, ?_⟩
                                  refine h_ready (rs := [6]) (by kernel_rfl) (by decide) ⟨?_, trivial⟩
                                  ·
                                    refine hs_call rfl (xcall Try.call64 rfl) rfl rfl rfl (TurnVote_ok _ _ _ xs0 r1.Need r1.Votes _ _ _ _ (G104.sl) hc0 (G106.sl).sn k2 k3) ?_
                                    rintro _ w24 ⟨e24, q109_0, m109_0, d109_0, rfl, G109_0⟩
                                    have z24 := e24.size
                                    have E := E.trans e24
                                    replace X8_0 := X8_0.ext e24
                                    replace G42 := G42.ext e24
                                    replace G44 := G44.ext e24
                                    replace G50_0 := G50_0.ext e24
                                    replace G64 := G64.ext e24
                                    replace G104 := G104.ext e24
                                    replace G106 := G106.ext e24
                                    replace O1 := O1.ext e24
                                    replace OX10 := OX10.ext e24
                                    replace O8 := O8.ext e24
                                    replace O11 := O11.ext e24
                                    replace O21 := O21.ext e24
                                    have F := F.trans e24
                                    have lG109_0 := G109_0.len
                                    have hl_ := turn_len xs0 r1.Need r1.Votes k2 k3
                                    refine ⟨F, ?_⟩
                                    refine h_take 7 rfl (by kernel_rfl) (by kernel_rfl) (by kernel_rfl) (fun w' x_ => xmove rfl) rfl rfl rfl F ?_
                                    refine h_take 8 rfl (by kernel_rfl) (by kernel_rfl) (by kernel_rfl) (fun w' x_ => xextract rfl rfl) rfl rfl rfl F ?_
                                    refine h_take 9 rfl (by kernel_rfl) (by kernel_rfl) (by kernel_rfl) (fun w' x_ => xextract rfl rfl) rfl rfl rfl F ?_
                                    refine h_ready (rs := [11]) (by kernel_rfl) (by decide) ⟨?_, trivial⟩
                                    ·
                                      refine hs_storeN (vs := [.int .i64 (turnVote xs0 r1.Need r1.Votes k2 k3).1.1, .slice q109_0 m109_0 d109_0]) Try.sizeOf41 rfl rfl O21 rfl (by simp) (by simp [Value.oneCell']) F (by omega) rfl rfl ?_
                                      intro w25 on25 O25
                                      have hz25 := on25.size
                                      have E := on25.ext E (by omega)
                                      replace X8_0 := X8_0.only on25 (by omega)
                                      replace G42 := G42.only on25 (by omega)
                                      replace G44 := G44.only on25 (by omega)
                                      replace G50_0 := G50_0.only on25 (by omega)
                                      replace G64 := G64.only on25 (by omega)
                                      replace G104 := G104.only on25 (by omega)
                                      replace G106 := G106.only on25 (by omega)
                                      replace G109_0 := G109_0.only on25 (by omega)
                                      replace O1 := on25.own O1 (by omega)
                                      replace OX10 := on25.own OX10 (by omega)
                                      replace O8 := on25.own O8 (by omega)
                                      replace O11 := on25.own O11 (by omega)
                                      have F := on25.ext F (by omega)
                                      replace O25 : Own w25 b21 [.int .i64 (turnVote xs0 r1.Need r1.Votes k2 k3).1.1, .slice q109_0 m109_0 d109_0] 41 := O25
                                      refine h_take 12 rfl (by kernel_rfl) (by kernel_rfl) (by kernel_rfl) (fun w' x_ => xassign rfl) rfl rfl rfl F ?_
                                      refine h_done (by kernel_rfl) ?_
                                      intro a_ ha_
                                      exact ⟨(q109_0, m109_0, d109_0, _, _, b21), ⟨F, ⟨G109_0, by omega, O25, by omega⟩⟩, ha_.sub ⟨rfl, rfl, rfl, rfl, rfl, rfl, rfl, rfl, trivial⟩⟩
                          · intro x_
                            obtain ⟨q31_0, m31_0, d31_0, la31_0, ha31_0, bx19⟩ := x_
                            rintro w21 ⟨e21, X31_0, hbx19, OX19, hla31_0⟩
                            have z21 := e21.size
                            have E := E.trans e21
                            replace X8_0 := X8_0.ext e21
                            replace G42 := G42.ext e21
                            replace G44 := G44.ext e21
                            replace G50_0 := G50_0.ext e21
                            replace G64 := G64.ext e21
                            replace O1 := O1.ext e21
                            replace OX10 := OX10.ext e21
                            replace O8 := O8.ext e21
                            replace O11 := O11.ext e21
                            have lX31_0 := X31_0.len
                            have ltOX19 := OX19.lt
                            have hl_ := turn_len xs0 r1.Need r1.Votes k2 k3
                            refine run_seq ?_
                            refine run_seq ?_
                            refine run_region ?_
                            refine ov (v := .agg #[.int .i64 (turnVote xs0 r1.Need r1.Votes k2 k3).1.1, .slice q31_0 m31_0 d31_0]) (xloadN Try.isAgg41 Try.sizeOf41 rfl (OX19.cells) rfl) rfl rfl rfl ?_
                            refine ov (v := .agg #[.int .i64 (turnVote xs0 r1.Need r1.Votes k2 k3).1.1, .slice q8_0 m8_0 d8_0]) (xloadN Try.isAgg41 Try.sizeOf41 rfl (OX10.cells) rfl) rfl rfl rfl ?_
                            refine oc (xcall Try.call40 rfl) rfl rfl rfl (eqPoll_ok (⟨(turnVote xs0 r1.Need r1.Votes k2 k3).1.1, (turnVote xs0 r1.Need r1.Votes k2 k3).1.2⟩ : Poll) (⟨(turnVote xs0 r1.Need r1.Votes k2 k3).1.1, (turnVote xs0 r1.Need r1.Votes k2 k3).1.2⟩ : Poll) _ _ _ _ (X31_0.sl) _ _ _ (X8_0.sl)) ?_
                            rintro _ w22 ⟨rfl, e22⟩
                            have z22 := e22.size
                            have E := E.trans e22
                            replace X8_0 := X8_0.ext e22
                            replace G42 := G42.ext e22
                            replace G44 := G44.ext e22
                            replace G50_0 := G50_0.ext e22
                            replace G64 := G64.ext e22
                            replace X31_0 := X31_0.ext e22
                            replace O1 := O1.ext e22
                            replace OX10 := OX10.ext e22
                            replace O8 := O8.ext e22
                            replace O11 := O11.ext e22
                            replace OX19 := OX19.ext e22
                            refine obs (fun c114 => ?_) (fun c114 => ?_)
                            ·
                              refine ov (xnot rfl) rfl rfl rfl ?_
                              refine ov (xmove rfl) rfl rfl rfl ?_
                              refine ov (xmove rfl) rfl rfl rfl ?_
                              refine ov (xmove rfl) rfl rfl rfl ?_
                              refine ov (xneq rfl rfl _ rfl) rfl rfl rfl ?_
                              refine ods (fun c119 => ?_) (fun c119 => ?_)
                              · exfalso; first | exact absurd rfl c119 | omega
                              ·
                                refine ov (xpick_f rfl rfl) rfl rfl rfl ?_
                                refine ops_nil ?_
                                refine run_cond_f rfl ?_
                                refine run_skip ?_
                                refine run_seq ?_
                                refine run_region ?_
                                refine ov (xassign rfl) rfl rfl rfl ?_
                                refine ops_nil ?_
                                refine run_seq ?_
                                refine run_region ?_
                                refine ov (v := .agg #[.int .i64 (turnVote xs0 r1.Need r1.Votes k2 k3).1.1, .slice q50_0 m50_0 d50_0]) (xloadN Try.isAgg41 Try.sizeOf41 rfl (O11.cells) rfl) rfl rfl rfl ?_
                                refine ov (xmove rfl) rfl rfl rfl ?_
                                refine oc (xcall Try.call65 rfl) rfl rfl rfl (heldPoll_ok _ _ _ _ _ _ _ (G50_0.sl) (by omega) (by omega) (by omega) (by omega)) ?_
                                rintro _ w23 ⟨k123_, rfl, hk123_, e23⟩
                                have z23 := e23.size
                                have E := E.trans e23
                                replace X8_0 := X8_0.ext e23
                                replace G42 := G42.ext e23
                                replace G44 := G44.ext e23
                                replace G50_0 := G50_0.ext e23
                                replace G64 := G64.ext e23
                                replace X31_0 := X31_0.ext e23
                                replace O1 := O1.ext e23
                                replace OX10 := OX10.ext e23
                                replace O8 := O8.ext e23
                                replace O11 := O11.ext e23
                                replace OX19 := OX19.ext e23
                                refine ov (xassign rfl) rfl rfl rfl ?_
                                refine ops_nil ?_
                                refine run_seq ?_
                                refine run_seq ?_
                                refine run_region ?_
                                refine ov (xmove rfl) rfl rfl rfl ?_
                                refine ov (xlss rfl rfl _ rfl) rfl rfl rfl ?_
                                refine ods (fun c125 => ?_) (fun c125 => ?_)
                                · exfalso; omega
                                ·
                                  refine ops_nil ?_
                                  refine run_cond_f rfl ?_
                                  refine run_skip ?_
                                  refine run_seq ?_
                                  refine run_seq ?_
                                  refine run_region ?_
                                  refine ov (xmove rfl) rfl rfl rfl ?_
                                  refine ov (xmove rfl) rfl rfl rfl ?_
                                  refine ov (xneq rfl rfl _ rfl) rfl rfl rfl ?_
                                  refine ods (fun c128 => ?_) (fun c128 => ?_)
                                  · exfalso; first | exact absurd rfl c128 | omega
                                  ·
                                    refine ops_nil ?_
                                    refine run_cond_f rfl ?_
                                    refine run_skip ?_
                                    refine run_seq ?_
                                    refine run_region ?_
                                    refine ov (xassign rfl) rfl rfl rfl ?_
                                    refine ops_nil ?_
                                    refine run_ret Try.func16 (res1 rfl rfl) ?_
                                    exact ⟨_, rfl, pv E⟩
                            · exfalso; rw [eqPoll_refl] at c114; cases c114
                  · exfalso; rw [eqPoll_refl] at c83; cases c83
            · exfalso; rw [eqL_refl eqQuestion_refl] at c65; cases c65
        · exfalso; rw [eqPoll_refl] at c55; cases c55
end Go.Proofs.Ytinpkihmkfiidaa
