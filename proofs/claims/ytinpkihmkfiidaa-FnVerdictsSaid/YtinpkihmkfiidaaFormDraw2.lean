/-
  Draws of forms with answers. No condition beyond those written in each theorem.
-/
import Derived.Test.YtinpkihmkfiidaaFormDraw
import Derived.Test.YtinpkihmkfiidaaTidy
namespace Go.Proofs.Ytinpkihmkfiidaa
open Go.RowKit
set_option linter.unusedVariables false
set_option linter.unusedSimpArgs false
set_option linter.unusedSectionVars false
set_option maxRecDepth 4000

set_option maxHeartbeats 1000000 in
theorem DrawWayOf_ok (p : Option Addr) (n c : Nat) (bs : List Int) (w : World) (H : Sl u8c 1 w p n c bs) (hbs : ∀ x ∈ bs, 0 ≤ x ∧ x ≤ 255) : Ret Try.prog 124 [.slice p n c] w (fun v w' => Ext w w' ∧ ∃ (xs : List Question) (q : Option Addr) (m d : Nat) (az : List Int) (q2 : Option Addr) (m2 d2 : Nat), v = .tuple #[.slice q m d, .slice q2 m2 d2] ∧ (∀ x ∈ xs, x.Label.size ≤ 9223372036854775807) ∧ SlF Question.cells 3 w' w.heap.size w'.heap.size q m d xs ∧ SlF i64c 1 w' w.heap.size w'.heap.size q2 m2 d2 az) := by
  refine ret_of_run (N := 14) Try.func124 rfl rfl rfl ?_
  have hfar := H.blk (fun x => by simp [u8c])
  have E : Ext w w := Ext.refl w
  refine run_seq ?_
  refine run_region ?_
  refine ov (xassign rfl) rfl rfl rfl ?_
  refine ov (xassign rfl) rfl rfl rfl ?_
  refine ops_nil ?_
  refine run_seq ?_
  refine run_region ?_
  refine ov (xmove rfl) rfl rfl rfl ?_
  refine oc (xcall Try.call125 rfl) rfl rfl rfl (l01From_ok _ _ _ _ _ (H.ext E) (by assumption) w.heap.size hfar (by omega)) ?_
  rintro _ w1 ⟨e1, b7_, rfl, hcb7, S⟩
  have z1 := e1.size
  have E := E.trans e1
  have hcc7 := S.cb
  have hbl7 := S.lt
  refine ov (xassign rfl) rfl rfl rfl ?_
  refine ops_nil ?_
  refine run_seq ?_
  refine run_region ?_
  refine ov (xmove rfl) rfl rfl rfl ?_
  refine oc (xcall Try.call135 rfl) rfl rfl rfl (l26Draw_ok b7_ w.heap.size _ S) ?_
  rintro _ w2 ⟨r9_0, r9_1, r9_2, r9_3, rfl, h9_0, h9_1, h9_2, m2, S2⟩
  have z2 := m2.size
  have E := m2.toExt E (by omega)
  replace S := S2
  refine ov (xassign rfl) rfl rfl rfl ?_
  refine ops_nil ?_
  refine run_seq ?_
  refine run_region ?_
  refine ov (xmove rfl) rfl rfl rfl ?_
  refine ov (xmove rfl) rfl rfl rfl ?_
  refine ov (xmove rfl) rfl rfl rfl ?_
  refine oc (xcall Try.call141 rfl) rfl rfl rfl (l26Answers_ok b7_ w.heap.size _ _ _ _ S (by omega)) ?_
  rintro _ w3 ⟨r13_0, r13_1, r13_2, r13_3, rfl, h13_0, h13_1, h13_2, m3, S3⟩
  have z3 := m3.size
  have E := m3.toExt E (by omega)
  replace h9_2 := h9_2.off m3 (by omega)
  replace S := S3
  refine ov (xassign rfl) rfl rfl rfl ?_
  refine ov (xassign rfl) rfl rfl rfl ?_
  refine ops_nil ?_
  refine run_ret Try.func124 (res2 rfl rfl rfl) ?_
  exact ⟨_, rfl, E, _, _, _, _, _, _, _, _, rfl, fun x m => Nat.le_trans (h9_0 x m) (by decide), h9_2.wide (by omega) (by omega), h13_2.slF (by omega) (by omega)⟩

set_option maxHeartbeats 1000000 in
theorem DrawTidyAnswers_ok (p : Option Addr) (n c : Nat) (bs : List Int) (w : World) (H : Sl u8c 1 w p n c bs) (hbs : ∀ x ∈ bs, 0 ≤ x ∧ x ≤ 255) : Ret Try.prog 67 [.slice p n c] w (fun v w' => Ext w w' ∧ ∃ (xs : List Question) (q : Option Addr) (m d : Nat) (az : List Int) (q2 : Option Addr) (m2 d2 : Nat), v = .tuple #[.slice q m d, .slice q2 m2 d2] ∧ (∀ x ∈ xs, x.Label.size ≤ 9223372036854775807) ∧ SlF Question.cells 3 w' w.heap.size w'.heap.size q m d xs ∧ SlF i64c 1 w' w.heap.size w'.heap.size q2 m2 d2 az) := by
  refine ret_of_run (N := 8) Try.func67 rfl rfl rfl ?_
  have hfar := H.blk (fun x => by simp [u8c])
  have E : Ext w w := Ext.refl w
  refine run_seq ?_
  refine run_region ?_
  refine ov (xassign rfl) rfl rfl rfl ?_
  refine ov (xassign rfl) rfl rfl rfl ?_
  refine ops_nil ?_
  refine run_seq ?_
  refine run_region ?_
  refine ov (xmove rfl) rfl rfl rfl ?_
  refine oc (xcall Try.call124 rfl) rfl rfl rfl (DrawWayOf_ok _ _ _ _ _ (H.ext E) (by assumption)) ?_
  rintro _ w1 ⟨e1, xs5, q5, m5, d5, az5, p5, n5, k5, rfl, ok5, F5, A5⟩
  have z1 := e1.size
  have E := E.trans e1
  have lF5 := F5.sl.len
  have lA5 := A5.sl.len
  refine ov (xextract rfl rfl) rfl rfl rfl ?_
  refine ov (xextract rfl rfl) rfl rfl rfl ?_
  refine ov (xassign rfl) rfl rfl rfl ?_
  refine ov (xassign rfl) rfl rfl rfl ?_
  refine ops_nil ?_
  refine run_ret Try.func67 (res2 rfl rfl rfl) ?_
  exact ⟨_, rfl, E, _, _, _, _, _, _, _, _, rfl, ok5, F5.wide (by omega) (by omega), A5.wide (by omega) (by omega)⟩

set_option maxHeartbeats 1000000 in
theorem DrawIsTidy_ok (p : Option Addr) (n c : Nat) (bs : List Int) (w : World) (H : Sl u8c 1 w p n c bs) (hbs : ∀ x ∈ bs, 0 ≤ x ∧ x ≤ 255) : Ret Try.prog 68 [.slice p n c] w (fun v w' => Ext w w' ∧ ∃ (xs : List Question) (q : Option Addr) (m d : Nat) (az : List Int) (q2 : Option Addr) (m2 d2 : Nat), v = .tuple #[.slice q m d, .slice q2 m2 d2] ∧ (∀ x ∈ xs, x.Label.size ≤ 9223372036854775807) ∧ SlF Question.cells 3 w' w.heap.size w'.heap.size q m d xs ∧ SlF i64c 1 w' w.heap.size w'.heap.size q2 m2 d2 az) := by
  refine ret_of_run (N := 33) Try.func68 rfl rfl rfl ?_
  have hfar := H.blk (fun x => by simp [u8c])
  have E : Ext w w := Ext.refl w
  refine run_seq ?_
  refine run_region ?_
  refine ov (xassign rfl) rfl rfl rfl ?_
  refine ov (xassign rfl) rfl rfl rfl ?_
  refine ops_nil ?_
  refine run_seq ?_
  refine run_region ?_
  refine ov (xmove rfl) rfl rfl rfl ?_
  refine oc (xcall Try.call125 rfl) rfl rfl rfl (l01From_ok _ _ _ _ _ (H.ext E) (by assumption) w.heap.size hfar (by omega)) ?_
  rintro _ w1 ⟨e1, b10_, rfl, hcb10, S⟩
  have z1 := e1.size
  have E := E.trans e1
  have hcc10 := S.cb
  have hbl10 := S.lt
  refine ov (xassign rfl) rfl rfl rfl ?_
  refine ops_nil ?_
  refine run_seq ?_
  refine run_region ?_
  refine ov (xmove rfl) rfl rfl rfl ?_
  refine oc (xcall Try.call124 rfl) rfl rfl rfl (DrawWayOf_ok _ _ _ _ _ (H.ext E) (by assumption)) ?_
  rintro _ w2 ⟨e2, xs13, q13, m13, d13, az13, p13, n13, k13, rfl, ok13, F13, A13⟩
  have z2 := e2.size
  have E := E.trans e2
  replace S := S.ext e2
  have lF13 := F13.sl.len
  have lA13 := A13.sl.len
  refine ov (xmove rfl) rfl rfl rfl ?_
  refine ov (xextract rfl rfl) rfl rfl rfl ?_
  refine ov (xextract rfl rfl) rfl rfl rfl ?_
  refine ov (xassign rfl) rfl rfl rfl ?_
  refine ov (xassign rfl) rfl rfl rfl ?_
  refine ops_nil ?_
  refine run_seq ?_
  refine run_region ?_
  refine ov (xmove rfl) rfl rfl rfl ?_
  refine ov (xmove rfl) rfl rfl rfl ?_
  refine oc (xcall Try.call52 rfl) rfl rfl rfl (sTidyAnswers_ok _ _ _ xs13 _ _ _ az13 _ (F13.sl) (by assumption) (A13.sl)) ?_
  rintro _ w3 ⟨e3, q19_0, m19_0, d19_0, rfl, G19_0⟩
  have z3 := e3.size
  have E := E.trans e3
  replace S := S.ext e3
  replace F13 := F13.ext e3
  replace A13 := A13.ext e3
  have lG19_0 := G19_0.len
  refine ov (xmove rfl) rfl rfl rfl ?_
  refine ov (xextract rfl rfl) rfl rfl rfl ?_
  refine ov (xextract rfl rfl) rfl rfl rfl ?_
  refine ov (xassign rfl) rfl rfl rfl ?_
  refine ov (xassign rfl) rfl rfl rfl ?_
  refine ops_nil ?_
  refine run_seq ?_
  refine run_seq ?_
  refine run_region ?_
  refine ov (xmove rfl) rfl rfl rfl ?_
  refine ov (xeql rfl rfl _ rfl) rfl rfl rfl ?_
  refine ods (fun c23 => ?_) (fun c23 => ?_)
  ·
    refine ov (xmove rfl) rfl rfl rfl ?_
    refine ov (xmove rfl) rfl rfl rfl ?_
    refine oc (xcall Try.call126 rfl) rfl rfl rfl (l01Next_ok b10_ w.heap.size (3) _ S) ?_
    rintro _ w4 ⟨r26_0, rfl, h26_0, h26_1, m4, S4⟩
    have z4 := m4.size
    have E := m4.toExt E (by omega)
    replace F13 := F13.off m4 (by omega)
    replace A13 := A13.off m4 (by omega)
    replace G19_0 := G19_0.off m4 (by omega)
    replace S := S4
    refine ov (xgtr rfl rfl _ rfl) rfl rfl rfl ?_
    refine ods (fun c27 => ?_) (fun c27 => ?_)
    ·
      refine ov (xpick_t rfl rfl) rfl rfl rfl ?_
      refine ops_nil ?_
      refine run_cond_t rfl ?_
      refine run_seq ?_
      refine run_region ?_
      refine ov (xmove rfl) rfl rfl rfl ?_
      refine ov (xmove rfl) rfl rfl rfl ?_
      refine ov (xassign rfl) rfl rfl rfl ?_
      refine ov (xassign rfl) rfl rfl rfl ?_
      refine ops_nil ?_
      refine run_ret Try.func68 (res2 rfl rfl rfl) ?_
      exact ⟨_, rfl, E, _, _, _, _, _, _, _, _, rfl, ok13, F13.wide (by omega) (by omega), G19_0.slF (by omega) (by omega)⟩
    ·
      refine ov (xpick_t rfl rfl) rfl rfl rfl ?_
      refine ops_nil ?_
      refine run_cond_f rfl ?_
      refine run_skip ?_
      refine run_seq ?_
      refine run_region ?_
      refine ov (xmove rfl) rfl rfl rfl ?_
      refine ov (xmove rfl) rfl rfl rfl ?_
      refine ov (xassign rfl) rfl rfl rfl ?_
      refine ov (xassign rfl) rfl rfl rfl ?_
      refine ops_nil ?_
      refine run_ret Try.func68 (res2 rfl rfl rfl) ?_
      exact ⟨_, rfl, E, _, _, _, _, _, _, _, _, rfl, ok13, F13.wide (by omega) (by omega), A13.wide (by omega) (by omega)⟩
  ·
    refine ov (xmove rfl) rfl rfl rfl ?_
    refine og rfl rfl rfl ?_
    refine og rfl rfl rfl ?_
    refine og rfl rfl rfl ?_
    refine ov (xpick_f rfl rfl) rfl rfl rfl ?_
    refine ops_nil ?_
    refine run_cond_f rfl ?_
    refine run_skip ?_
    refine run_seq ?_
    refine run_region ?_
    refine ov (xmove rfl) rfl rfl rfl ?_
    refine ov (xmove rfl) rfl rfl rfl ?_
    refine ov (xassign rfl) rfl rfl rfl ?_
    refine ov (xassign rfl) rfl rfl rfl ?_
    refine ops_nil ?_
    refine run_ret Try.func68 (res2 rfl rfl rfl) ?_
    exact ⟨_, rfl, E, _, _, _, _, _, _, _, _, rfl, ok13, F13.wide (by omega) (by omega), A13.wide (by omega) (by omega)⟩
end Go.Proofs.Ytinpkihmkfiidaa
