/-
  The law on verdicts: the walk. No condition beyond those written in each theorem.
-/
import Derived.Test.YtinpkihmkfiidaaFormLaw
import Derived.Test.YtinpkihmkfiidaaAnsF
import Derived.Test.YtinpkihmkfiidaaVerF
namespace Go.Proofs.Ytinpkihmkfiidaa
open Go.RowKit
set_option linter.unusedVariables false
set_option linter.unusedSimpArgs false
set_option linter.unusedSectionVars false
set_option maxRecDepth 4000

theorem verdicts_form {xs : List Question} (h : (verdictsOf xs).2 = 0) : isForm xs = true := by
  unfold verdictsOf at h
  split at h
  · cases h
  · rename_i h2; simpa using h2
theorem verdicts_list {xs : List Question} (h : isForm xs = true) : (verdictsOf xs).1 = negs (srt (usedL xs)) := by rw [verdictsOf, if_neg (by simp [h])]

set_option maxHeartbeats 400000 in
theorem hasInt_ok (p : Option Addr) (n c : Nat) (xs : List Int) (x : Int) (w : World) (H : Sl i64c 1 w p n c xs) : Ret Try.prog 84 [.slice p n c, .int .i64 x] w (Pv w (.bool (hasI xs x))) := by
  refine ret_of_run (N := 18) Try.func84 rfl rfl rfl ?_
  have hn := H.len
  have hn6 := H.n64
  have E : Ext w w := Ext.refl w
  refine run_seq ?_
  refine run_region ?_
  refine ov (xassign rfl) rfl rfl rfl ?_
  refine ops_nil ?_
  refine run_seq ?_
  refine run_seq ?_
  refine run_region ?_
  refine ov (xassign rfl) rfl rfl rfl ?_
  refine ops_nil ?_
  refine run_block ?_
  refine run_loop (ι := Nat × World) (fun x_ => match x_ with | (k, wr) => (Ext w wr) ∧ (w.heap.size ≤ wr.heap.size) ∧ (k ≤ n) ∧ (∀ j (hj : j < xs.length), j < k → xs[j] ≠ x)) (fun x_ => match x_ with | (k, wr) => [(0, .slice p n c), (1, .int .i64 x), (5, .int .i64 (k : Int))]) (fun x_ => match x_ with | (k, wr) => wr) (fun x_ => match x_ with | (k, wr) => n - k) ?_ (0, w) (⟨E, Nat.le_refl _, by omega, fun j hj h => absurd h (Nat.not_lt_zero j)⟩) ⟨rfl, rfl, rfl, trivial⟩ rfl
  intro i_ hI_ hback2
  obtain ⟨k, wr⟩ := i_
  obtain ⟨E, lz_wr, hk, ha⟩ := hI_
  try dsimp only
  have zr := E.size
  refine run_seq ?_
  refine run_seq ?_
  refine run_region ?_
  refine ov (xmove rfl) rfl rfl rfl ?_
  refine ov (xmove rfl) rfl rfl rfl ?_
  refine ov (xlen Try.underlying31 rfl) rfl rfl rfl ?_
  refine ov (xlss rfl rfl _ rfl) rfl rfl rfl ?_
  refine ods (fun c9 => ?_) (fun c9 => ?_)
  ·
    refine ops_nil ?_
    refine run_cond_t rfl ?_
    refine run_skip ?_
    refine run_seq ?_
    refine run_block ?_
    refine run_seq ?_
    refine run_region ?_
    refine ov (xmove rfl) rfl rfl rfl ?_
    refine ov (xmove rfl) rfl rfl rfl ?_
    have h14 := (H.ext E).at (i := k) (by omega)
    refine ov (xindexN (i := k) Try.underlying31 Try.sizeOf2 rfl rfl rfl ((H.ext E).p (i := k) (by omega)) (by have := (H.ext E).len; omega)) rfl rfl rfl ?_
    refine ov (v := .int .i64 xs[k]) (xloadz Try.isAgg2 rfl (h14) rfl) rfl rfl rfl ?_
    refine ov (xmove rfl) rfl rfl rfl ?_
    refine ov (xeql rfl rfl _ rfl) rfl rfl rfl ?_
    refine ods (fun c17 => ?_) (fun c17 => ?_)
    ·
      refine ops_nil ?_
      refine run_cond_t rfl ?_
      refine run_seq ?_
      refine run_region ?_
      refine ov (xassign rfl) rfl rfl rfl ?_
      refine ops_nil ?_
      refine run_ret Try.func84 (res1 rfl rfl) ?_
      exact ⟨_, rfl, by rw [hasI_t (k := k) (by omega) (by omega)], E⟩
    ·
      refine ops_nil ?_
      refine run_cond_f rfl ?_
      refine run_skip ?_
      refine run_inBlock ?_
      refine run_region ?_
      refine ov (xmove rfl) rfl rfl rfl ?_
      refine ov (xadd rfl rfl (by unfold I64; omega)) rfl rfl rfl ?_
      refine ov (xassign rfl) rfl rfl rfl ?_
      refine ops_nil ?_
      refine run_sub ?_ (hback2 (k + 1, wr) (⟨E, by omega, by omega, below_succ (q := fun y => y ≠ x) ha (fun _ => by omega)⟩) (by first | omega | (dsimp only; omega)))
      exact ⟨rfl, rfl, rfl, trivial⟩
  ·
    refine ops_nil ?_
    refine run_cond_f rfl ?_
    refine run_exit rfl ?_
    refine run_seq ?_
    refine run_region ?_
    refine ov (xassign rfl) rfl rfl rfl ?_
    refine ops_nil ?_
    refine run_ret Try.func84 (res1 rfl rfl) ?_
    exact ⟨_, rfl, by rw [hasI_f ha (by omega)], E⟩

set_option maxHeartbeats 1000000 in
theorem DrawAnswersFor_ok (p : Option Addr) (n c : Nat) (bs : List Int) (w : World) (H : Sl u8c 1 w p n c bs) (hbs : ∀ x ∈ bs, 0 ≤ x ∧ x ≤ 255) : Ret Try.prog 83 [.slice p n c] w (fun v w' => Ext w w' ∧ ∃ (xs : List Question) (q : Option Addr) (m d : Nat) (r : Int), v = .tuple #[.slice q m d, .int .i64 r] ∧ (∀ x ∈ xs, x.Label.size ≤ 9223372036854775807) ∧ SlF Question.cells 3 w' w.heap.size w'.heap.size q m d xs ∧ (-7 ≤ r ∧ r ≤ 7)) := by
  refine ret_of_run (N := 14) Try.func83 rfl rfl rfl ?_
  have hfar := H.blk (fun x => by simp [u8c])
  have E : Ext w w := Ext.refl w
  refine run_seq ?_
  refine run_region ?_
  refine ov (xassign rfl) rfl rfl rfl ?_
  refine ov (xassign rfl) rfl rfl rfl ?_
  refine ops_nil ?_
  refine run_seq ?_
  refine run_region ?_
  refine ov (xmove rfl) rfl rfl rfl ?_
  refine oc (xcall Try.call125 rfl) rfl rfl rfl (l01From_ok _ _ _ _ _ (H.ext E) (by assumption) w.heap.size hfar (by omega)) ?_
  rintro _ w1 ⟨e1, b7_, rfl, hcb7, S⟩
  have z1 := e1.size
  have E := E.trans e1
  have hcc7 := S.cb
  have hbl7 := S.lt
  refine ov (xassign rfl) rfl rfl rfl ?_
  refine ops_nil ?_
  refine run_seq ?_
  refine run_region ?_
  refine ov (xmove rfl) rfl rfl rfl ?_
  refine oc (xcall Try.call135 rfl) rfl rfl rfl (l26Draw_ok b7_ w.heap.size _ S) ?_
  rintro _ w2 ⟨r9_0, r9_1, r9_2, r9_3, rfl, h9_0, h9_1, h9_2, m2, S2⟩
  have z2 := m2.size
  have E := m2.toExt E (by omega)
  replace S := S2
  refine ov (xassign rfl) rfl rfl rfl ?_
  refine ops_nil ?_
  refine run_seq ?_
  refine run_region ?_
  refine ov (xmove rfl) rfl rfl rfl ?_
  refine ov (xmove rfl) rfl rfl rfl ?_
  refine obuild (cs := [.int .i64 (-1), .int .i64 (-2), .int .i64 (-3), .int .i64 (-4), .int .i64 (-6), .int .i64 (-7), .int .i64 0]) (sz := 1) Try.underlying31 inf2 rfl rfl (by decide) rfl rfl (by simp [Value.cells]) rfl rfl rfl ?_
  intro b3 w3 e3 hb3 hz3 O3
  have E := E.trans e3
  replace S := S.ext e3
  replace h9_2 := h9_2.ext e3
  have G3 : Ow i64c 1 2 w3 b3 (b3 + 1) (some ⟨b3, 0, none⟩) 7 7 ([(-1), (-2), (-3), (-4), (-6), (-7), 0] : List Int) := Own.ow (by simpa [Question.cells, i64c] using O3) rfl (by omega) (Nat.le_refl _) (by omega) (by intro x hx; rfl)
  refine oc (xcall Try.call136 rfl) rfl rfl rfl (l01Pick_ok b7_ w.heap.size _ _ _ ([(-1), (-2), (-3), (-4), (-6), (-7), 0] : List Int) 7 _ S (G3.sl) (by decide) (by omega) (by simp only [pb, Option.getD_some]; omega)) ?_
  rintro _ w4 ⟨r13_0, rfl, h13_0, m4, S4⟩
  have z4 := m4.size
  have E := m4.toExt E (by omega)
  replace h9_2 := h9_2.off m4 (by omega)
  replace G3 := G3.off m4 (by omega)
  replace S := S4
  refine ov (xassign rfl) rfl rfl rfl ?_
  refine ov (xassign rfl) rfl rfl rfl ?_
  refine ops_nil ?_
  refine run_ret Try.func83 (res2 rfl rfl rfl) ?_
  exact ⟨_, rfl, E, _, _, _, _, _, rfl, fun x m => Nat.le_trans (h9_0 x m) (by decide), h9_2.wide (by omega) (by omega), h13_0⟩

set_option maxHeartbeats 4000000 in
theorem FnVerdicts_ok (p : Option Addr) (n c : Nat) (bs : List Int) (w : World) (H : Sl u8c 1 w p n c bs) (hbs : ∀ x ∈ bs, 0 ≤ x ∧ x ≤ 255) : Ret Try.prog 24 [.slice p n c] w (Pv w (.bool true)) := by
  refine ret_of_run (N := 205) Try.func24 rfl rfl rfl ?_
  have hn := H.len
  have E : Ext w w := Ext.refl w
  refine run_seq ?_
  refine run_region ?_
  refine ov (xassign rfl) rfl rfl rfl ?_
  refine ops_nil ?_
  refine run_seq ?_
  refine run_seq ?_
  refine run_region ?_
  refine ov (xmove rfl) rfl rfl rfl ?_
  refine oc (xcall Try.call66 rfl) rfl rfl rfl (big_ok _ _ _ _ _ (H.ext E)) ?_
  rintro _ w1 ⟨rfl, e1⟩
  have z1 := e1.size
  have E := E.trans e1
  refine obs (fun c31 => ?_) (fun c31 => ?_)
  ·
    refine ops_nil ?_
    refine run_cond_t rfl ?_
    refine run_seq ?_
    refine run_region ?_
    refine ov (xassign rfl) rfl rfl rfl ?_
    refine ops_nil ?_
    refine run_ret Try.func24 (res1 rfl rfl) ?_
    first | exact ⟨_, rfl, rfl, E⟩ | exact ⟨_, rfl, by rw [decide_eq_true k4], E⟩
  ·
    refine ops_nil ?_
    refine run_cond_f rfl ?_
    refine run_skip ?_
    refine run_seq ?_
    refine run_region ?_
    refine ov (xmove rfl) rfl rfl rfl ?_
    refine oc (xcall Try.call83 rfl) rfl rfl rfl (DrawAnswersFor_ok _ _ _ _ _ (H.ext E) (by assumption)) ?_
    rintro _ w2 ⟨e2, xs34, q34, m34, d34, r34, rfl, ok34, F34, hr34⟩
    have z2 := e2.size
    have E := E.trans e2
    have lF34 := F34.sl.len
    refine ov (xmove rfl) rfl rfl rfl ?_
    refine ov (xextract rfl rfl) rfl rfl rfl ?_
    refine ov (xextract rfl rfl) rfl rfl rfl ?_
    refine ov (xassign rfl) rfl rfl rfl ?_
    refine ov (xassign rfl) rfl rfl rfl ?_
    refine ops_nil ?_
    refine run_seq ?_
    refine run_region ?_
    refine ov (xmove rfl) rfl rfl rfl ?_
    refine ov (xmove rfl) rfl rfl rfl ?_
    refine oc (xcall Try.call47 rfl) rfl rfl rfl (AnswersFor_ok _ _ _ xs34 _ (F34.sl) (by assumption) r34) ?_
    rintro _ w3 ⟨e3, q40_0, m40_0, d40_0, rfl, G40_0⟩
    have z3 := e3.size
    have E := E.trans e3
    replace F34 := F34.ext e3
    have lG40_0 := G40_0.len
    refine ov (xmove rfl) rfl rfl rfl ?_
    refine ov (xextract rfl rfl) rfl rfl rfl ?_
    refine ov (xextract rfl rfl) rfl rfl rfl ?_
    refine ov (xassign rfl) rfl rfl rfl ?_
    refine ov (xassign rfl) rfl rfl rfl ?_
    refine ops_nil ?_
    refine run_seq ?_
    refine run_region ?_
    refine ov (xmove rfl) rfl rfl rfl ?_
    refine ov (xmove rfl) rfl rfl rfl ?_
    refine oc (xcall Try.call46 rfl) rfl rfl rfl (sAnswersFor_ok _ _ _ xs34 _ (F34.sl) (by assumption) r34) ?_
    rintro _ w4 ⟨e4, q46_0, m46_0, d46_0, rfl, G46_0⟩
    have z4 := e4.size
    have E := E.trans e4
    replace F34 := F34.ext e4
    replace G40_0 := G40_0.ext e4
    have lG46_0 := G46_0.len
    refine ov (xmove rfl) rfl rfl rfl ?_
    refine ov (xextract rfl rfl) rfl rfl rfl ?_
    refine ov (xextract rfl rfl) rfl rfl rfl ?_
    refine ov (xassign rfl) rfl rfl rfl ?_
    refine ov (xassign rfl) rfl rfl rfl ?_
    refine ops_nil ?_
    refine run_seq ?_
    refine run_region ?_
    refine ov (xmove rfl) rfl rfl rfl ?_
    refine oc (xcall Try.call82 rfl) rfl rfl rfl (VerdictsOf_ok _ _ _ xs34 _ (F34.sl) (by assumption)) ?_
    rintro _ w5 ⟨e5, q51_0, m51_0, d51_0, rfl, G51_0⟩
    have z5 := e5.size
    have E := E.trans e5
    replace F34 := F34.ext e5
    replace G40_0 := G40_0.ext e5
    replace G46_0 := G46_0.ext e5
    have lG51_0 := G51_0.len
    refine ov (xmove rfl) rfl rfl rfl ?_
    refine ov (xextract rfl rfl) rfl rfl rfl ?_
    refine ov (xextract rfl rfl) rfl rfl rfl ?_
    refine ov (xassign rfl) rfl rfl rfl ?_
    refine ov (xassign rfl) rfl rfl rfl ?_
    refine ops_nil ?_
    refine run_seq ?_
    refine run_region ?_
    refine ov (xmove rfl) rfl rfl rfl ?_
    refine oc (xcall Try.call81 rfl) rfl rfl rfl (sVerdictsOf_ok _ _ _ xs34 _ (F34.sl) (by assumption)) ?_
    rintro _ w6 ⟨e6, q56_0, m56_0, d56_0, rfl, G56_0⟩
    have z6 := e6.size
    have E := E.trans e6
    replace F34 := F34.ext e6
    replace G40_0 := G40_0.ext e6
    replace G46_0 := G46_0.ext e6
    replace G51_0 := G51_0.ext e6
    have lG56_0 := G56_0.len
    refine ov (xmove rfl) rfl rfl rfl ?_
    refine ov (xextract rfl rfl) rfl rfl rfl ?_
    refine ov (xextract rfl rfl) rfl rfl rfl ?_
    refine ov (xassign rfl) rfl rfl rfl ?_
    refine ov (xassign rfl) rfl rfl rfl ?_
    refine ops_nil ?_
    refine run_seq ?_
    refine run_region ?_
    refine ov (xmove rfl) rfl rfl rfl ?_
    refine oc (xcall Try.call31 rfl) rfl rfl rfl (CountWays_ok _ _ _ xs34 _ (F34.sl) (by assumption)) ?_
    rintro _ w7 ⟨rfl, e7⟩
    have z7 := e7.size
    have E := E.trans e7
    replace F34 := F34.ext e7
    replace G40_0 := G40_0.ext e7
    replace G46_0 := G46_0.ext e7
    replace G51_0 := G51_0.ext e7
    replace G56_0 := G56_0.ext e7
    refine ov (xmove rfl) rfl rfl rfl ?_
    refine ov (xextract rfl rfl) rfl rfl rfl ?_
    refine ov (xextract rfl rfl) rfl rfl rfl ?_
    refine ov (xassign rfl) rfl rfl rfl ?_
    refine ov (xassign rfl) rfl rfl rfl ?_
    refine ops_nil ?_
    refine run_seq ?_
    refine run_region ?_
    refine ov (xmove rfl) rfl rfl rfl ?_
    refine oc (xcall Try.call30 rfl) rfl rfl rfl (sCountWays_ok _ _ _ xs34 _ (F34.sl) (by assumption)) ?_
    rintro _ w8 ⟨rfl, e8⟩
    have z8 := e8.size
    have E := E.trans e8
    replace F34 := F34.ext e8
    replace G40_0 := G40_0.ext e8
    replace G46_0 := G46_0.ext e8
    replace G51_0 := G51_0.ext e8
    replace G56_0 := G56_0.ext e8
    refine ov (xmove rfl) rfl rfl rfl ?_
    refine ov (xextract rfl rfl) rfl rfl rfl ?_
    refine ov (xextract rfl rfl) rfl rfl rfl ?_
    refine ov (xassign rfl) rfl rfl rfl ?_
    refine ov (xassign rfl) rfl rfl rfl ?_
    refine ops_nil ?_
    refine run_seq ?_
    refine run_region ?_
    refine ov (xmove rfl) rfl rfl rfl ?_
    refine oc (xcall Try.call80 rfl) rfl rfl rfl (UnusedQuestions_ok _ _ _ xs34 _ (F34.sl) (by assumption)) ?_
    rintro _ w9 ⟨e9, q71_0, m71_0, d71_0, rfl, G71_0⟩
    have z9 := e9.size
    have E := E.trans e9
    replace F34 := F34.ext e9
    replace G40_0 := G40_0.ext e9
    replace G46_0 := G46_0.ext e9
    replace G51_0 := G51_0.ext e9
    replace G56_0 := G56_0.ext e9
    have lG71_0 := G71_0.len
    refine ov (xmove rfl) rfl rfl rfl ?_
    refine ov (xextract rfl rfl) rfl rfl rfl ?_
    refine ov (xextract rfl rfl) rfl rfl rfl ?_
    refine ov (xassign rfl) rfl rfl rfl ?_
    refine ov (xassign rfl) rfl rfl rfl ?_
    refine ops_nil ?_
    refine run_seq ?_
    refine run_region ?_
    refine ov (xmove rfl) rfl rfl rfl ?_
    refine oc (xcall Try.call79 rfl) rfl rfl rfl (sUnusedQuestions_ok _ _ _ xs34 _ (F34.sl) (by assumption)) ?_
    rintro _ w10 ⟨e10, q76_0, m76_0, d76_0, rfl, G76_0⟩
    have z10 := e10.size
    have E := E.trans e10
    replace F34 := F34.ext e10
    replace G40_0 := G40_0.ext e10
    replace G46_0 := G46_0.ext e10
    replace G51_0 := G51_0.ext e10
    replace G56_0 := G56_0.ext e10
    replace G71_0 := G71_0.ext e10
    have lG76_0 := G76_0.len
    refine ov (xmove rfl) rfl rfl rfl ?_
    refine ov (xextract rfl rfl) rfl rfl rfl ?_
    refine ov (xextract rfl rfl) rfl rfl rfl ?_
    refine ov (xassign rfl) rfl rfl rfl ?_
    refine ov (xassign rfl) rfl rfl rfl ?_
    refine ops_nil ?_
    refine run_seq ?_
    refine run_seq ?_
    refine run_region ?_
    refine ov (xmove rfl) rfl rfl rfl ?_
    refine ov (xmove rfl) rfl rfl rfl ?_
    refine ov (xneq rfl rfl _ rfl) rfl rfl rfl ?_
    refine ods (fun c81 => ?_) (fun c81 => ?_)
    · exfalso; exact absurd rfl c81
    ·
      refine ov (xmove rfl) rfl rfl rfl ?_
      refine ov (xmove rfl) rfl rfl rfl ?_
      refine ov (xmove rfl) rfl rfl rfl ?_
      refine oc (xcall Try.call69 rfl) rfl rfl rfl (likeInts_ok _ _ _ _ _ _ _ _ (G40_0.sl) (G46_0.sl)) ?_
      rintro _ w11 ⟨rfl, e11⟩
      have z11 := e11.size
      have E := E.trans e11
      replace F34 := F34.ext e11
      replace G40_0 := G40_0.ext e11
      replace G46_0 := G46_0.ext e11
      replace G51_0 := G51_0.ext e11
      replace G56_0 := G56_0.ext e11
      replace G71_0 := G71_0.ext e11
      replace G76_0 := G76_0.ext e11
      refine obs (fun c85 => ?_) (fun c85 => ?_)
      ·
        refine ov (xnot rfl) rfl rfl rfl ?_
        refine ov (xpick_f rfl rfl) rfl rfl rfl ?_
        refine ov (xmove rfl) rfl rfl rfl ?_
        refine ov (xmove rfl) rfl rfl rfl ?_
        refine ov (xmove rfl) rfl rfl rfl ?_
        refine ov (xneq rfl rfl _ rfl) rfl rfl rfl ?_
        refine ods (fun c91 => ?_) (fun c91 => ?_)
        · exfalso; exact absurd rfl c91
        ·
          refine ov (xpick_f rfl rfl) rfl rfl rfl ?_
          refine ov (xmove rfl) rfl rfl rfl ?_
          refine ov (xmove rfl) rfl rfl rfl ?_
          refine ov (xmove rfl) rfl rfl rfl ?_
          refine oc (xcall Try.call69 rfl) rfl rfl rfl (likeInts_ok _ _ _ _ _ _ _ _ (G51_0.sl) (G56_0.sl)) ?_
          rintro _ w12 ⟨rfl, e12⟩
          have z12 := e12.size
          have E := E.trans e12
          replace F34 := F34.ext e12
          replace G40_0 := G40_0.ext e12
          replace G46_0 := G46_0.ext e12
          replace G51_0 := G51_0.ext e12
          replace G56_0 := G56_0.ext e12
          replace G71_0 := G71_0.ext e12
          replace G76_0 := G76_0.ext e12
          refine obs (fun c96 => ?_) (fun c96 => ?_)
          ·
            refine ov (xnot rfl) rfl rfl rfl ?_
            refine ov (xpick_f rfl rfl) rfl rfl rfl ?_
            refine ov (xmove rfl) rfl rfl rfl ?_
            refine ov (xmove rfl) rfl rfl rfl ?_
            refine ov (xmove rfl) rfl rfl rfl ?_
            refine ov (xneq rfl rfl _ rfl) rfl rfl rfl ?_
            refine ods (fun c102 => ?_) (fun c102 => ?_)
            · exfalso; exact absurd rfl c102
            ·
              refine ov (xpick_f rfl rfl) rfl rfl rfl ?_
              refine ov (xmove rfl) rfl rfl rfl ?_
              refine ov (xmove rfl) rfl rfl rfl ?_
              refine ov (xmove rfl) rfl rfl rfl ?_
              refine ov (xneq rfl rfl _ rfl) rfl rfl rfl ?_
              refine ods (fun c107 => ?_) (fun c107 => ?_)
              · exfalso; exact absurd rfl c107
              ·
                refine ov (xpick_f rfl rfl) rfl rfl rfl ?_
                refine ov (xmove rfl) rfl rfl rfl ?_
                refine ov (xmove rfl) rfl rfl rfl ?_
                refine ov (xmove rfl) rfl rfl rfl ?_
                refine ov (xneq rfl rfl _ rfl) rfl rfl rfl ?_
                refine ods (fun c112 => ?_) (fun c112 => ?_)
                · exfalso; exact absurd rfl c112
                ·
                  refine ov (xpick_f rfl rfl) rfl rfl rfl ?_
                  refine ov (xmove rfl) rfl rfl rfl ?_
                  refine ov (xmove rfl) rfl rfl rfl ?_
                  refine ov (xmove rfl) rfl rfl rfl ?_
                  refine oc (xcall Try.call69 rfl) rfl rfl rfl (likeInts_ok _ _ _ _ _ _ _ _ (G71_0.sl) (G76_0.sl)) ?_
                  rintro _ w13 ⟨rfl, e13⟩
                  have z13 := e13.size
                  have E := E.trans e13
                  replace F34 := F34.ext e13
                  replace G40_0 := G40_0.ext e13
                  replace G46_0 := G46_0.ext e13
                  replace G51_0 := G51_0.ext e13
                  replace G56_0 := G56_0.ext e13
                  replace G71_0 := G71_0.ext e13
                  replace G76_0 := G76_0.ext e13
                  refine obs (fun c117 => ?_) (fun c117 => ?_)
                  ·
                    refine ov (xnot rfl) rfl rfl rfl ?_
                    refine ov (xpick_f rfl rfl) rfl rfl rfl ?_
                    refine ops_nil ?_
                    refine run_cond_f rfl ?_
                    refine run_skip ?_
                    refine run_seq ?_
                    refine run_seq ?_
                    refine run_region ?_
                    refine ov (xmove rfl) rfl rfl rfl ?_
                    refine ov (xeql rfl rfl _ rfl) rfl rfl rfl ?_
                    refine ods (fun c121 => ?_) (fun c121 => ?_)
                    ·
                      have hff := verdicts_form (by omega : (verdictsOf xs34).2 = 0)
                      refine ov (xmove rfl) rfl rfl rfl ?_
                      refine ov (xmove rfl) rfl rfl rfl ?_
                      refine ov (xeql rfl rfl _ rfl) rfl rfl rfl ?_
                      refine ov (xmove rfl) rfl rfl rfl ?_
                      refine ov (xmove rfl) rfl rfl rfl ?_
                      refine oc (xcall Try.call84 rfl) rfl rfl rfl (hasInt_ok _ _ _ _ (r34) _ (G51_0.sl)) ?_
                      rintro _ w14 ⟨rfl, e14⟩
                      have z14 := e14.size
                      have E := E.trans e14
                      replace F34 := F34.ext e14
                      replace G40_0 := G40_0.ext e14
                      replace G46_0 := G46_0.ext e14
                      replace G51_0 := G51_0.ext e14
                      replace G56_0 := G56_0.ext e14
                      replace G71_0 := G71_0.ext e14
                      replace G76_0 := G76_0.ext e14
                      refine ov (xbneq Try.underlying4 rfl rfl) rfl rfl rfl ?_
                      refine ods (fun c128 => ?_) (fun c128 => ?_)
                      · exfalso; exact c128 (by rw [Bool.eq_iff_iff, decide_eq_true_iff]; exact verdicts_answers hff r34)
                      ·
                        refine ov (xpick_t rfl rfl) rfl rfl rfl ?_
                        refine ov (xmove rfl) rfl rfl rfl ?_
                        refine ov (xmove rfl) rfl rfl rfl ?_
                        refine ov (xeql rfl rfl _ rfl) rfl rfl rfl ?_
                        refine ods (fun c132 => ?_) (fun c132 => ?_)
                        ·
                          refine ov (xmove rfl) rfl rfl rfl ?_
                          refine ov (xmove rfl) rfl rfl rfl ?_
                          refine ov (xmove rfl) rfl rfl rfl ?_
                          refine ov (xlen Try.underlying31 rfl) rfl rfl rfl ?_
                          refine ov (xlss rfl rfl _ rfl) rfl rfl rfl ?_
                          refine ods (fun c137 => ?_) (fun c137 => ?_)
                          · exfalso; (have h1 := ways_verdicts hff; rw [countWays_ok hff] at c137; rw [verdicts_list hff] at lG51_0; simp only at c137; omega)
                          ·
                            refine ov (xpick_t rfl rfl) rfl rfl rfl ?_
                            refine ov (xpick_f rfl rfl) rfl rfl rfl ?_
                            refine ops_nil ?_
                            refine run_cond_f rfl ?_
                            refine run_skip ?_
                            refine run_seq ?_
                            refine run_seq ?_
                            refine run_region ?_
                            refine ov (xmove rfl) rfl rfl rfl ?_
                            refine ov (xneq rfl rfl _ rfl) rfl rfl rfl ?_
                            refine ods (fun c141 => ?_) (fun c141 => ?_)
                            ·
                              refine ops_nil ?_
                              refine run_cond_t rfl ?_
                              refine run_seq ?_
                              refine run_region ?_
                              refine ov (xassign rfl) rfl rfl rfl ?_
                              refine ops_nil ?_
                              refine run_ret Try.func24 (res1 rfl rfl) ?_
                              first | exact ⟨_, rfl, rfl, E⟩ | exact ⟨_, rfl, by rw [decide_eq_true k4], E⟩
                            ·
                              obtain ⟨hff2, k2, k3, k4, k5⟩ := answers_for (by omega : (answersFor xs34 r34).2 = 0)
                              refine ops_nil ?_
                              refine run_cond_f rfl ?_
                              refine run_skip ?_
                              refine run_seq ?_
                              refine run_region ?_
                              refine ov (xmove rfl) rfl rfl rfl ?_
                              refine ov (xmove rfl) rfl rfl rfl ?_
                              refine oc (xcall Try.call49 rfl) rfl rfl rfl (IsTidy_ok _ _ _ xs34 _ _ _ (answersFor xs34 r34).1 _ (F34.sl) (by assumption) (G40_0.sl) (ow_nil G40_0)) ?_
                              rintro _ w15 ⟨rfl, e15⟩
                              have z15 := e15.size
                              have E := E.trans e15
                              replace F34 := F34.ext e15
                              replace G40_0 := G40_0.ext e15
                              replace G46_0 := G46_0.ext e15
                              replace G51_0 := G51_0.ext e15
                              replace G56_0 := G56_0.ext e15
                              replace G71_0 := G71_0.ext e15
                              replace G76_0 := G76_0.ext e15
                              refine ov (xmove rfl) rfl rfl rfl ?_
                              refine ov (xextract rfl rfl) rfl rfl rfl ?_
                              refine obs (fun c146 => ?_) (fun c146 => ?_)
                              ·
                                refine ov (xextract rfl rfl) rfl rfl rfl ?_
                                refine ov (xassign rfl) rfl rfl rfl ?_
                                refine ov (xassign rfl) rfl rfl rfl ?_
                                refine ops_nil ?_
                                refine run_seq ?_
                                refine run_region ?_
                                refine ov (xmove rfl) rfl rfl rfl ?_
                                refine ov (xmove rfl) rfl rfl rfl ?_
                                refine oc (xcall Try.call34 rfl) rfl rfl rfl (VerdictOf_ok _ _ _ xs34 _ _ _ (answersFor xs34 r34).1 _ (F34.sl) (by assumption) (G40_0.sl)) ?_
                                rintro _ w16 ⟨rfl, e16⟩
                                have z16 := e16.size
                                have E := E.trans e16
                                replace F34 := F34.ext e16
                                replace G40_0 := G40_0.ext e16
                                replace G46_0 := G46_0.ext e16
                                replace G51_0 := G51_0.ext e16
                                replace G56_0 := G56_0.ext e16
                                replace G71_0 := G71_0.ext e16
                                replace G76_0 := G76_0.ext e16
                                refine ov (xmove rfl) rfl rfl rfl ?_
                                refine ov (xextract rfl rfl) rfl rfl rfl ?_
                                refine ov (xextract rfl rfl) rfl rfl rfl ?_
                                refine ov (xassign rfl) rfl rfl rfl ?_
                                refine ov (xassign rfl) rfl rfl rfl ?_
                                refine ops_nil ?_
                                refine run_seq ?_
                                refine run_region ?_
                                refine ov (xmove rfl) rfl rfl rfl ?_
                                refine ov (xmove rfl) rfl rfl rfl ?_
                                refine oc (xcall Try.call42 rfl) rfl rfl rfl (WayOf_ok _ _ _ xs34 _ _ _ (answersFor xs34 r34).1 _ (F34.sl) (by assumption) (G40_0.sl)) ?_
                                rintro _ w17 ⟨e17, q157_0, m157_0, d157_0, rfl, G157_0⟩
                                have z17 := e17.size
                                have E := E.trans e17
                                replace F34 := F34.ext e17
                                replace G40_0 := G40_0.ext e17
                                replace G46_0 := G46_0.ext e17
                                replace G51_0 := G51_0.ext e17
                                replace G56_0 := G56_0.ext e17
                                replace G71_0 := G71_0.ext e17
                                replace G76_0 := G76_0.ext e17
                                have lG157_0 := G157_0.len
                                have hwl157 := wayOf_len xs34 (answersFor xs34 r34).1
                                refine ov (xmove rfl) rfl rfl rfl ?_
                                refine ov (xextract rfl rfl) rfl rfl rfl ?_
                                refine ov (xextract rfl rfl) rfl rfl rfl ?_
                                refine ov (xassign rfl) rfl rfl rfl ?_
                                refine ov (xassign rfl) rfl rfl rfl ?_
                                refine ops_nil ?_
                                refine run_seq ?_
                                refine run_region ?_
                                refine ov (xmove rfl) rfl rfl rfl ?_
                                refine ov (xmove rfl) rfl rfl rfl ?_
                                refine oc (xcall Try.call41 rfl) rfl rfl rfl (sWayOf_ok _ _ _ xs34 _ _ _ (answersFor xs34 r34).1 _ (F34.sl) (by assumption) (G40_0.sl)) ?_
                                rintro _ w18 ⟨e18, q163_0, m163_0, d163_0, rfl, G163_0⟩
                                have z18 := e18.size
                                have E := E.trans e18
                                replace F34 := F34.ext e18
                                replace G40_0 := G40_0.ext e18
                                replace G46_0 := G46_0.ext e18
                                replace G51_0 := G51_0.ext e18
                                replace G56_0 := G56_0.ext e18
                                replace G71_0 := G71_0.ext e18
                                replace G76_0 := G76_0.ext e18
                                replace G157_0 := G157_0.ext e18
                                have lG163_0 := G163_0.len
                                have hwl163 := wayOf_len xs34 (answersFor xs34 r34).1
                                refine ov (xmove rfl) rfl rfl rfl ?_
                                refine ov (xextract rfl rfl) rfl rfl rfl ?_
                                refine ov (xextract rfl rfl) rfl rfl rfl ?_
                                refine ov (xassign rfl) rfl rfl rfl ?_
                                refine ov (xassign rfl) rfl rfl rfl ?_
                                refine ops_nil ?_
                                refine run_seq ?_
                                refine run_seq ?_
                                refine run_region ?_
                                refine ov (xmove rfl) rfl rfl rfl ?_
                                refine ov (xmove rfl) rfl rfl rfl ?_
                                refine ov (xneq rfl rfl _ rfl) rfl rfl rfl ?_
                                refine ods (fun c168 => ?_) (fun c168 => ?_)
                                · exfalso; exact absurd rfl c168
                                ·
                                  refine ov (xmove rfl) rfl rfl rfl ?_
                                  refine ov (xmove rfl) rfl rfl rfl ?_
                                  refine ov (xmove rfl) rfl rfl rfl ?_
                                  refine oc (xcall Try.call69 rfl) rfl rfl rfl (likeInts_ok _ _ _ _ _ _ _ _ (G157_0.sl) (G163_0.sl)) ?_
                                  rintro _ w19 ⟨rfl, e19⟩
                                  have z19 := e19.size
                                  have E := E.trans e19
                                  replace F34 := F34.ext e19
                                  replace G40_0 := G40_0.ext e19
                                  replace G46_0 := G46_0.ext e19
                                  replace G51_0 := G51_0.ext e19
                                  replace G56_0 := G56_0.ext e19
                                  replace G71_0 := G71_0.ext e19
                                  replace G76_0 := G76_0.ext e19
                                  replace G157_0 := G157_0.ext e19
                                  replace G163_0 := G163_0.ext e19
                                  refine obs (fun c172 => ?_) (fun c172 => ?_)
                                  ·
                                    refine ov (xnot rfl) rfl rfl rfl ?_
                                    refine ov (xpick_f rfl rfl) rfl rfl rfl ?_
                                    refine ops_nil ?_
                                    refine run_cond_f rfl ?_
                                    refine run_skip ?_
                                    refine run_seq ?_
                                    refine run_seq ?_
                                    refine run_region ?_
                                    refine ov (xassign rfl) rfl rfl rfl ?_
                                    refine ops_nil ?_
                                    refine run_block ?_
                                    refine run_loop (ι := Nat × World) (fun x_ => match x_ with | (k, wr) => (Ext w wr) ∧ (Ow i64c 1 2 wr w8.heap.size w9.heap.size q71_0 m71_0 d71_0 (unusedQ xs34).1) ∧ (Ow i64c 1 2 wr w16.heap.size w17.heap.size q157_0 m157_0 d157_0 (wayOf xs34 (answersFor xs34 r34).1).1) ∧ (w19.heap.size ≤ wr.heap.size) ∧ (k ≤ m157_0)) (fun x_ => match x_ with | (k, wr) => [(4, .int .i64 r34), (17, .slice q71_0 m71_0 d71_0), (21, .bool true), (22, .int .i64 (isTidy xs34 (answersFor xs34 r34).1).2), (23, .int .i64 (verdictOf xs34 (answersFor xs34 r34).1).1), (24, .int .i64 (verdictOf xs34 (answersFor xs34 r34).1).2), (25, .slice q157_0 m157_0 d157_0), (26, .int .i64 (wayOf xs34 (answersFor xs34 r34).1).2), (29, .int .i64 (k : Int))]) (fun x_ => match x_ with | (k, wr) => wr) (fun x_ => match x_ with | (k, wr) => m157_0 - k) ?_ (0, w19) (⟨E, G71_0, G157_0, Nat.le_refl _, by omega⟩) ⟨rfl, rfl, rfl, rfl, rfl, rfl, rfl, rfl, rfl, trivial⟩ rfl
                                    intro i_ hI_ hback25
                                    obtain ⟨k, wr⟩ := i_
                                    obtain ⟨E, G71_0, G157_0, lz_wr, hk⟩ := hI_
                                    try dsimp only
                                    have zr := E.size
                                    refine run_seq ?_
                                    refine run_seq ?_
                                    refine run_region ?_
                                    refine ov (xmove rfl) rfl rfl rfl ?_
                                    refine ov (xmove rfl) rfl rfl rfl ?_
                                    refine ov (xlen Try.underlying31 rfl) rfl rfl rfl ?_
                                    refine ov (xlss rfl rfl _ rfl) rfl rfl rfl ?_
                                    refine ods (fun c178 => ?_) (fun c178 => ?_)
                                    ·
                                      refine ops_nil ?_
                                      refine run_cond_t rfl ?_
                                      refine run_skip ?_
                                      refine run_seq ?_
                                      refine run_block ?_
                                      refine run_seq ?_
                                      refine run_region ?_
                                      refine ov (xmove rfl) rfl rfl rfl ?_
                                      refine ov (xmove rfl) rfl rfl rfl ?_
                                      refine ov (xmove rfl) rfl rfl rfl ?_
                                      have h184 := (G157_0.sl).at (i := k) (by omega)
                                      refine ov (xindexN (i := k) Try.underlying31 Try.sizeOf2 rfl rfl rfl ((G157_0.sl).p (i := k) (by omega)) (by have := (G157_0.sl).len; omega)) rfl rfl rfl ?_
                                      refine ov (v := .int .i64 (wayOf xs34 (answersFor xs34 r34).1).1[k]) (xloadz Try.isAgg2 rfl (h184) rfl) rfl rfl rfl ?_
                                      refine oc (xcall Try.call84 rfl) rfl rfl rfl (hasInt_ok _ _ _ _ ((wayOf xs34 (answersFor xs34 r34).1).1[k]) _ (G71_0.sl)) ?_
                                      rintro _ w20 ⟨rfl, e20⟩
                                      have z20 := e20.size
                                      have E := E.trans e20
                                      replace G71_0 := G71_0.ext e20
                                      replace G157_0 := G157_0.ext e20
                                      refine obs (fun c186 => ?_) (fun c186 => ?_)
                                      · exfalso; rw [unused_not (k5 _ (List.getElem_mem _))] at c186; cases c186
                                      ·
                                        refine ops_nil ?_
                                        refine run_cond_f rfl ?_
                                        refine run_skip ?_
                                        refine run_inBlock ?_
                                        refine run_region ?_
                                        refine ov (xmove rfl) rfl rfl rfl ?_
                                        refine ov (xadd rfl rfl (by unfold I64; omega)) rfl rfl rfl ?_
                                        refine ov (xassign rfl) rfl rfl rfl ?_
                                        refine ops_nil ?_
                                        refine run_sub ?_ (hback25 (k + 1, w20) (⟨E, G71_0, G157_0, by omega, by omega⟩) (by first | omega | (dsimp only; omega)))
                                        exact ⟨rfl, rfl, rfl, rfl, rfl, rfl, rfl, rfl, rfl, trivial⟩
                                    ·
                                      refine ops_nil ?_
                                      refine run_cond_f rfl ?_
                                      refine run_exit rfl ?_
                                      refine run_seq ?_
                                      refine run_region ?_
                                      refine ov (xmove rfl) rfl rfl rfl ?_
                                      refine ov (xeql rfl rfl _ rfl) rfl rfl rfl ?_
                                      refine ods (fun c188 => ?_) (fun c188 => ?_)
                                      ·
                                        refine ov (xmove rfl) rfl rfl rfl ?_
                                        refine ov (xmove rfl) rfl rfl rfl ?_
                                        refine ov (xpick_t rfl rfl) rfl rfl rfl ?_
                                        refine ov (xmove rfl) rfl rfl rfl ?_
                                        refine ov (xmove rfl) rfl rfl rfl ?_
                                        refine ov (xeql rfl rfl _ rfl) rfl rfl rfl ?_
                                        refine ods (fun c194 => ?_) (fun c194 => ?_)
                                        ·
                                          refine ov (xpick_t rfl rfl) rfl rfl rfl ?_
                                          refine ov (xmove rfl) rfl rfl rfl ?_
                                          refine ov (xmove rfl) rfl rfl rfl ?_
                                          refine ov (xmove rfl) rfl rfl rfl ?_
                                          refine ov (xeql rfl rfl _ rfl) rfl rfl rfl ?_
                                          refine ods (fun c199 => ?_) (fun c199 => ?_)
                                          ·
                                            refine ov (xpick_t rfl rfl) rfl rfl rfl ?_
                                            refine ov (xmove rfl) rfl rfl rfl ?_
                                            refine ov (xmove rfl) rfl rfl rfl ?_
                                            refine ov (xeql rfl rfl _ rfl) rfl rfl rfl ?_
                                            refine ov (xpick_t rfl rfl) rfl rfl rfl ?_
                                            refine ov (xassign rfl) rfl rfl rfl ?_
                                            refine ops_nil ?_
                                            refine run_ret Try.func24 (res1 rfl rfl) ?_
                                            first | exact ⟨_, rfl, rfl, E⟩ | exact ⟨_, rfl, by rw [decide_eq_true k4], E⟩
                                          · exfalso; exact c199 (by rw [k3])
                                        · exfalso; exact c194 (by rw [k3])
                                      · exfalso; exact c188 (by rw [k2])
                                  · exfalso; cases c172
                              · exfalso; rw [k2] at c146; cases c146
                        · exfalso; omega
                    ·
                      refine ov (xmove rfl) rfl rfl rfl ?_
                      refine og rfl rfl rfl ?_
                      refine og rfl rfl rfl ?_
                      refine og rfl rfl rfl ?_
                      refine og rfl rfl rfl ?_
                      refine og rfl rfl rfl ?_
                      refine og rfl rfl rfl ?_
                      refine ov (xpick_f rfl rfl) rfl rfl rfl ?_
                      refine ov (xmove rfl) rfl rfl rfl ?_
                      refine ov (xmove rfl) rfl rfl rfl ?_
                      refine ov (xeql rfl rfl _ rfl) rfl rfl rfl ?_
                      refine ods (fun c132 => ?_) (fun c132 => ?_)
                      · exfalso; omega
                      ·
                        refine ov (xmove rfl) rfl rfl rfl ?_
                        refine og rfl rfl rfl ?_
                        refine og rfl rfl rfl ?_
                        refine og rfl rfl rfl ?_
                        refine og rfl rfl rfl ?_
                        refine ov (xpick_f rfl rfl) rfl rfl rfl ?_
                        refine ov (xpick_f rfl rfl) rfl rfl rfl ?_
                        refine ops_nil ?_
                        refine run_cond_f rfl ?_
                        refine run_skip ?_
                        refine run_seq ?_
                        refine run_seq ?_
                        refine run_region ?_
                        refine ov (xmove rfl) rfl rfl rfl ?_
                        refine ov (xneq rfl rfl _ rfl) rfl rfl rfl ?_
                        refine ods (fun c141 => ?_) (fun c141 => ?_)
                        ·
                          refine ops_nil ?_
                          refine run_cond_t rfl ?_
                          refine run_seq ?_
                          refine run_region ?_
                          refine ov (xassign rfl) rfl rfl rfl ?_
                          refine ops_nil ?_
                          refine run_ret Try.func24 (res1 rfl rfl) ?_
                          first | exact ⟨_, rfl, rfl, E⟩ | exact ⟨_, rfl, by rw [decide_eq_true k4], E⟩
                        ·
                          obtain ⟨hff2, k2, k3, k4, k5⟩ := answers_for (by omega : (answersFor xs34 r34).2 = 0)
                          refine ops_nil ?_
                          refine run_cond_f rfl ?_
                          refine run_skip ?_
                          refine run_seq ?_
                          refine run_region ?_
                          refine ov (xmove rfl) rfl rfl rfl ?_
                          refine ov (xmove rfl) rfl rfl rfl ?_
                          refine oc (xcall Try.call49 rfl) rfl rfl rfl (IsTidy_ok _ _ _ xs34 _ _ _ (answersFor xs34 r34).1 _ (F34.sl) (by assumption) (G40_0.sl) (ow_nil G40_0)) ?_
                          rintro _ w14 ⟨rfl, e14⟩
                          have z14 := e14.size
                          have E := E.trans e14
                          replace F34 := F34.ext e14
                          replace G40_0 := G40_0.ext e14
                          replace G46_0 := G46_0.ext e14
                          replace G51_0 := G51_0.ext e14
                          replace G56_0 := G56_0.ext e14
                          replace G71_0 := G71_0.ext e14
                          replace G76_0 := G76_0.ext e14
                          refine ov (xmove rfl) rfl rfl rfl ?_
                          refine ov (xextract rfl rfl) rfl rfl rfl ?_
                          refine obs (fun c146 => ?_) (fun c146 => ?_)
                          ·
                            refine ov (xextract rfl rfl) rfl rfl rfl ?_
                            refine ov (xassign rfl) rfl rfl rfl ?_
                            refine ov (xassign rfl) rfl rfl rfl ?_
                            refine ops_nil ?_
                            refine run_seq ?_
                            refine run_region ?_
                            refine ov (xmove rfl) rfl rfl rfl ?_
                            refine ov (xmove rfl) rfl rfl rfl ?_
                            refine oc (xcall Try.call34 rfl) rfl rfl rfl (VerdictOf_ok _ _ _ xs34 _ _ _ (answersFor xs34 r34).1 _ (F34.sl) (by assumption) (G40_0.sl)) ?_
                            rintro _ w15 ⟨rfl, e15⟩
                            have z15 := e15.size
                            have E := E.trans e15
                            replace F34 := F34.ext e15
                            replace G40_0 := G40_0.ext e15
                            replace G46_0 := G46_0.ext e15
                            replace G51_0 := G51_0.ext e15
                            replace G56_0 := G56_0.ext e15
                            replace G71_0 := G71_0.ext e15
                            replace G76_0 := G76_0.ext e15
                            refine ov (xmove rfl) rfl rfl rfl ?_
                            refine ov (xextract rfl rfl) rfl rfl rfl ?_
                            refine ov (xextract rfl rfl) rfl rfl rfl ?_
                            refine ov (xassign rfl) rfl rfl rfl ?_
                            refine ov (xassign rfl) rfl rfl rfl ?_
                            refine ops_nil ?_
                            refine run_seq ?_
                            refine run_region ?_
                            refine ov (xmove rfl) rfl rfl rfl ?_
                            refine ov (xmove rfl) rfl rfl rfl ?_
                            refine oc (xcall Try.call42 rfl) rfl rfl rfl (WayOf_ok _ _ _ xs34 _ _ _ (answersFor xs34 r34).1 _ (F34.sl) (by assumption) (G40_0.sl)) ?_
                            rintro _ w16 ⟨e16, q157_0, m157_0, d157_0, rfl, G157_0⟩
                            have z16 := e16.size
                            have E := E.trans e16
                            replace F34 := F34.ext e16
                            replace G40_0 := G40_0.ext e16
                            replace G46_0 := G46_0.ext e16
                            replace G51_0 := G51_0.ext e16
                            replace G56_0 := G56_0.ext e16
                            replace G71_0 := G71_0.ext e16
                            replace G76_0 := G76_0.ext e16
                            have lG157_0 := G157_0.len
                            have hwl157 := wayOf_len xs34 (answersFor xs34 r34).1
                            refine ov (xmove rfl) rfl rfl rfl ?_
                            refine ov (xextract rfl rfl) rfl rfl rfl ?_
                            refine ov (xextract rfl rfl) rfl rfl rfl ?_
                            refine ov (xassign rfl) rfl rfl rfl ?_
                            refine ov (xassign rfl) rfl rfl rfl ?_
                            refine ops_nil ?_
                            refine run_seq ?_
                            refine run_region ?_
                            refine ov (xmove rfl) rfl rfl rfl ?_
                            refine ov (xmove rfl) rfl rfl rfl ?_
                            refine oc (xcall Try.call41 rfl) rfl rfl rfl (sWayOf_ok _ _ _ xs34 _ _ _ (answersFor xs34 r34).1 _ (F34.sl) (by assumption) (G40_0.sl)) ?_
                            rintro _ w17 ⟨e17, q163_0, m163_0, d163_0, rfl, G163_0⟩
                            have z17 := e17.size
                            have E := E.trans e17
                            replace F34 := F34.ext e17
                            replace G40_0 := G40_0.ext e17
                            replace G46_0 := G46_0.ext e17
                            replace G51_0 := G51_0.ext e17
                            replace G56_0 := G56_0.ext e17
                            replace G71_0 := G71_0.ext e17
                            replace G76_0 := G76_0.ext e17
                            replace G157_0 := G157_0.ext e17
                            have lG163_0 := G163_0.len
                            have hwl163 := wayOf_len xs34 (answersFor xs34 r34).1
                            refine ov (xmove rfl) rfl rfl rfl ?_
                            refine ov (xextract rfl rfl) rfl rfl rfl ?_
                            refine ov (xextract rfl rfl) rfl rfl rfl ?_
                            refine ov (xassign rfl) rfl rfl rfl ?_
                            refine ov (xassign rfl) rfl rfl rfl ?_
                            refine ops_nil ?_
                            refine run_seq ?_
                            refine run_seq ?_
                            refine run_region ?_
                            refine ov (xmove rfl) rfl rfl rfl ?_
                            refine ov (xmove rfl) rfl rfl rfl ?_
                            refine ov (xneq rfl rfl _ rfl) rfl rfl rfl ?_
                            refine ods (fun c168 => ?_) (fun c168 => ?_)
                            · exfalso; exact absurd rfl c168
                            ·
                              refine ov (xmove rfl) rfl rfl rfl ?_
                              refine ov (xmove rfl) rfl rfl rfl ?_
                              refine ov (xmove rfl) rfl rfl rfl ?_
                              refine oc (xcall Try.call69 rfl) rfl rfl rfl (likeInts_ok _ _ _ _ _ _ _ _ (G157_0.sl) (G163_0.sl)) ?_
                              rintro _ w18 ⟨rfl, e18⟩
                              have z18 := e18.size
                              have E := E.trans e18
                              replace F34 := F34.ext e18
                              replace G40_0 := G40_0.ext e18
                              replace G46_0 := G46_0.ext e18
                              replace G51_0 := G51_0.ext e18
                              replace G56_0 := G56_0.ext e18
                              replace G71_0 := G71_0.ext e18
                              replace G76_0 := G76_0.ext e18
                              replace G157_0 := G157_0.ext e18
                              replace G163_0 := G163_0.ext e18
                              refine obs (fun c172 => ?_) (fun c172 => ?_)
                              ·
                                refine ov (xnot rfl) rfl rfl rfl ?_
                                refine ov (xpick_f rfl rfl) rfl rfl rfl ?_
                                refine ops_nil ?_
                                refine run_cond_f rfl ?_
                                refine run_skip ?_
                                refine run_seq ?_
                                refine run_seq ?_
                                refine run_region ?_
                                refine ov (xassign rfl) rfl rfl rfl ?_
                                refine ops_nil ?_
                                refine run_block ?_
                                refine run_loop (ι := Nat × World) (fun x_ => match x_ with | (k, wr) => (Ext w wr) ∧ (Ow i64c 1 2 wr w8.heap.size w9.heap.size q71_0 m71_0 d71_0 (unusedQ xs34).1) ∧ (Ow i64c 1 2 wr w15.heap.size w16.heap.size q157_0 m157_0 d157_0 (wayOf xs34 (answersFor xs34 r34).1).1) ∧ (w18.heap.size ≤ wr.heap.size) ∧ (k ≤ m157_0)) (fun x_ => match x_ with | (k, wr) => [(4, .int .i64 r34), (17, .slice q71_0 m71_0 d71_0), (21, .bool true), (22, .int .i64 (isTidy xs34 (answersFor xs34 r34).1).2), (23, .int .i64 (verdictOf xs34 (answersFor xs34 r34).1).1), (24, .int .i64 (verdictOf xs34 (answersFor xs34 r34).1).2), (25, .slice q157_0 m157_0 d157_0), (26, .int .i64 (wayOf xs34 (answersFor xs34 r34).1).2), (29, .int .i64 (k : Int))]) (fun x_ => match x_ with | (k, wr) => wr) (fun x_ => match x_ with | (k, wr) => m157_0 - k) ?_ (0, w18) (⟨E, G71_0, G157_0, Nat.le_refl _, by omega⟩) ⟨rfl, rfl, rfl, rfl, rfl, rfl, rfl, rfl, rfl, trivial⟩ rfl
                                intro i_ hI_ hback25
                                obtain ⟨k, wr⟩ := i_
                                obtain ⟨E, G71_0, G157_0, lz_wr, hk⟩ := hI_
                                try dsimp only
                                have zr := E.size
                                refine run_seq ?_
                                refine run_seq ?_
                                refine run_region ?_
                                refine ov (xmove rfl) rfl rfl rfl ?_
                                refine ov (xmove rfl) rfl rfl rfl ?_
                                refine ov (xlen Try.underlying31 rfl) rfl rfl rfl ?_
                                refine ov (xlss rfl rfl _ rfl) rfl rfl rfl ?_
                                refine ods (fun c178 => ?_) (fun c178 => ?_)
                                ·
                                  refine ops_nil ?_
                                  refine run_cond_t rfl ?_
                                  refine run_skip ?_
                                  refine run_seq ?_
                                  refine run_block ?_
                                  refine run_seq ?_
                                  refine run_region ?_
                                  refine ov (xmove rfl) rfl rfl rfl ?_
                                  refine ov (xmove rfl) rfl rfl rfl ?_
                                  refine ov (xmove rfl) rfl rfl rfl ?_
                                  have h184 := (G157_0.sl).at (i := k) (by omega)
                                  refine ov (xindexN (i := k) Try.underlying31 Try.sizeOf2 rfl rfl rfl ((G157_0.sl).p (i := k) (by omega)) (by have := (G157_0.sl).len; omega)) rfl rfl rfl ?_
                                  refine ov (v := .int .i64 (wayOf xs34 (answersFor xs34 r34).1).1[k]) (xloadz Try.isAgg2 rfl (h184) rfl) rfl rfl rfl ?_
                                  refine oc (xcall Try.call84 rfl) rfl rfl rfl (hasInt_ok _ _ _ _ ((wayOf xs34 (answersFor xs34 r34).1).1[k]) _ (G71_0.sl)) ?_
                                  rintro _ w19 ⟨rfl, e19⟩
                                  have z19 := e19.size
                                  have E := E.trans e19
                                  replace G71_0 := G71_0.ext e19
                                  replace G157_0 := G157_0.ext e19
                                  refine obs (fun c186 => ?_) (fun c186 => ?_)
                                  · exfalso; rw [unused_not (k5 _ (List.getElem_mem _))] at c186; cases c186
                                  ·
                                    refine ops_nil ?_
                                    refine run_cond_f rfl ?_
                                    refine run_skip ?_
                                    refine run_inBlock ?_
                                    refine run_region ?_
                                    refine ov (xmove rfl) rfl rfl rfl ?_
                                    refine ov (xadd rfl rfl (by unfold I64; omega)) rfl rfl rfl ?_
                                    refine ov (xassign rfl) rfl rfl rfl ?_
                                    refine ops_nil ?_
                                    refine run_sub ?_ (hback25 (k + 1, w19) (⟨E, G71_0, G157_0, by omega, by omega⟩) (by first | omega | (dsimp only; omega)))
                                    exact ⟨rfl, rfl, rfl, rfl, rfl, rfl, rfl, rfl, rfl, trivial⟩
                                ·
                                  refine ops_nil ?_
                                  refine run_cond_f rfl ?_
                                  refine run_exit rfl ?_
                                  refine run_seq ?_
                                  refine run_region ?_
                                  refine ov (xmove rfl) rfl rfl rfl ?_
                                  refine ov (xeql rfl rfl _ rfl) rfl rfl rfl ?_
                                  refine ods (fun c188 => ?_) (fun c188 => ?_)
                                  ·
                                    refine ov (xmove rfl) rfl rfl rfl ?_
                                    refine ov (xmove rfl) rfl rfl rfl ?_
                                    refine ov (xpick_t rfl rfl) rfl rfl rfl ?_
                                    refine ov (xmove rfl) rfl rfl rfl ?_
                                    refine ov (xmove rfl) rfl rfl rfl ?_
                                    refine ov (xeql rfl rfl _ rfl) rfl rfl rfl ?_
                                    refine ods (fun c194 => ?_) (fun c194 => ?_)
                                    ·
                                      refine ov (xpick_t rfl rfl) rfl rfl rfl ?_
                                      refine ov (xmove rfl) rfl rfl rfl ?_
                                      refine ov (xmove rfl) rfl rfl rfl ?_
                                      refine ov (xmove rfl) rfl rfl rfl ?_
                                      refine ov (xeql rfl rfl _ rfl) rfl rfl rfl ?_
                                      refine ods (fun c199 => ?_) (fun c199 => ?_)
                                      ·
                                        refine ov (xpick_t rfl rfl) rfl rfl rfl ?_
                                        refine ov (xmove rfl) rfl rfl rfl ?_
                                        refine ov (xmove rfl) rfl rfl rfl ?_
                                        refine ov (xeql rfl rfl _ rfl) rfl rfl rfl ?_
                                        refine ov (xpick_t rfl rfl) rfl rfl rfl ?_
                                        refine ov (xassign rfl) rfl rfl rfl ?_
                                        refine ops_nil ?_
                                        refine run_ret Try.func24 (res1 rfl rfl) ?_
                                        first | exact ⟨_, rfl, rfl, E⟩ | exact ⟨_, rfl, by rw [decide_eq_true k4], E⟩
                                      · exfalso; exact c199 (by rw [k3])
                                    · exfalso; exact c194 (by rw [k3])
                                  · exfalso; exact c188 (by rw [k2])
                              · exfalso; cases c172
                          · exfalso; rw [k2] at c146; cases c146
                  · exfalso; cases c117
          · exfalso; cases c96
      · exfalso; cases c85
end Go.Proofs.Ytinpkihmkfiidaa
