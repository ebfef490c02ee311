/-
  The law on tallies: the walk. No condition beyond those written in each theorem.
-/
import Derived.Test.YtinpkihmkfiidaaTurnF
import Derived.Test.YtinpkihmkfiidaaPollDraw2
import Derived.Test.YtinpkihmkfiidaaFormLaw
namespace Go.Proofs.Ytinpkihmkfiidaa
open Go.RowKit
set_option linter.unusedVariables false
set_option linter.unusedSimpArgs false
set_option linter.unusedSectionVars false
set_option maxRecDepth 4000

theorem TurnVoteE_ok (p : Option Addr) (n c : Nat) (xs : List Question) (nd : Int) (vs : List (List Int)) (p3 : Option Addr) (n3 c3 : Nat) (w : World) (H : Sl Question.cells 3 w p n c xs) (hx : ∀ x ∈ xs, x.Label.size ≤ 9223372036854775807) (Hv0 : SnInt64SS w p3 n3 c3 vs) (j q : Int) (T : (Int × List (List Int)) × Int) (e : turnVote xs nd vs j q = T) :
    Ret Try.prog 64 [.slice p n c, .agg #[.int .i64 nd, .slice p3 n3 c3], .int .i64 j, .int .i64 q] w (fun v w' => Ext w w' ∧ ∃ p n c, v = .tuple #[.agg #[.int .i64 T.1.1, .slice p n c], .int .i64 T.2] ∧ OnInt64SS w' w.heap.size w'.heap.size p n c T.1.2) := by
  subst e
  exact TurnVote_ok p n c xs nd vs p3 n3 c3 w H hx Hv0 j q

theorem sTurnVoteE_ok (p : Option Addr) (n c : Nat) (xs : List Question) (nd : Int) (vs : List (List Int)) (p3 : Option Addr) (n3 c3 : Nat) (w : World) (H : Sl Question.cells 3 w p n c xs) (hx : ∀ x ∈ xs, x.Label.size ≤ 9223372036854775807) (Hv0 : SnInt64SS w p3 n3 c3 vs) (j q : Int) (T : (Int × List (List Int)) × Int) (e : turnVote xs nd vs j q = T) :
    Ret Try.prog 63 [.slice p n c, .agg #[.int .i64 nd, .slice p3 n3 c3], .int .i64 j, .int .i64 q] w (fun v w' => Ext w w' ∧ ∃ p n c, v = .tuple #[.agg #[.int .i64 T.1.1, .slice p n c], .int .i64 T.2] ∧ OnInt64SS w' w.heap.size w'.heap.size p n c T.1.2) := by
  subst e
  exact sTurnVote_ok p n c xs nd vs p3 n3 c3 w H hx Hv0 j q

theorem tally_nn (xs : List Question) (nd : Int) (vs : List (List Int)) (q : Int) : 0 ≤ (tallyOf xs nd vs q).1 ∧ 0 ≤ (tallyOf xs nd vs q).2.1 ∧ 0 ≤ (tallyOf xs nd vs q).2.2.1 := by
  have h := fun q a => (cntV_le vs q a).1
  unfold tallyOf
  split
  · simp
  · split
    · simp
    · exact ⟨h _ _, h _ _, h _ _⟩

set_option maxHeartbeats 400000 in
theorem likeTables_ok (p q : Option Addr) (n c m d : Nat) (vs : List (List Int)) (w : World) (H0 : SnInt64SS w p n c vs) (K0 : SnInt64SS w q m d vs) : Ret Try.prog 128 [.slice p n c, .slice q m d] w (Pv w (.bool true)) := by
  refine ret_of_run (N := 27) Try.func128 rfl rfl rfl ?_
  obtain ⟨hd, H⟩ := H0
  obtain ⟨he, K⟩ := K0
  have hn := H.len
  have hm := K.len
  have hn6 := H.n64
  have E : Ext w w := Ext.refl w
  refine run_seq ?_
  refine run_region ?_
  refine ov (xassign rfl) rfl rfl rfl ?_
  refine ops_nil ?_
  refine run_seq ?_
  refine run_seq ?_
  refine run_region ?_
  refine ov (xmove rfl) rfl rfl rfl ?_
  refine ov (xlen Try.underlying36 rfl) rfl rfl rfl ?_
  refine ov (xmove rfl) rfl rfl rfl ?_
  refine ov (xlen Try.underlying36 rfl) rfl rfl rfl ?_
  refine ov (xneq rfl rfl _ rfl) rfl rfl rfl ?_
  refine ods (fun c10 => ?_) (fun c10 => ?_)
  · exfalso; omega
  ·
    refine ops_nil ?_
    refine run_cond_f rfl ?_
    refine run_skip ?_
    refine run_seq ?_
    refine run_seq ?_
    refine run_region ?_
    refine ov (xassign rfl) rfl rfl rfl ?_
    refine ops_nil ?_
    refine run_block ?_
    refine run_loop (ι := Nat × World) (fun x_ => match x_ with | (k, wr) => (Ext w wr) ∧ (w.heap.size ≤ wr.heap.size) ∧ (k ≤ n)) (fun x_ => match x_ with | (k, wr) => [(0, .slice p n c), (1, .slice q m d), (5, .int .i64 (k : Int))]) (fun x_ => match x_ with | (k, wr) => wr) (fun x_ => match x_ with | (k, wr) => n - k) ?_ (0, w) (⟨E, Nat.le_refl _, by omega⟩) ⟨rfl, rfl, rfl, trivial⟩ rfl
    intro i_ hI_ hback4
    obtain ⟨k, wr⟩ := i_
    obtain ⟨E, lz_wr, hk⟩ := hI_
    try dsimp only
    have zr := E.size
    refine run_seq ?_
    refine run_seq ?_
    refine run_region ?_
    refine ov (xmove rfl) rfl rfl rfl ?_
    refine ov (xmove rfl) rfl rfl rfl ?_
    refine ov (xlen Try.underlying36 rfl) rfl rfl rfl ?_
    refine ov (xlss rfl rfl _ rfl) rfl rfl rfl ?_
    refine ods (fun c14 => ?_) (fun c14 => ?_)
    ·
      refine ops_nil ?_
      refine run_cond_t rfl ?_
      refine run_skip ?_
      refine run_seq ?_
      refine run_block ?_
      refine run_seq ?_
      refine run_draw (by kernel_rfl) (by kernel_rfl) ?_
      refine qv (fun w' x_ => xmove rfl) rfl rfl rfl ?_
      refine qv (fun w' x_ => xmove rfl) rfl rfl rfl ?_
      have h19 := (H.ext E).at (i := k) (by omega)
      refine qv (fun w' x_ => xindexN (i := k) Try.underlying36 Try.sizeOf31 rfl rfl rfl ((H.ext E).p (i := k) (by omega)) (by have := (H.ext E).len; omega)) rfl rfl rfl ?_
      refine qv (v := .slice (hd k).p (hd k).n (hd k).c) (fun w' x_ => xloadz Try.isAgg31 rfl ((h19).ext x_) rfl) rfl rfl rfl ?_
      refine qv (fun w' x_ => xmove rfl) rfl rfl rfl ?_
      refine qv (fun w' x_ => xmove rfl) rfl rfl rfl ?_
      have h23 := (K.ext E).at (i := k) (by omega)
      refine qv (fun w' x_ => xindexN (i := k) Try.underlying36 Try.sizeOf31 rfl rfl rfl ((K.ext E).p (i := k) (by omega)) (by have := (K.ext E).len; omega)) rfl rfl rfl ?_
      refine qv (v := .slice (he k).p (he k).n (he k).c) (fun w' x_ => xloadz Try.isAgg31 rfl ((h23).ext x_) rfl) rfl rfl rfl ?_
      have t25 := fun (w' : World) (x_ : Ext wr w') => Ret.q (w := w') (likeInts_ok _ _ _ _ _ _ _ _ (((show Sl i64c 1 _ _ _ _ vs[k] from (H.inner (i := k) (by omega)).ext E)).ext x_) (((show Sl i64c 1 _ _ _ _ vs[k] from (K.inner (i := k) (by omega)).ext E)).ext x_))
      refine qc (fun w' => xcall Try.call69 rfl) rfl rfl rfl t25 ?_
      clear t25
      refine qbs (fun c25 => ?_) (fun c25 => ?_)
      ·
        refine qv (fun w' x_ => xnot rfl) rfl rfl rfl ?_
        refine q_nil ?_
        intro w1 e1
        have z1 := e1.size
        have E := E.trans e1
        refine run_cond_f rfl ?_
        refine run_skip ?_
        refine run_inBlock ?_
        refine run_region ?_
        refine ov (xmove rfl) rfl rfl rfl ?_
        refine ov (xadd rfl rfl (by unfold I64; omega)) rfl rfl rfl ?_
        refine ov (xassign rfl) rfl rfl rfl ?_
        refine ops_nil ?_
        refine run_sub ?_ (hback4 (k + 1, w1) (⟨E, by omega, by omega⟩) (by first | omega | (dsimp only; omega)))
        exact ⟨rfl, rfl, rfl, trivial⟩
      · exfalso; cases c25
    ·
      refine ops_nil ?_
      refine run_cond_f rfl ?_
      refine run_exit rfl ?_
      refine run_seq ?_
      refine run_region ?_
      refine ov (xassign rfl) rfl rfl rfl ?_
      refine ops_nil ?_
      refine run_ret Try.func128 (res1 rfl rfl) ?_
      exact ⟨_, rfl, rfl, E⟩

set_option maxHeartbeats 400000 in
theorem likePoll_ok (nd : Int) (p3 : Option Addr) (n3 c3 : Nat) (p4 : Option Addr) (n4 c4 : Nat) (vs : List (List Int)) (w : World) (Hv3 : SnInt64SS w p3 n3 c3 vs) (Hv4 : SnInt64SS w p4 n4 c4 vs) : Ret Try.prog 75 [.agg #[.int .i64 nd, .slice p3 n3 c3], .agg #[.int .i64 nd, .slice p4 n4 c4]] w (Pv w (.bool true)) := by
  refine ret_of_run (N := 17) Try.func75 rfl rfl rfl ?_
  have E : Ext w w := Ext.refl w
  refine run_seq ?_
  refine run_region ?_
  refine obox rfl rfl rfl ?_
  intro b1 w1 e1 hb1 hz1 O1
  have E := E.trans e1
  replace O1 : Own w1 b1 [.int .i64 nd, .slice p3 n3 c3] 41 := O1
  refine obox rfl rfl rfl ?_
  intro b2 w2 e2 hb2 hz2 O2
  have E := E.trans e2
  replace O1 := O1.ext e2
  replace O2 : Own w2 b2 [.int .i64 nd, .slice p4 n4 c4] 41 := O2
  refine ov (xassign rfl) rfl rfl rfl ?_
  refine ops_nil ?_
  refine run_seq ?_
  refine run_region ?_
  refine ov (xfieldAddr fo41f0 rfl) rfl rfl rfl ?_
  refine ov (v := .int .i64 nd) (xload1 Try.isAgg2 rfl (O1.cells) rfl) rfl rfl rfl ?_
  refine ov (xfieldAddr fo41f0 rfl) rfl rfl rfl ?_
  refine ov (v := .int .i64 nd) (xload1 Try.isAgg2 rfl (O2.cells) rfl) rfl rfl rfl ?_
  refine ov (xeql rfl rfl _ rfl) rfl rfl rfl ?_
  refine ods (fun c9 => ?_) (fun c9 => ?_)
  ·
    refine ov (xmove rfl) rfl rfl rfl ?_
    refine ov (xfieldAddr fo41f1 rfl) rfl rfl rfl ?_
    refine ov (v := .slice p3 n3 c3) (xload1 Try.isAgg36 rfl (O1.cells) rfl) rfl rfl rfl ?_
    refine ov (xfieldAddr fo41f1 rfl) rfl rfl rfl ?_
    refine ov (v := .slice p4 n4 c4) (xload1 Try.isAgg36 rfl (O2.cells) rfl) rfl rfl rfl ?_
    refine oc (xcall Try.call128 rfl) rfl rfl rfl (likeTables_ok _ _ _ _ _ _ _ _ (Hv3.ext E).sn (Hv4.ext E).sn) ?_
    rintro _ w3 ⟨rfl, e3⟩
    have z3 := e3.size
    have E := E.trans e3
    replace O1 := O1.ext e3
    replace O2 := O2.ext e3
    refine ov (xpick_t rfl rfl) rfl rfl rfl ?_
    refine ov (xassign rfl) rfl rfl rfl ?_
    refine ops_nil ?_
    refine run_ret Try.func75 (res1 rfl rfl) ?_
    exact ⟨_, rfl, rfl, E⟩
  · exfalso; exact absurd rfl c9

set_option maxHeartbeats 8000000 in
theorem FnTallies_ok (p : Option Addr) (n c : Nat) (bs : List Int) (w : World) (H : Sl u8c 1 w p n c bs) (hbs : ∀ x ∈ bs, 0 ≤ x ∧ x ≤ 255) : Ret Try.prog 19 [.slice p n c] w (Pv w (.bool true)) := by
  refine ret_of_run (N := 170) Try.func19 rfl rfl rfl ?_
  have hn := H.len
  have E : Ext w w := Ext.refl w
  refine run_seq ?_
  refine run_region ?_
  refine ov (xassign rfl) rfl rfl rfl ?_
  refine ops_nil ?_
  refine run_seq ?_
  refine run_seq ?_
  refine run_region ?_
  refine ov (xmove rfl) rfl rfl rfl ?_
  refine oc (xcall Try.call66 rfl) rfl rfl rfl (big_ok _ _ _ _ _ (H.ext E)) ?_
  rintro _ w1 ⟨rfl, e1⟩
  have z1 := e1.size
  have E := E.trans e1
  refine obs (fun c32 => ?_) (fun c32 => ?_)
  ·
    refine ops_nil ?_
    refine run_cond_t rfl ?_
    refine run_seq ?_
    refine run_region ?_
    refine ov (xassign rfl) rfl rfl rfl ?_
    refine ops_nil ?_
    refine run_ret Try.func19 (res1 rfl rfl) ?_
    first | exact ⟨_, rfl, rfl, E⟩ | exact ⟨_, rfl, by rw [decide_eq_true (by omega)], E⟩
  ·
    refine ops_nil ?_
    refine run_cond_f rfl ?_
    refine run_skip ?_
    refine run_seq ?_
    refine run_region ?_
    refine ov (xmove rfl) rfl rfl rfl ?_
    refine oc (xcall Try.call72 rfl) rfl rfl rfl (DrawTallyOf_ok _ _ _ _ _ (H.ext E) (by assumption)) ?_
    rintro _ w2 ⟨e2, xs35, q35, m35, d35, vs35, nd35, p35, n35, k35, r35, rfl, ok35, hm35, F35, V35, hn35, hr35⟩
    have z2 := e2.size
    have E := E.trans e2
    have lF35 := F35.sl.len
    have lV35 := V35.len
    refine ov (xmove rfl) rfl rfl rfl ?_
    refine ov (xextract rfl rfl) rfl rfl rfl ?_
    refine ov (xextract rfl rfl) rfl rfl rfl ?_
    refine ov (xextract rfl rfl) rfl rfl rfl ?_
    refine oalloc Try.zeroValue41 rfl rfl ?_
    intro b3 w3 e3 hb3 hz3 O3
    have E := E.trans e3
    replace F35 := F35.ext e3
    replace V35 := V35.ext e3
    replace O3 : Own w3 b3 [.int .i64 0, .slice none 0 0] 41 := O3
    refine ov (xassign rfl) rfl rfl rfl ?_
    refine ostoreN (vs := _) Try.sizeOf41 rfl rfl O3 rfl (by simp) (by simp [Value.oneCell']) rfl ?_
    intro w4 on4 O4
    have hz4 := on4.size
    have E := on4.ext E (by omega)
    replace F35 := F35.only on4 (by omega)
    replace V35 := V35.only on4 (by omega)
    replace O4 : Own w4 b3 [.int .i64 nd35, .slice p35 n35 k35] 41 := O4
    refine ov (xassign rfl) rfl rfl rfl ?_
    refine ops_nil ?_
    refine run_seq ?_
    refine run_region ?_
    refine ov (xmove rfl) rfl rfl rfl ?_
    refine ov (v := .agg #[.int .i64 nd35, .slice p35 n35 k35]) (xloadN Try.isAgg41 Try.sizeOf41 rfl (O4.cells) rfl) rfl rfl rfl ?_
    refine ov (xmove rfl) rfl rfl rfl ?_
    refine oc (xcall Try.call51 rfl) rfl rfl rfl (TallyOf_ok _ _ _ xs35 nd35 vs35 _ _ _ _ (F35.sl) (by assumption) (V35.sl).sn r35) ?_
    rintro _ w5 ⟨rfl, e5⟩
    have z5 := e5.size
    have E := E.trans e5
    replace F35 := F35.ext e5
    replace V35 := V35.ext e5
    replace O4 := O4.ext e5
    refine ov (xmove rfl) rfl rfl rfl ?_
    refine ov (xextract rfl rfl) rfl rfl rfl ?_
    refine ov (xextract rfl rfl) rfl rfl rfl ?_
    refine ov (xextract rfl rfl) rfl rfl rfl ?_
    refine ov (xextract rfl rfl) rfl rfl rfl ?_
    refine ov (xassign rfl) rfl rfl rfl ?_
    refine ov (xassign rfl) rfl rfl rfl ?_
    refine ov (xassign rfl) rfl rfl rfl ?_
    refine ov (xassign rfl) rfl rfl rfl ?_
    refine ops_nil ?_
    refine run_seq ?_
    refine run_region ?_
    refine ov (xmove rfl) rfl rfl rfl ?_
    refine ov (v := .agg #[.int .i64 nd35, .slice p35 n35 k35]) (xloadN Try.isAgg41 Try.sizeOf41 rfl (O4.cells) rfl) rfl rfl rfl ?_
    refine ov (xmove rfl) rfl rfl rfl ?_
    refine oc (xcall Try.call50 rfl) rfl rfl rfl (sTallyOf_ok _ _ _ xs35 nd35 vs35 _ _ _ _ (F35.sl) (by assumption) (V35.sl).sn r35) ?_
    rintro _ w6 ⟨rfl, e6⟩
    have z6 := e6.size
    have E := E.trans e6
    replace F35 := F35.ext e6
    replace V35 := V35.ext e6
    replace O4 := O4.ext e6
    refine ov (xmove rfl) rfl rfl rfl ?_
    refine ov (xextract rfl rfl) rfl rfl rfl ?_
    refine ov (xextract rfl rfl) rfl rfl rfl ?_
    refine ov (xextract rfl rfl) rfl rfl rfl ?_
    refine ov (xextract rfl rfl) rfl rfl rfl ?_
    refine ov (xassign rfl) rfl rfl rfl ?_
    refine ov (xassign rfl) rfl rfl rfl ?_
    refine ov (xassign rfl) rfl rfl rfl ?_
    refine ov (xassign rfl) rfl rfl rfl ?_
    refine ops_nil ?_
    refine run_seq ?_
    refine run_region ?_
    refine ov (xmove rfl) rfl rfl rfl ?_
    refine oc (xcall Try.call73 rfl) rfl rfl rfl (DrawTurnVote_ok _ _ _ _ _ (H.ext E) (by assumption)) ?_
    rintro _ w7 ⟨e7, xs59, q59, m59, d59, vs59, nd59, p59, n59, k59, r59, s59, rfl, ok59, hm59, F59, V59, hn59, hr59, hs59⟩
    have z7 := e7.size
    have E := E.trans e7
    replace F35 := F35.ext e7
    replace V35 := V35.ext e7
    replace O4 := O4.ext e7
    have lF59 := F59.sl.len
    have lV59 := V59.len
    refine ov (xmove rfl) rfl rfl rfl ?_
    refine ov (xextract rfl rfl) rfl rfl rfl ?_
    refine ov (xextract rfl rfl) rfl rfl rfl ?_
    refine ov (xextract rfl rfl) rfl rfl rfl ?_
    refine ov (xextract rfl rfl) rfl rfl rfl ?_
    refine oalloc Try.zeroValue41 rfl rfl ?_
    intro b8 w8 e8 hb8 hz8 O8
    have E := E.trans e8
    replace F35 := F35.ext e8
    replace V35 := V35.ext e8
    replace F59 := F59.ext e8
    replace V59 := V59.ext e8
    replace O4 := O4.ext e8
    replace O8 : Own w8 b8 [.int .i64 0, .slice none 0 0] 41 := O8
    refine ov (xassign rfl) rfl rfl rfl ?_
    refine ostoreN (vs := _) Try.sizeOf41 rfl rfl O8 rfl (by simp) (by simp [Value.oneCell']) rfl ?_
    intro w9 on9 O9
    have hz9 := on9.size
    have E := on9.ext E (by omega)
    replace F35 := F35.only on9 (by omega)
    replace V35 := V35.only on9 (by omega)
    replace F59 := F59.only on9 (by omega)
    replace V59 := V59.only on9 (by omega)
    replace O4 := on9.own O4 (by omega)
    replace O9 : Own w9 b8 [.int .i64 nd59, .slice p59 n59 k59] 41 := O9
    refine ov (xassign rfl) rfl rfl rfl ?_
    refine ov (xassign rfl) rfl rfl rfl ?_
    refine ops_nil ?_
    refine run_seq ?_
    refine run_region ?_
    obtain ⟨T, hT⟩ : ∃ T, turnVote xs59 nd59 vs59 r59 s59 = T := ⟨_, rfl⟩
    refine ov (xmove rfl) rfl rfl rfl ?_
    refine ov (v := .agg #[.int .i64 nd59, .slice p59 n59 k59]) (xloadN Try.isAgg41 Try.sizeOf41 rfl (O9.cells) rfl) rfl rfl rfl ?_
    refine ov (xmove rfl) rfl rfl rfl ?_
    refine ov (xmove rfl) rfl rfl rfl ?_
    refine oc (xcall Try.call64 rfl) rfl rfl rfl (TurnVoteE_ok _ _ _ xs59 nd59 vs59 _ _ _ _ (F59.sl) (by assumption) (V59.sl).sn r59 s59 T hT) ?_
    rintro _ w10 ⟨e10, q69_0, m69_0, d69_0, rfl, G69_0⟩
    have z10 := e10.size
    have E := E.trans e10
    replace F35 := F35.ext e10
    replace V35 := V35.ext e10
    replace F59 := F59.ext e10
    replace V59 := V59.ext e10
    replace O4 := O4.ext e10
    replace O9 := O9.ext e10
    have lG69_0 := G69_0.len
    refine ov (xmove rfl) rfl rfl rfl ?_
    refine ov (xextract rfl rfl) rfl rfl rfl ?_
    refine ov (xextract rfl rfl) rfl rfl rfl ?_
    refine oalloc Try.zeroValue41 rfl rfl ?_
    intro b11 w11 e11 hb11 hz11 O11
    have E := E.trans e11
    replace F35 := F35.ext e11
    replace V35 := V35.ext e11
    replace F59 := F59.ext e11
    replace V59 := V59.ext e11
    replace G69_0 := G69_0.ext e11
    replace O4 := O4.ext e11
    replace O9 := O9.ext e11
    replace O11 : Own w11 b11 [.int .i64 0, .slice none 0 0] 41 := O11
    refine ostoreN (vs := _) Try.sizeOf41 rfl rfl O11 rfl (by simp) (by simp [Value.oneCell']) rfl ?_
    intro w12 on12 O12
    have hz12 := on12.size
    have E := on12.ext E (by omega)
    replace F35 := F35.only on12 (by omega)
    replace V35 := V35.only on12 (by omega)
    replace F59 := F59.only on12 (by omega)
    replace V59 := V59.only on12 (by omega)
    replace G69_0 := G69_0.only on12 (by omega)
    replace O4 := on12.own O4 (by omega)
    replace O9 := on12.own O9 (by omega)
    replace O12 : Own w12 b11 [.int .i64 T.1.1, .slice q69_0 m69_0 d69_0] 41 := O12
    refine ov (xassign rfl) rfl rfl rfl ?_
    refine ops_nil ?_
    refine run_seq ?_
    refine run_region ?_
    refine ov (xmove rfl) rfl rfl rfl ?_
    refine ov (v := .agg #[.int .i64 nd59, .slice p59 n59 k59]) (xloadN Try.isAgg41 Try.sizeOf41 rfl (O9.cells) rfl) rfl rfl rfl ?_
    refine ov (xmove rfl) rfl rfl rfl ?_
    refine ov (xmove rfl) rfl rfl rfl ?_
    refine oc (xcall Try.call63 rfl) rfl rfl rfl (sTurnVoteE_ok _ _ _ xs59 nd59 vs59 _ _ _ _ (F59.sl) (by assumption) (V59.sl).sn r59 s59 T hT) ?_
    rintro _ w13 ⟨e13, q77_0, m77_0, d77_0, rfl, G77_0⟩
    have z13 := e13.size
    have E := E.trans e13
    replace F35 := F35.ext e13
    replace V35 := V35.ext e13
    replace F59 := F59.ext e13
    replace V59 := V59.ext e13
    replace G69_0 := G69_0.ext e13
    replace O4 := O4.ext e13
    replace O9 := O9.ext e13
    replace O12 := O12.ext e13
    have lG77_0 := G77_0.len
    refine ov (xmove rfl) rfl rfl rfl ?_
    refine ov (xextract rfl rfl) rfl rfl rfl ?_
    refine ov (xextract rfl rfl) rfl rfl rfl ?_
    refine oalloc Try.zeroValue41 rfl rfl ?_
    intro b14 w14 e14 hb14 hz14 O14
    have E := E.trans e14
    replace F35 := F35.ext e14
    replace V35 := V35.ext e14
    replace F59 := F59.ext e14
    replace V59 := V59.ext e14
    replace G69_0 := G69_0.ext e14
    replace G77_0 := G77_0.ext e14
    replace O4 := O4.ext e14
    replace O9 := O9.ext e14
    replace O12 := O12.ext e14
    replace O14 : Own w14 b14 [.int .i64 0, .slice none 0 0] 41 := O14
    refine ostoreN (vs := _) Try.sizeOf41 rfl rfl O14 rfl (by simp) (by simp [Value.oneCell']) rfl ?_
    intro w15 on15 O15
    have hz15 := on15.size
    have E := on15.ext E (by omega)
    replace F35 := F35.only on15 (by omega)
    replace V35 := V35.only on15 (by omega)
    replace F59 := F59.only on15 (by omega)
    replace V59 := V59.only on15 (by omega)
    replace G69_0 := G69_0.only on15 (by omega)
    replace G77_0 := G77_0.only on15 (by omega)
    replace O4 := on15.own O4 (by omega)
    replace O9 := on15.own O9 (by omega)
    replace O12 := on15.own O12 (by omega)
    replace O15 : Own w15 b14 [.int .i64 T.1.1, .slice q77_0 m77_0 d77_0] 41 := O15
    refine ov (xassign rfl) rfl rfl rfl ?_
    refine ops_nil ?_
    refine run_seq ?_
    refine run_region ?_
    refine ov (xmove rfl) rfl rfl rfl ?_
    refine oc (xcall Try.call74 rfl) rfl rfl rfl (DrawJurorVerdict_ok _ _ _ _ _ (H.ext E) (by assumption)) ?_
    rintro _ w16 ⟨e16, xs82, q82, m82, d82, vs82, nd82, p82, n82, k82, r82, rfl, ok82, hm82, F82, V82, hn82, hr82⟩
    have z16 := e16.size
    have E := E.trans e16
    replace F35 := F35.ext e16
    replace V35 := V35.ext e16
    replace F59 := F59.ext e16
    replace V59 := V59.ext e16
    replace G69_0 := G69_0.ext e16
    replace G77_0 := G77_0.ext e16
    replace O4 := O4.ext e16
    replace O9 := O9.ext e16
    replace O12 := O12.ext e16
    replace O15 := O15.ext e16
    have lF82 := F82.sl.len
    have lV82 := V82.len
    refine ov (xmove rfl) rfl rfl rfl ?_
    refine ov (xextract rfl rfl) rfl rfl rfl ?_
    refine ov (xextract rfl rfl) rfl rfl rfl ?_
    refine ov (xextract rfl rfl) rfl rfl rfl ?_
    refine oalloc Try.zeroValue41 rfl rfl ?_
    intro b17 w17 e17 hb17 hz17 O17
    have E := E.trans e17
    replace F35 := F35.ext e17
    replace V35 := V35.ext e17
    replace F59 := F59.ext e17
    replace V59 := V59.ext e17
    replace G69_0 := G69_0.ext e17
    replace G77_0 := G77_0.ext e17
    replace F82 := F82.ext e17
    replace V82 := V82.ext e17
    replace O4 := O4.ext e17
    replace O9 := O9.ext e17
    replace O12 := O12.ext e17
    replace O15 := O15.ext e17
    replace O17 : Own w17 b17 [.int .i64 0, .slice none 0 0] 41 := O17
    refine ov (xassign rfl) rfl rfl rfl ?_
    refine ostoreN (vs := _) Try.sizeOf41 rfl rfl O17 rfl (by simp) (by simp [Value.oneCell']) rfl ?_
    intro w18 on18 O18
    have hz18 := on18.size
    have E := on18.ext E (by omega)
    replace F35 := F35.only on18 (by omega)
    replace V35 := V35.only on18 (by omega)
    replace F59 := F59.only on18 (by omega)
    replace V59 := V59.only on18 (by omega)
    replace G69_0 := G69_0.only on18 (by omega)
    replace G77_0 := G77_0.only on18 (by omega)
    replace F82 := F82.only on18 (by omega)
    replace V82 := V82.only on18 (by omega)
    replace O4 := on18.own O4 (by omega)
    replace O9 := on18.own O9 (by omega)
    replace O12 := on18.own O12 (by omega)
    replace O15 := on18.own O15 (by omega)
    replace O18 : Own w18 b17 [.int .i64 nd82, .slice p82 n82 k82] 41 := O18
    refine ov (xassign rfl) rfl rfl rfl ?_
    refine ops_nil ?_
    refine run_seq ?_
    refine run_region ?_
    refine ov (xmove rfl) rfl rfl rfl ?_
    refine ov (v := .agg #[.int .i64 nd82, .slice p82 n82 k82]) (xloadN Try.isAgg41 Try.sizeOf41 rfl (O18.cells) rfl) rfl rfl rfl ?_
    refine ov (xmove rfl) rfl rfl rfl ?_
    refine oc (xcall Try.call55 rfl) rfl rfl rfl (JurorVerdict_ok _ _ _ xs82 nd82 vs82 _ _ _ _ (F82.sl) (by assumption) (V82.sl).sn r82) ?_
    rintro _ w19 ⟨rfl, e19⟩
    have z19 := e19.size
    have E := E.trans e19
    replace F35 := F35.ext e19
    replace V35 := V35.ext e19
    replace F59 := F59.ext e19
    replace V59 := V59.ext e19
    replace G69_0 := G69_0.ext e19
    replace G77_0 := G77_0.ext e19
    replace F82 := F82.ext e19
    replace V82 := V82.ext e19
    replace O4 := O4.ext e19
    replace O9 := O9.ext e19
    replace O12 := O12.ext e19
    replace O15 := O15.ext e19
    replace O18 := O18.ext e19
    refine ov (xmove rfl) rfl rfl rfl ?_
    refine ov (xextract rfl rfl) rfl rfl rfl ?_
    refine ov (xextract rfl rfl) rfl rfl rfl ?_
    refine ov (xassign rfl) rfl rfl rfl ?_
    refine ov (xassign rfl) rfl rfl rfl ?_
    refine ops_nil ?_
    refine run_seq ?_
    refine run_region ?_
    refine ov (xmove rfl) rfl rfl rfl ?_
    refine ov (v := .agg #[.int .i64 nd82, .slice p82 n82 k82]) (xloadN Try.isAgg41 Try.sizeOf41 rfl (O18.cells) rfl) rfl rfl rfl ?_
    refine ov (xmove rfl) rfl rfl rfl ?_
    refine oc (xcall Try.call54 rfl) rfl rfl rfl (sJurorVerdict_ok _ _ _ xs82 nd82 vs82 _ _ _ _ (F82.sl) (by assumption) (V82.sl).sn r82) ?_
    rintro _ w20 ⟨rfl, e20⟩
    have z20 := e20.size
    have E := E.trans e20
    replace F35 := F35.ext e20
    replace V35 := V35.ext e20
    replace F59 := F59.ext e20
    replace V59 := V59.ext e20
    replace G69_0 := G69_0.ext e20
    replace G77_0 := G77_0.ext e20
    replace F82 := F82.ext e20
    replace V82 := V82.ext e20
    replace O4 := O4.ext e20
    replace O9 := O9.ext e20
    replace O12 := O12.ext e20
    replace O15 := O15.ext e20
    replace O18 := O18.ext e20
    refine ov (xmove rfl) rfl rfl rfl ?_
    refine ov (xextract rfl rfl) rfl rfl rfl ?_
    refine ov (xextract rfl rfl) rfl rfl rfl ?_
    refine ov (xassign rfl) rfl rfl rfl ?_
    refine ov (xassign rfl) rfl rfl rfl ?_
    refine ops_nil ?_
    refine run_seq ?_
    refine run_seq ?_
    refine run_region ?_
    refine ov (xmove rfl) rfl rfl rfl ?_
    refine ov (xmove rfl) rfl rfl rfl ?_
    refine ov (xneq rfl rfl _ rfl) rfl rfl rfl ?_
    refine ods (fun c102 => ?_) (fun c102 => ?_)
    · exfalso; exact absurd rfl c102
    ·
      refine ov (xmove rfl) rfl rfl rfl ?_
      refine ov (xmove rfl) rfl rfl rfl ?_
      refine ov (xmove rfl) rfl rfl rfl ?_
      refine ov (xneq rfl rfl _ rfl) rfl rfl rfl ?_
      refine ods (fun c106 => ?_) (fun c106 => ?_)
      · exfalso; exact absurd rfl c106
      ·
        refine ov (xpick_f rfl rfl) rfl rfl rfl ?_
        refine ov (xmove rfl) rfl rfl rfl ?_
        refine ov (xmove rfl) rfl rfl rfl ?_
        refine ov (xmove rfl) rfl rfl rfl ?_
        refine ov (xneq rfl rfl _ rfl) rfl rfl rfl ?_
        refine ods (fun c111 => ?_) (fun c111 => ?_)
        · exfalso; exact absurd rfl c111
        ·
          refine ov (xpick_f rfl rfl) rfl rfl rfl ?_
          refine ov (xmove rfl) rfl rfl rfl ?_
          refine ov (xmove rfl) rfl rfl rfl ?_
          refine ov (xmove rfl) rfl rfl rfl ?_
          refine ov (xneq rfl rfl _ rfl) rfl rfl rfl ?_
          refine ods (fun c116 => ?_) (fun c116 => ?_)
          · exfalso; exact absurd rfl c116
          ·
            refine ov (xpick_f rfl rfl) rfl rfl rfl ?_
            refine ov (xmove rfl) rfl rfl rfl ?_
            refine ov (xmove rfl) rfl rfl rfl ?_
            refine ov (xmove rfl) rfl rfl rfl ?_
            refine ov (xneq rfl rfl _ rfl) rfl rfl rfl ?_
            refine ods (fun c121 => ?_) (fun c121 => ?_)
            · exfalso; exact absurd rfl c121
            ·
              refine ov (xpick_f rfl rfl) rfl rfl rfl ?_
              refine ov (xmove rfl) rfl rfl rfl ?_
              refine ov (v := .agg #[.int .i64 T.1.1, .slice q69_0 m69_0 d69_0]) (xloadN Try.isAgg41 Try.sizeOf41 rfl (O12.cells) rfl) rfl rfl rfl ?_
              refine ov (v := .agg #[.int .i64 T.1.1, .slice q77_0 m77_0 d77_0]) (xloadN Try.isAgg41 Try.sizeOf41 rfl (O15.cells) rfl) rfl rfl rfl ?_
              refine oc (xcall Try.call75 rfl) rfl rfl rfl (likePoll_ok _ _ _ _ _ _ _ _ _ (G69_0.sl).sn (G77_0.sl).sn) ?_
              rintro _ w21 ⟨rfl, e21⟩
              have z21 := e21.size
              have E := E.trans e21
              replace F35 := F35.ext e21
              replace V35 := V35.ext e21
              replace F59 := F59.ext e21
              replace V59 := V59.ext e21
              replace G69_0 := G69_0.ext e21
              replace G77_0 := G77_0.ext e21
              replace F82 := F82.ext e21
              replace V82 := V82.ext e21
              replace O4 := O4.ext e21
              replace O9 := O9.ext e21
              replace O12 := O12.ext e21
              replace O15 := O15.ext e21
              replace O18 := O18.ext e21
              refine obs (fun c126 => ?_) (fun c126 => ?_)
              ·
                refine ov (xnot rfl) rfl rfl rfl ?_
                refine ov (xpick_f rfl rfl) rfl rfl rfl ?_
                refine ov (xmove rfl) rfl rfl rfl ?_
                refine ov (xmove rfl) rfl rfl rfl ?_
                refine ov (xmove rfl) rfl rfl rfl ?_
                refine ov (xneq rfl rfl _ rfl) rfl rfl rfl ?_
                refine ods (fun c132 => ?_) (fun c132 => ?_)
                · exfalso; exact absurd rfl c132
                ·
                  refine ov (xpick_f rfl rfl) rfl rfl rfl ?_
                  refine ov (xmove rfl) rfl rfl rfl ?_
                  refine ov (xmove rfl) rfl rfl rfl ?_
                  refine ov (xmove rfl) rfl rfl rfl ?_
                  refine ov (xneq rfl rfl _ rfl) rfl rfl rfl ?_
                  refine ods (fun c137 => ?_) (fun c137 => ?_)
                  · exfalso; exact absurd rfl c137
                  ·
                    refine ov (xpick_f rfl rfl) rfl rfl rfl ?_
                    refine ops_nil ?_
                    refine run_cond_f rfl ?_
                    refine run_skip ?_
                    refine run_seq ?_
                    refine run_seq ?_
                    refine run_region ?_
                    refine ov (xmove rfl) rfl rfl rfl ?_
                    refine ov (xeql rfl rfl _ rfl) rfl rfl rfl ?_
                    refine ods (fun c140 => ?_) (fun c140 => ?_)
                    ·
                      have tb := turn_back (by rw [hT]; omega : (turnVote xs59 nd59 vs59 r59 s59).2 = 0)
                      rw [hT] at tb
                      have tb3 : turnVote xs59 T.1.1 T.1.2 r59 s59 = ((nd59, vs59), 0) := by rw [tb.1]; exact tb.2
                      refine ops_nil ?_
                      refine run_cond_t rfl ?_
                      refine run_seq ?_
                      refine run_region ?_
                      refine ov (xmove rfl) rfl rfl rfl ?_
                      refine ov (v := .agg #[.int .i64 T.1.1, .slice q69_0 m69_0 d69_0]) (xloadN Try.isAgg41 Try.sizeOf41 rfl (O12.cells) rfl) rfl rfl rfl ?_
                      refine ov (xmove rfl) rfl rfl rfl ?_
                      refine ov (xmove rfl) rfl rfl rfl ?_
                      refine oc (xcall Try.call64 rfl) rfl rfl rfl (TurnVoteE_ok _ _ _ xs59 T.1.1 T.1.2 _ _ _ _ (F59.sl) (by assumption) (G69_0.sl).sn r59 s59 ((nd59, vs59), 0) tb3) ?_
                      rintro _ w22 ⟨e22, q146_0, m146_0, d146_0, rfl, G146_0⟩
                      have z22 := e22.size
                      have E := E.trans e22
                      replace F35 := F35.ext e22
                      replace V35 := V35.ext e22
                      replace F59 := F59.ext e22
                      replace V59 := V59.ext e22
                      replace G69_0 := G69_0.ext e22
                      replace G77_0 := G77_0.ext e22
                      replace F82 := F82.ext e22
                      replace V82 := V82.ext e22
                      replace O4 := O4.ext e22
                      replace O9 := O9.ext e22
                      replace O12 := O12.ext e22
                      replace O15 := O15.ext e22
                      replace O18 := O18.ext e22
                      have lG146_0 := G146_0.len
                      refine ov (xmove rfl) rfl rfl rfl ?_
                      refine ov (xextract rfl rfl) rfl rfl rfl ?_
                      refine ov (xextract rfl rfl) rfl rfl rfl ?_
                      refine oalloc Try.zeroValue41 rfl rfl ?_
                      intro b23 w23 e23 hb23 hz23 O23
                      have E := E.trans e23
                      replace F35 := F35.ext e23
                      replace V35 := V35.ext e23
                      replace F59 := F59.ext e23
                      replace V59 := V59.ext e23
                      replace G69_0 := G69_0.ext e23
                      replace G77_0 := G77_0.ext e23
                      replace F82 := F82.ext e23
                      replace V82 := V82.ext e23
                      replace G146_0 := G146_0.ext e23
                      replace O4 := O4.ext e23
                      replace O9 := O9.ext e23
                      replace O12 := O12.ext e23
                      replace O15 := O15.ext e23
                      replace O18 := O18.ext e23
                      replace O23 : Own w23 b23 [.int .i64 0, .slice none 0 0] 41 := O23
                      refine ostoreN (vs := _) Try.sizeOf41 rfl rfl O23 rfl (by simp) (by simp [Value.oneCell']) rfl ?_
                      intro w24 on24 O24
                      have hz24 := on24.size
                      have E := on24.ext E (by omega)
                      replace F35 := F35.only on24 (by omega)
                      replace V35 := V35.only on24 (by omega)
                      replace F59 := F59.only on24 (by omega)
                      replace V59 := V59.only on24 (by omega)
                      replace G69_0 := G69_0.only on24 (by omega)
                      replace G77_0 := G77_0.only on24 (by omega)
                      replace F82 := F82.only on24 (by omega)
                      replace V82 := V82.only on24 (by omega)
                      replace G146_0 := G146_0.only on24 (by omega)
                      replace O4 := on24.own O4 (by omega)
                      replace O9 := on24.own O9 (by omega)
                      replace O12 := on24.own O12 (by omega)
                      replace O15 := on24.own O15 (by omega)
                      replace O18 := on24.own O18 (by omega)
                      replace O24 : Own w24 b23 [.int .i64 nd59, .slice q146_0 m146_0 d146_0] 41 := O24
                      refine ov (xassign rfl) rfl rfl rfl ?_
                      refine ops_nil ?_
                      refine run_seq ?_
                      refine run_region ?_
                      refine ov (xmove rfl) rfl rfl rfl ?_
                      refine ov (xneq rfl rfl _ rfl) rfl rfl rfl ?_
                      refine ods (fun c150 => ?_) (fun c150 => ?_)
                      · exfalso; exact absurd rfl c150
                      ·
                        refine ov (xmove rfl) rfl rfl rfl ?_
                        refine ov (v := .agg #[.int .i64 nd59, .slice q146_0 m146_0 d146_0]) (xloadN Try.isAgg41 Try.sizeOf41 rfl (O24.cells) rfl) rfl rfl rfl ?_
                        refine ov (v := .agg #[.int .i64 nd59, .slice p59 n59 k59]) (xloadN Try.isAgg41 Try.sizeOf41 rfl (O9.cells) rfl) rfl rfl rfl ?_
                        refine oc (xcall Try.call75 rfl) rfl rfl rfl (likePoll_ok _ _ _ _ _ _ _ _ _ (G146_0.sl).sn (V59.sl).sn) ?_
                        rintro _ w25 ⟨rfl, e25⟩
                        have z25 := e25.size
                        have E := E.trans e25
                        replace F35 := F35.ext e25
                        replace V35 := V35.ext e25
                        replace F59 := F59.ext e25
                        replace V59 := V59.ext e25
                        replace G69_0 := G69_0.ext e25
                        replace G77_0 := G77_0.ext e25
                        replace F82 := F82.ext e25
                        replace V82 := V82.ext e25
                        replace G146_0 := G146_0.ext e25
                        replace O4 := O4.ext e25
                        replace O9 := O9.ext e25
                        replace O12 := O12.ext e25
                        replace O15 := O15.ext e25
                        replace O18 := O18.ext e25
                        replace O24 := O24.ext e25
                        refine obs (fun c154 => ?_) (fun c154 => ?_)
                        ·
                          refine ov (xnot rfl) rfl rfl rfl ?_
                          refine ov (xpick_f rfl rfl) rfl rfl rfl ?_
                          refine ops_nil ?_
                          refine run_cond_f rfl ?_
                          refine run_skip ?_
                          refine run_seq ?_
                          refine run_region ?_
                          refine ov (xmove rfl) rfl rfl rfl ?_
                          refine ov (xneq rfl rfl _ rfl) rfl rfl rfl ?_
                          refine ods (fun c158 => ?_) (fun c158 => ?_)
                          ·
                            refine ov (xmove rfl) rfl rfl rfl ?_
                            refine og rfl rfl rfl ?_
                            refine og rfl rfl rfl ?_
                            refine og rfl rfl rfl ?_
                            refine og rfl rfl rfl ?_
                            refine og rfl rfl rfl ?_
                            refine og rfl rfl rfl ?_
                            refine og rfl rfl rfl ?_
                            refine og rfl rfl rfl ?_
                            refine og rfl rfl rfl ?_
                            refine ov (xpick_t rfl rfl) rfl rfl rfl ?_
                            refine ov (xassign rfl) rfl rfl rfl ?_
                            refine ops_nil ?_
                            refine run_ret Try.func19 (res1 rfl rfl) ?_
                            first | exact ⟨_, rfl, rfl, E⟩ | exact ⟨_, rfl, by rw [decide_eq_true (by omega)], E⟩
                          ·
                            have ts := tally_sum (by omega : (tallyOf xs35 nd35 vs35 r35).2.2.2 = 0)
                            have tn := tally_nn xs35 nd35 vs35 r35
                            refine ov (xmove rfl) rfl rfl rfl ?_
                            refine ov (xmove rfl) rfl rfl rfl ?_
                            refine ov (xmove rfl) rfl rfl rfl ?_
                            refine ov (xadd rfl rfl (by unfold I64; omega)) rfl rfl rfl ?_
                            refine ov (xmove rfl) rfl rfl rfl ?_
                            refine ov (xadd rfl rfl (by unfold I64; omega)) rfl rfl rfl ?_
                            refine ov (xfieldAddr fo41f1 rfl) rfl rfl rfl ?_
                            refine ov (v := .slice p35 n35 k35) (xload1 Try.isAgg36 rfl (O4.cells) rfl) rfl rfl rfl ?_
                            refine ov (xlen Try.underlying36 rfl) rfl rfl rfl ?_
                            refine ov (xeql rfl rfl _ rfl) rfl rfl rfl ?_
                            refine ov (xpick_f rfl rfl) rfl rfl rfl ?_
                            refine ov (xassign rfl) rfl rfl rfl ?_
                            refine ops_nil ?_
                            refine run_ret Try.func19 (res1 rfl rfl) ?_
                            first | exact ⟨_, rfl, rfl, E⟩ | exact ⟨_, rfl, by rw [decide_eq_true (by omega)], E⟩
                        · exfalso; cases c154
                    ·
                      refine ops_nil ?_
                      refine run_cond_f rfl ?_
                      refine run_skip ?_
                      refine run_seq ?_
                      refine run_region ?_
                      refine ov (xmove rfl) rfl rfl rfl ?_
                      refine ov (xneq rfl rfl _ rfl) rfl rfl rfl ?_
                      refine ods (fun c158 => ?_) (fun c158 => ?_)
                      ·
                        refine ov (xmove rfl) rfl rfl rfl ?_
                        refine og rfl rfl rfl ?_
                        refine og rfl rfl rfl ?_
                        refine og rfl rfl rfl ?_
                        refine og rfl rfl rfl ?_
                        refine og rfl rfl rfl ?_
                        refine og rfl rfl rfl ?_
                        refine og rfl rfl rfl ?_
                        refine og rfl rfl rfl ?_
                        refine og rfl rfl rfl ?_
                        refine ov (xpick_t rfl rfl) rfl rfl rfl ?_
                        refine ov (xassign rfl) rfl rfl rfl ?_
                        refine ops_nil ?_
                        refine run_ret Try.func19 (res1 rfl rfl) ?_
                        first | exact ⟨_, rfl, rfl, E⟩ | exact ⟨_, rfl, by rw [decide_eq_true (by omega)], E⟩
                      ·
                        have ts := tally_sum (by omega : (tallyOf xs35 nd35 vs35 r35).2.2.2 = 0)
                        have tn := tally_nn xs35 nd35 vs35 r35
                        refine ov (xmove rfl) rfl rfl rfl ?_
                        refine ov (xmove rfl) rfl rfl rfl ?_
                        refine ov (xmove rfl) rfl rfl rfl ?_
                        refine ov (xadd rfl rfl (by unfold I64; omega)) rfl rfl rfl ?_
                        refine ov (xmove rfl) rfl rfl rfl ?_
                        refine ov (xadd rfl rfl (by unfold I64; omega)) rfl rfl rfl ?_
                        refine ov (xfieldAddr fo41f1 rfl) rfl rfl rfl ?_
                        refine ov (v := .slice p35 n35 k35) (xload1 Try.isAgg36 rfl (O4.cells) rfl) rfl rfl rfl ?_
                        refine ov (xlen Try.underlying36 rfl) rfl rfl rfl ?_
                        refine ov (xeql rfl rfl _ rfl) rfl rfl rfl ?_
                        refine ov (xpick_f rfl rfl) rfl rfl rfl ?_
                        refine ov (xassign rfl) rfl rfl rfl ?_
                        refine ops_nil ?_
                        refine run_ret Try.func19 (res1 rfl rfl) ?_
                        first | exact ⟨_, rfl, rfl, E⟩ | exact ⟨_, rfl, by rw [decide_eq_true (by omega)], E⟩
              · exfalso; cases c126
end Go.Proofs.Ytinpkihmkfiidaa
