/-
  The questions and verdicts to which ways lead: the walks. No condition beyond those written in each theorem.
-/
import Derived.Test.YtinpkihmkfiidaaDelI
import Derived.Test.YtinpkihmkfiidaaCountW
namespace Go.Proofs.Ytinpkihmkfiidaa
open Go.RowKit
set_option linter.unusedVariables false
set_option linter.unusedSimpArgs false
set_option linter.unusedSectionVars false
set_option maxRecDepth 4000

theorem srt_pos (xs : List Question) : 0 < (srt (usedL xs)).length := by
  have h : (0 : Int) ∈ srt (usedL xs) := srt_mem.2 (usedT_mono (k := 0) (by simp [usedT]) _ (Nat.zero_le _))
  exact List.length_pos_of_mem h
theorem ins_step {xs : List Question} {l : List (List Int)} {k : Nat} (hk : k < l.length) {st : List Int} (h : insAll [] ((l.take k).map fun a => (wayF xs a).2) = st) : insAll [] ((l.take (k + 1)).map fun a => (wayF xs a).2) = insI st (wayF xs l[k]).2 := by
  rw [List.take_succ_eq_append_getElem hk, List.map_append, insAll, List.foldl_append, List.map_cons, List.map_nil, List.foldl_cons, List.foldl_nil]
  rw [insAll] at h; rw [h]
theorem insI_len (l : List Int) (n : Int) : (insI l n).length ≤ l.length + 1 := by
  induction l with
  | nil => simp [insI]
  | cons x r ih =>
    unfold insI
    split
    · simp only [List.length_cons]; omega
    · split <;> simp

set_option maxHeartbeats 400000 in
theorem sortedSet_ok (p : Option Addr) (n c : Nat) (xs : List Int) (lo hi : Nat) (w : World) (G : Ow i64c 1 2 w lo hi p n c xs) (h0 : 0 < n) (h1 : n ≤ 1000000000) : Ret Try.prog 143 [.slice p n c] w (fun v w' => ∃ m, v = .slice p m c ∧ m ≤ n ∧ Mk lo hi w w' ∧ Ow i64c 1 2 w' lo hi p m c (srt xs)) := by
  refine ret_of_run (N := 7) Try.func143 rfl rfl rfl ?_
  have E : Mk lo hi w w := Mk.refl _ _ _
  refine run_seq ?_
  refine run_region ?_
  refine ov (xassign rfl) rfl rfl rfl ?_
  refine ops_nil ?_
  refine run_seq ?_
  refine run_region ?_
  refine ov (xmove rfl) rfl rfl rfl ?_
  refine oc (xcall Try.call145 rfl) rfl rfl rfl (sort_ok _ _ _ _ _ _ _ G h0 h1) ?_
  rintro _ w1 ⟨rfl, m1, g1⟩
  have z1 := m1.size
  have E := E.trans m1
  replace G := g1
  refine ops_nil ?_
  refine run_seq ?_
  refine run_region ?_
  refine ov (xmove rfl) rfl rfl rfl ?_
  refine oc (xcall Try.call146 rfl) rfl rfl rfl (compact_ok _ _ _ _ _ _ _ G h0 h1) ?_
  rintro _ w2 ⟨mz, rfl, hmz, m2, g2⟩
  have z2 := m2.size
  have E := E.trans m2
  replace G := g2
  refine ov (xassign rfl) rfl rfl rfl ?_
  refine ops_nil ?_
  refine run_ret Try.func143 (res1 rfl rfl) ?_
  exact ⟨_, rfl, _, rfl, hmz, E, G⟩

set_option maxHeartbeats 1000000 in
theorem reached_ok (p : Option Addr) (n c : Nat) (xs : List Question) (w : World) (H : Sl Question.cells 3 w p n c xs) (hx : ∀ x ∈ xs, x.Label.size ≤ 9223372036854775807) (hl : xs.length ≤ 10) : Ret Try.prog 130 [.slice p n c] w (fun v w' => Ext w w' ∧ ∃ q m d, v = .slice q m d ∧ Ow i64c 1 2 w' w.heap.size w'.heap.size q m d (srt (usedL xs))) := by
  refine ret_of_run (N := 27) Try.func130 rfl rfl rfl ?_
  have hn := H.len
  have hn6 := H.n64
  have E : Ext w w := Ext.refl w
  refine run_seq ?_
  refine run_region ?_
  refine ov (xassign rfl) rfl rfl rfl ?_
  refine ops_nil ?_
  refine run_seq ?_
  refine run_region ?_
  refine obuild (cs := [.int .i64 0]) (sz := 1) Try.underlying31 inf2 rfl rfl (by decide) rfl rfl (by simp [Value.cells]) rfl rfl rfl ?_
  intro b1 w1 e1 hb1 hz1 O1
  have E := E.trans e1
  have G1 : Ow i64c 1 2 w1 b1 (b1 + 1) (some ⟨b1, 0, none⟩) 1 1 ([0] : List Int) := Own.ow (by simpa [i64c] using O1) rfl (by omega) (Nat.le_refl _) (by omega) (by intro x hx; rfl)
  refine ov (xassign rfl) rfl rfl rfl ?_
  refine ops_nil ?_
  refine run_seq ?_
  refine run_seq ?_
  refine run_region ?_
  refine ov (xmove rfl) rfl rfl rfl ?_
  refine ov (xlen Try.underlying25 rfl) rfl rfl rfl ?_
  refine ov (xmove rfl) rfl rfl rfl ?_
  refine ops_nil ?_
  refine run_block ?_
  refine run_loop (ι := Nat × Option Addr × Nat × Nat × List Int × World) (fun x_ => match x_ with | (k, q_3, m_3, c_3, ys_3, wr) => (Ext w wr) ∧ (Ow i64c 1 2 wr b1 wr.heap.size q_3 m_3 c_3 ys_3) ∧ (b1 ≤ wr.heap.size) ∧ (w1.heap.size ≤ wr.heap.size) ∧ (k ≤ n) ∧ (ys_3 = usedT xs k) ∧ (1 ≤ m_3)) (fun x_ => match x_ with | (k, q_3, m_3, c_3, ys_3, wr) => [(3, .slice q_3 m_3 c_3), (7, .slice p n c), (8, .int .i64 (n : Int)), (9, .int .i64 (k : Int))]) (fun x_ => match x_ with | (k, q_3, m_3, c_3, ys_3, wr) => wr) (fun x_ => match x_ with | (k, q_3, m_3, c_3, ys_3, wr) => n - k) ?_ (0, (some ⟨b1, 0, none⟩), 1, 1, [0], w1) (⟨E, G1.wide (by omega) (by omega), by omega, Nat.le_refl _, by omega, rfl, by omega⟩) ⟨rfl, rfl, rfl, rfl, trivial⟩ rfl
  intro i_ hI_ hback3
  obtain ⟨k, q_3, m_3, c_3, ys_3, wr⟩ := i_
  obtain ⟨E, G_3, lo_3, lz_wr, hk, hy, hm1⟩ := hI_
  try dsimp only
  have zr := E.size
  have lg_3 := G_3.len
  have hul := usedT_len xs k
  rw [← hy] at hul
  refine run_seq ?_
  refine run_region ?_
  refine ov (xlss rfl rfl _ rfl) rfl rfl rfl ?_
  refine ods (fun c10 => ?_) (fun c10 => ?_)
  ·
    refine ops_nil ?_
    refine run_seq ?_
    refine run_cond_t rfl ?_
    refine run_skip ?_
    refine run_seq ?_
    refine run_block ?_
    refine run_seq ?_
    refine run_region ?_
    refine ov (xmove rfl) rfl rfl rfl ?_
    have h12 := (H.ext E).at (i := k) (by omega)
    refine ov (xindexN (i := k) Try.underlying25 Try.sizeOf80 rfl rfl rfl ((H.ext E).p (i := k) (by omega)) (by have := (H.ext E).len; omega)) rfl rfl rfl ?_
    refine ov (v := .agg #[.string xs[k].Label, .int .i64 xs[k].Yes, .int .i64 xs[k].No]) (xloadN Try.isAgg80 Try.sizeOf80 rfl (h12) rfl) rfl rfl rfl ?_
    refine oalloc Try.zeroValue80 rfl rfl ?_
    intro b2 w2 e2 hb2 hz2 O2
    have E := E.trans e2
    replace G_3 := G_3.ext e2
    replace O2 : Own w2 b2 [.string ⟨#[]⟩, .int .i64 0, .int .i64 0] 80 := O2
    refine ov (xassign rfl) rfl rfl rfl ?_
    refine ostoreN (vs := _) Try.sizeOf80 rfl rfl O2 rfl (by simp) (by simp [Value.oneCell']) rfl ?_
    intro w3 on3 O3
    have hz3 := on3.size
    have E := on3.ext E (by omega)
    replace G_3 := G_3.only on3 (by omega)
    replace O3 : Own w3 b2 [.string xs[k].Label, .int .i64 xs[k].Yes, .int .i64 xs[k].No] 80 := O3
    refine ops_nil ?_
    refine run_seq ?_
    refine run_region ?_
    refine ov (xmove rfl) rfl rfl rfl ?_
    refine ov (xmove rfl) rfl rfl rfl ?_
    refine oc (xcall Try.call131 rfl) rfl rfl rfl (hasI_ok _ _ _ _ ((k : Int)) _ (G_3.sl)) ?_
    rintro _ w4 ⟨rfl, e4⟩
    have z4 := e4.size
    have E := E.trans e4
    replace G_3 := G_3.ext e4
    replace O3 := O3.ext e4
    refine obs (fun c16 => ?_) (fun c16 => ?_)
    ·
      refine ops_nil ?_
      refine run_cond_t rfl ?_
      refine run_region ?_
      refine ov (xmove rfl) rfl rfl rfl ?_
      refine ov (xfieldAddr fo80f1 rfl) rfl rfl rfl ?_
      refine ov (v := .int .i64 xs[k].Yes) (xload1 Try.isAgg2 rfl (O3.cells) rfl) rfl rfl rfl ?_
      refine ov (xfieldAddr fo80f2 rfl) rfl rfl rfl ?_
      refine ov (v := .int .i64 xs[k].No) (xload1 Try.isAgg2 rfl (O3.cells) rfl) rfl rfl rfl ?_
      refine obuild (cs := [.int .i64 xs[k].Yes, .int .i64 xs[k].No]) (sz := 1) Try.underlying31 inf2 rfl rfl (by decide) rfl rfl (by simp [Value.cells]) rfl rfl rfl ?_
      intro b5 w5 e5 hb5 hz5 O5
      have E := E.trans e5
      replace G_3 := G_3.ext e5
      replace O3 := O3.ext e5
      have G5 : Ow i64c 1 2 w5 b5 (b5 + 1) (some ⟨b5, 0, none⟩) 2 2 ([xs[k].Yes, xs[k].No] : List Int) := Own.ow (by simpa [i64c] using O5) rfl (by omega) (Nat.le_refl _) (by omega) (by intro x hx; rfl)
      refine oapp (bytes := 8) (nm := (m_3 + 2)) G_3 rfl rfl elem2 (G5.sl) (ow_nil G5) (by intro y hy; rfl) (by intro y hy u hu; simp only [i64c, List.mem_singleton] at hu; subst hu; rfl) (by omega) (by omega) (by omega) (by omega) rfl rfl ?_
      intro p6 c6_ w6 m6 G6
      have hz6 := m6.size
      have E := m6.toExt E (by omega)
      replace G5 := G5.off m6 (by omega)
      try replace O3 := m6.own O3 (by omega)
      refine ov (xassign rfl) rfl rfl rfl ?_
      refine ops_nil ?_
      refine run_inBlock ?_
      refine run_region ?_
      refine ov (xadd rfl rfl (by unfold I64; omega)) rfl rfl rfl ?_
      refine ov (xmove rfl) rfl rfl rfl ?_
      refine ops_nil ?_
      refine run_sub ?_ (hback3 (k + 1, p6, (m_3 + 2), c6_, (ys_3 ++ [xs[k].Yes, xs[k].No]), w6) (⟨E, G6.wide (by omega) (by omega), by omega, by omega, by omega, by rw [usedT_t (by omega) (by rw [← hy]; exact c16), ← hy], by omega⟩) (by first | omega | (dsimp only; omega)))
      exact ⟨rfl, rfl, rfl, rfl, trivial⟩
    ·
      refine ops_nil ?_
      refine run_cond_f rfl ?_
      refine run_skip ?_
      refine run_inBlock ?_
      refine run_region ?_
      refine ov (xadd rfl rfl (by unfold I64; omega)) rfl rfl rfl ?_
      refine ov (xmove rfl) rfl rfl rfl ?_
      refine ops_nil ?_
      refine run_sub ?_ (hback3 (k + 1, q_3, m_3, c_3, ys_3, w4) (⟨E, G_3.wide (by omega) (by omega), by omega, by omega, by omega, by rw [usedT_f (by omega) (by rw [← hy]; exact c16)]; exact hy, by omega⟩) (by first | omega | (dsimp only; omega)))
      exact ⟨rfl, rfl, rfl, rfl, trivial⟩
  ·
    refine ops_nil ?_
    refine run_seq ?_
    refine run_cond_f rfl ?_
    refine run_exit rfl ?_
    refine run_seq ?_
    refine run_region ?_
    refine ov (xmove rfl) rfl rfl rfl ?_
    refine oc (xcall Try.call143 rfl) rfl rfl rfl (sortedSet_ok _ _ _ _ _ _ _ G_3 (by omega) (by omega)) ?_
    rintro _ w2 ⟨mz, rfl, hmz, m2, g2⟩
    have z2 := m2.size
    have E := m2.toExt E (by omega)
    replace G_3 := g2
    refine ov (xassign rfl) rfl rfl rfl ?_
    refine ops_nil ?_
    refine run_ret Try.func130 (res1 rfl rfl) ?_
    obtain rfl : k = n := by omega
    exact ⟨_, rfl, E, _, _, _, rfl, by rw [usedL, ← hn, ← hy]; exact G_3.wide (by omega) (by omega)⟩

set_option maxHeartbeats 1000000 in
theorem UnusedQuestions_ok (p : Option Addr) (n c : Nat) (xs : List Question) (w : World) (H : Sl Question.cells 3 w p n c xs) (hx : ∀ x ∈ xs, x.Label.size ≤ 9223372036854775807) : Ret Try.prog 80 [.slice p n c] w (fun v w' => Ext w w' ∧ ∃ q m d, v = .tuple #[.slice q m d, .int .i64 (unusedQ xs).2] ∧ Ow i64c 1 2 w' w.heap.size w'.heap.size q m d (unusedQ xs).1) := by
  refine ret_of_run (N := 28) Try.func80 rfl rfl rfl ?_
  have hn := H.len
  have hn6 := H.n64
  have E : Ext w w := Ext.refl w
  refine run_seq ?_
  refine run_region ?_
  refine ov (xassign rfl) rfl rfl rfl ?_
  refine ov (xassign rfl) rfl rfl rfl ?_
  refine ops_nil ?_
  refine run_seq ?_
  refine run_seq ?_
  refine run_region ?_
  refine ov (xmove rfl) rfl rfl rfl ?_
  refine oc (xcall Try.call28 rfl) rfl rfl rfl (IsForm_ok _ _ _ _ _ (H.ext E) (by assumption)) ?_
  rintro _ w1 ⟨rfl, e1⟩
  have z1 := e1.size
  have E := E.trans e1
  refine obs (fun c8 => ?_) (fun c8 => ?_)
  ·
    have hl := isForm_len c8
    refine ov (xnot rfl) rfl rfl rfl ?_
    refine ops_nil ?_
    refine run_cond_f rfl ?_
    refine run_skip ?_
    refine run_seq ?_
    refine run_region ?_
    refine obuild (cs := []) (sz := 1) Try.underlying31 inf2 rfl rfl (by decide) rfl rfl (by simp [Value.cells]) rfl rfl rfl ?_
    intro b2 w2 e2 hb2 hz2 O2
    have E := E.trans e2
    have G2 : Ow i64c 1 2 w2 b2 (b2 + 1) (some ⟨b2, 0, none⟩) 0 0 ([] : List Int) := Own.ow (by simpa [i64c] using O2) rfl (by omega) (Nat.le_refl _) (by omega) (by intro x hx; rfl)
    refine ov (xassign rfl) rfl rfl rfl ?_
    refine ops_nil ?_
    refine run_seq ?_
    refine run_region ?_
    refine ov (xmove rfl) rfl rfl rfl ?_
    refine oc (xcall Try.call130 rfl) rfl rfl rfl (reached_ok _ _ _ _ _ (H.ext E) (by assumption) (by omega)) ?_
    rintro _ w3 ⟨e3, q12, m12, d12, rfl, G12⟩
    have z3 := e3.size
    have E := E.trans e3
    replace G2 := G2.ext e3
    have lG12 := G12.len
    refine ov (xassign rfl) rfl rfl rfl ?_
    refine ops_nil ?_
    refine run_seq ?_
    refine run_seq ?_
    refine run_region ?_
    refine ov (xmove rfl) rfl rfl rfl ?_
    refine ov (xlen Try.underlying25 rfl) rfl rfl rfl ?_
    refine ov (xmove rfl) rfl rfl rfl ?_
    refine ops_nil ?_
    refine run_block ?_
    refine run_loop (ι := Nat × Option Addr × Nat × Nat × List Int × World) (fun x_ => match x_ with | (k, q_4, m_4, c_4, ys_4, wr) => (Ext w wr) ∧ (Ow i64c 1 2 wr w2.heap.size w3.heap.size q12 m12 d12 (srt (usedL xs))) ∧ (Ow i64c 1 2 wr b2 wr.heap.size q_4 m_4 c_4 ys_4) ∧ (b2 ≤ wr.heap.size) ∧ (w3.heap.size ≤ wr.heap.size) ∧ (k ≤ n) ∧ (ys_4 = unusedTo xs k) ∧ (pb q_4 < w2.heap.size ∨ w3.heap.size ≤ pb q_4)) (fun x_ => match x_ with | (k, q_4, m_4, c_4, ys_4, wr) => [(4, .slice q_4 m_4 c_4), (5, .slice q12 m12 d12), (14, .int .i64 (n : Int)), (15, .int .i64 (k : Int))]) (fun x_ => match x_ with | (k, q_4, m_4, c_4, ys_4, wr) => wr) (fun x_ => match x_ with | (k, q_4, m_4, c_4, ys_4, wr) => n - k) ?_ (0, (some ⟨b2, 0, none⟩), 0, 0, [], w3) (⟨E, G12, G2.wide (by omega) (by omega), by omega, Nat.le_refl _, by omega, rfl, by simp only [pb, Option.getD_some]; omega⟩) ⟨rfl, rfl, rfl, rfl, trivial⟩ rfl
    intro i_ hI_ hback6
    obtain ⟨k, q_4, m_4, c_4, ys_4, wr⟩ := i_
    obtain ⟨E, G12, G_4, lo_4, lz_wr, hk, hy, hsep⟩ := hI_
    try dsimp only
    have zr := E.size
    have lg_4 := G_4.len
    have hul := unusedTo_len xs k
    rw [← hy] at hul
    refine run_seq ?_
    refine run_region ?_
    refine ov (xlss rfl rfl _ rfl) rfl rfl rfl ?_
    refine ods (fun c16 => ?_) (fun c16 => ?_)
    ·
      refine ops_nil ?_
      refine run_seq ?_
      refine run_cond_t rfl ?_
      refine run_skip ?_
      refine run_seq ?_
      refine run_block ?_
      refine run_seq ?_
      refine run_region ?_
      refine ov (xmove rfl) rfl rfl rfl ?_
      refine ov (xassign rfl) rfl rfl rfl ?_
      refine ops_nil ?_
      refine run_seq ?_
      refine run_region ?_
      refine ov (xmove rfl) rfl rfl rfl ?_
      refine ov (xmove rfl) rfl rfl rfl ?_
      refine oc (xcall Try.call131 rfl) rfl rfl rfl (hasI_ok _ _ _ _ ((k : Int)) _ (G12.sl)) ?_
      rintro _ w4 ⟨rfl, e4⟩
      have z4 := e4.size
      have E := E.trans e4
      replace G_4 := G_4.ext e4
      replace G12 := G12.ext e4
      refine obs (fun c20 => ?_) (fun c20 => ?_)
      ·
        refine ov (xnot rfl) rfl rfl rfl ?_
        refine ops_nil ?_
        refine run_cond_f rfl ?_
        refine run_skip ?_
        refine run_inBlock ?_
        refine run_region ?_
        refine ov (xadd rfl rfl (by unfold I64; omega)) rfl rfl rfl ?_
        refine ov (xmove rfl) rfl rfl rfl ?_
        refine ops_nil ?_
        refine run_sub ?_ (hback6 (k + 1, q_4, m_4, c_4, ys_4, w4) (⟨E, G12, G_4.wide (by omega) (by omega), by omega, by omega, by omega, by rw [hasI_srt] at c20; exact unusedTo_f hy c20, hsep⟩) (by first | omega | (dsimp only; omega)))
        exact ⟨rfl, rfl, rfl, rfl, trivial⟩
      ·
        refine ov (xnot rfl) rfl rfl rfl ?_
        refine ops_nil ?_
        refine run_cond_t rfl ?_
        refine run_region ?_
        refine ov (xmove rfl) rfl rfl rfl ?_
        refine ov (xmove rfl) rfl rfl rfl ?_
        refine obuild (cs := [.int .i64 (k : Int)]) (sz := 1) Try.underlying31 inf2 rfl rfl (by decide) rfl rfl (by simp [Value.cells]) rfl rfl rfl ?_
        intro b5 w5 e5 hb5 hz5 O5
        have E := E.trans e5
        replace G_4 := G_4.ext e5
        replace G12 := G12.ext e5
        refine oapp2 (bytes := 8) (nm := (m_4 + 1)) G_4 rfl rfl elem2 (Own.sl1 (y := (k : Int)) O5) (by intro h; cases h) (by intro y hy; rfl) (by intro y hy u hu; rw [List.mem_singleton] at hy; subst hy; revert u; simp [Value.oneCell', i64c]) (by omega) (by omega) (by omega) (by omega) rfl rfl ?_
        intro p6 c6_ w6 m6 k6 hat25 G6
        have hh6 := hend_le q_4
        have hz6 := m6.size
        have E := m6.toExt E (by omega)
        replace G12 := (by first | exact G12.off m6 (by omega) | exact G12.off k6 (by omega))
        try replace O5 := m6.own O5 (by omega)
        refine ov (xassign rfl) rfl rfl rfl ?_
        refine ops_nil ?_
        refine run_inBlock ?_
        refine run_region ?_
        refine ov (xadd rfl rfl (by unfold I64; omega)) rfl rfl rfl ?_
        refine ov (xmove rfl) rfl rfl rfl ?_
        refine ops_nil ?_
        refine run_sub ?_ (hback6 (k + 1, p6, (m_4 + 1), c6_, (ys_4 ++ [(k : Int)]), w6) (⟨E, G12, G6.wide (by omega) (by omega), by omega, by omega, by omega, by rw [hasI_srt] at c20; exact unusedTo_t hy c20, hat25.elim (fun h => by rw [h]; exact hsep) (fun h => by omega)⟩) (by first | omega | (dsimp only; omega)))
        exact ⟨rfl, rfl, rfl, rfl, trivial⟩
    ·
      refine ops_nil ?_
      refine run_seq ?_
      refine run_cond_f rfl ?_
      refine run_exit rfl ?_
      refine run_seq ?_
      refine run_region ?_
      refine ov (xmove rfl) rfl rfl rfl ?_
      refine ov (xassign rfl) rfl rfl rfl ?_
      refine ov (xassign rfl) rfl rfl rfl ?_
      refine ops_nil ?_
      refine run_ret Try.func80 (res2 rfl rfl rfl) ?_
      obtain rfl : k = n := by omega
      have hyy : ys_4 = unusedL xs := by rw [hy, hn]; rfl
      subst hyy
      have he : unusedQ xs = (unusedL xs, 0) := by rw [unusedQ, if_neg (by simp [c8])]
      exact ⟨_, rfl, E, _, _, _, by rw [he], by rw [he]; exact G_4.wide (by omega) (by omega)⟩
  ·
    refine ov (xnot rfl) rfl rfl rfl ?_
    refine ops_nil ?_
    refine run_cond_t rfl ?_
    refine run_seq ?_
    refine run_region ?_
    refine ov (xassign rfl) rfl rfl rfl ?_
    refine ov (xassign rfl) rfl rfl rfl ?_
    refine ops_nil ?_
    refine run_ret Try.func80 (res2 rfl rfl rfl) ?_
    have he : unusedQ xs = ([], 1) := by rw [unusedQ, if_pos c8]
    exact ⟨_, rfl, E, none, 0, 0, by rw [he], by rw [he]; exact Ow.none _ _ _ _ _ _⟩

set_option maxHeartbeats 1000000 in
theorem sUnusedQuestions_ok (p : Option Addr) (n c : Nat) (xs : List Question) (w : World) (H : Sl Question.cells 3 w p n c xs) (hx : ∀ x ∈ xs, x.Label.size ≤ 9223372036854775807) : Ret Try.prog 79 [.slice p n c] w (fun v w' => Ext w w' ∧ ∃ q m d, v = .tuple #[.slice q m d, .int .i64 (unusedQ xs).2] ∧ Ow i64c 1 2 w' w.heap.size w'.heap.size q m d (unusedQ xs).1) := by
  refine ret_of_run (N := 50) Try.func79 rfl rfl rfl ?_
  have hn := H.len
  have hn6 := H.n64
  have E : Ext w w := Ext.refl w
  refine run_seq ?_
  refine run_region ?_
  refine ov (xassign rfl) rfl rfl rfl ?_
  refine ov (xassign rfl) rfl rfl rfl ?_
  refine ops_nil ?_
  refine run_seq ?_
  refine run_seq ?_
  refine run_region ?_
  refine ov (xmove rfl) rfl rfl rfl ?_
  refine oc (xcall Try.call26 rfl) rfl rfl rfl (sIsForm_ok _ _ _ _ _ (H.ext E) (by assumption)) ?_
  rintro _ w1 ⟨rfl, e1⟩
  have z1 := e1.size
  have E := E.trans e1
  refine obs (fun c9 => ?_) (fun c9 => ?_)
  ·
    have hl := isForm_len c9
    refine ov (xnot rfl) rfl rfl rfl ?_
    refine ops_nil ?_
    refine run_cond_f rfl ?_
    refine run_skip ?_
    refine run_seq ?_
    refine run_region ?_
    refine obuild (cs := [.int .i64 0]) (sz := 1) Try.underlying31 inf2 rfl rfl (by decide) rfl rfl (by simp [Value.cells]) rfl rfl rfl ?_
    intro b2 w2 e2 hb2 hz2 O2
    have E := E.trans e2
    have G2 : Ow i64c 1 2 w2 b2 (b2 + 1) (some ⟨b2, 0, none⟩) 1 1 ([0] : List Int) := Own.ow (by simpa [i64c] using O2) rfl (by omega) (Nat.le_refl _) (by omega) (by intro x hx; rfl)
    refine ov (xassign rfl) rfl rfl rfl ?_
    refine ops_nil ?_
    refine run_seq ?_
    refine run_seq ?_
    refine run_region ?_
    refine ov (xassign rfl) rfl rfl rfl ?_
    refine ops_nil ?_
    refine run_block ?_
    refine run_loop (ι := Nat × Option Addr × Nat × Nat × List Int × World) (fun x_ => match x_ with | (k, q_4, m_4, c_4, ys_4, wr) => (Ext w wr) ∧ (Ow i64c 1 2 wr b2 wr.heap.size q_4 m_4 c_4 ys_4) ∧ (b2 ≤ wr.heap.size) ∧ (w2.heap.size ≤ wr.heap.size) ∧ (k ≤ n) ∧ (ys_4 = usedT xs k)) (fun x_ => match x_ with | (k, q_4, m_4, c_4, ys_4, wr) => [(0, .slice p n c), (4, .slice q_4 m_4 c_4), (5, .int .i64 (k : Int))]) (fun x_ => match x_ with | (k, q_4, m_4, c_4, ys_4, wr) => wr) (fun x_ => match x_ with | (k, q_4, m_4, c_4, ys_4, wr) => n - k) ?_ (0, (some ⟨b2, 0, none⟩), 1, 1, [0], w2) (⟨E, G2.wide (by omega) (by omega), by omega, Nat.le_refl _, by omega, rfl⟩) ⟨rfl, rfl, rfl, trivial⟩ rfl
    intro i_ hI_ hback5
    obtain ⟨k, q_4, m_4, c_4, ys_4, wr⟩ := i_
    obtain ⟨E, G_4, lo_4, lz_wr, hk, hy⟩ := hI_
    try dsimp only
    have zr := E.size
    have lg_4 := G_4.len
    have hul := usedT_len xs k
    rw [← hy] at hul
    refine run_seq ?_
    refine run_seq ?_
    refine run_region ?_
    refine ov (xmove rfl) rfl rfl rfl ?_
    refine ov (xmove rfl) rfl rfl rfl ?_
    refine ov (xlen Try.underlying25 rfl) rfl rfl rfl ?_
    refine ov (xlss rfl rfl _ rfl) rfl rfl rfl ?_
    refine ods (fun c15 => ?_) (fun c15 => ?_)
    ·
      refine ops_nil ?_
      refine run_cond_t rfl ?_
      refine run_skip ?_
      refine run_seq ?_
      refine run_block ?_
      refine run_seq ?_
      refine run_region ?_
      refine ov (xmove rfl) rfl rfl rfl ?_
      refine ov (xmove rfl) rfl rfl rfl ?_
      refine oc (xcall Try.call129 rfl) rfl rfl rfl (l01Has_ok _ _ _ _ ((k : Int)) _ (G_4.sl)) ?_
      rintro _ w3 ⟨rfl, e3⟩
      have z3 := e3.size
      have E := E.trans e3
      replace G_4 := G_4.ext e3
      refine obs (fun c20 => ?_) (fun c20 => ?_)
      ·
        refine ops_nil ?_
        refine run_cond_t rfl ?_
        have RE := Ext.refl w
        refine run_heldE E (ι := Option Addr × Nat) (fun x_ w' => match x_ with | (q, d) => Ext w w' ∧ w3.heap.size ≤ w'.heap.size ∧ Ow i64c 1 2 w' b2 w'.heap.size q (m_4 + 2) d (ys_4 ++ [xs[k].Yes, xs[k].No])) (fun x_ => match x_ with | (q, d) => [(0, .slice p n c), (5, .int .i64 (k : Int)), (12, .int .i64 (k : Int)), (13, .slice p n c), (14, .int .i64 (n : Int)), (15, .bool true), (18, .slice q_4 m_4 c_4), (19, .int .i64 (k : Int)), (20, .bool true), (4, .slice q (m_4 + 2) d)]) (by kernel_rfl) ?_ ?_
        · intro w0_ F
          have z0_ := F.size
          have E := E.trans F
          replace G_4 := G_4.ext F
          replace F := E
          refine h_take 0 rfl (by kernel_rfl) (by kernel_rfl) (by kernel_rfl) (fun w' x_ => xmove rfl) rfl rfl rfl F ?_
          refine h_take 1 rfl (by kernel_rfl) (by kernel_rfl) (by kernel_rfl) (fun w' x_ => xmove rfl) rfl rfl rfl F ?_
          refine h_take 2 rfl (by kernel_rfl) (by kernel_rfl) (by kernel_rfl) (fun w' x_ => xmove rfl) rfl rfl rfl F ?_
          have h24 := (H.ext RE).at (i := k) (by omega)
          refine h_take 3 rfl (by kernel_rfl) (by kernel_rfl) (by kernel_rfl) (fun w' x_ => xindexN (i := k) Try.underlying25 Try.sizeOf80 rfl rfl rfl ((H.ext RE).p (i := k) (by omega)) (by have := (H.ext RE).len; omega)) rfl rfl rfl F ?_
          refine h_take 4 rfl (by kernel_rfl) (by kernel_rfl) (by kernel_rfl) (fun w' x_ => xfieldAddr fo80f1 rfl) rfl rfl rfl F ?_
          refine h_take 5 (v := .int .i64 xs[k].Yes) rfl (by kernel_rfl) (by kernel_rfl) (by kernel_rfl) (fun w' x_ => xload1 Try.isAgg2 rfl ((h24).ext x_) rfl) rfl rfl rfl F ?_
          refine h_take 6 rfl (by kernel_rfl) (by kernel_rfl) (by kernel_rfl) (fun w' x_ => xmove rfl) rfl rfl rfl F ?_
          refine h_take 7 rfl (by kernel_rfl) (by kernel_rfl) (by kernel_rfl) (fun w' x_ => xmove rfl) rfl rfl rfl F ?_
          have h29 := (H.ext RE).at (i := k) (by omega)
          refine h_take 8 rfl (by kernel_rfl) (by kernel_rfl) (by kernel_rfl) (fun w' x_ => xindexN (i := k) Try.underlying25 Try.sizeOf80 rfl rfl rfl ((H.ext RE).p (i := k) (by omega)) (by have := (H.ext RE).len; omega)) rfl rfl rfl F ?_
          refine h_take 9 rfl (by kernel_rfl) (by kernel_rfl) (by kernel_rfl) (fun w' x_ => xfieldAddr fo80f2 rfl) rfl rfl rfl F ?_
          refine h_take 10 (v := .int .i64 xs[k].No) rfl (by kernel_rfl) (by kernel_rfl) (by kernel_rfl) (fun w' x_ => xload1 Try.isAgg2 rfl ((h29).ext x_) rfl) rfl rfl rfl F ?_
          refine h_ready (rs := [11]) (by kernel_rfl) (by decide) ⟨?_, trivial⟩
          ·
            refine hs_build (len := 2) (vs := [.int .i64 xs[k].Yes, .int .i64 xs[k].No]) (cs := [.int .i64 xs[k].Yes, .int .i64 xs[k].No]) (sz := 1) Try.underlying31 inf2 rfl rfl (by decide) (by rfl) (by rfl) (by simp [Value.cells]) rfl F rfl rfl rfl ?_
            intro b4 w4 e4 hb4 hz4 O4
            have E := E.trans e4
            replace G_4 := G_4.ext e4
            have G4 : Ow i64c 1 2 w4 b4 (b4 + 1) (some ⟨b4, 0, none⟩) 2 2 ([xs[k].Yes, xs[k].No] : List Int) := Own.ow (by simpa [i64c] using O4) rfl (by omega) (Nat.le_refl _) (by omega) (by intro x hx; rfl)
            have F := F.trans e4
            refine h_ready (rs := [12]) (by kernel_rfl) (by decide) ⟨?_, trivial⟩
            ·
              refine hs_app (bytes := 8) (nm := (m_4 + 2)) G_4 (by rfl) (by rfl) elem2 (G4.sl) (ow_nil G4) (by intro y hy; rfl) (by intro y hy u hu; simp only [i64c, List.mem_singleton] at hu; subst hu; rfl) (by omega) (by omega) (by omega) (by omega) F (by omega) rfl rfl rfl ?_
              intro p5 c5_ w5 m5 G5
              have hz5 := m5.size
              have E := m5.toExt E (by omega)
              have F := m5.toExt F (by omega)
              replace G4 := G4.off m5 (by omega)
              refine h_take 13 rfl (by kernel_rfl) (by kernel_rfl) (by kernel_rfl) (fun w' x_ => xassign rfl) rfl rfl rfl F ?_
              refine h_done (by kernel_rfl) ?_
              intro a_ ha_
              exact ⟨(p5, c5_), ⟨F, ⟨by omega, G5.wide (by omega) (by omega)⟩⟩, ha_.sub ⟨rfl, rfl, rfl, rfl, rfl, rfl, rfl, rfl, rfl, rfl, trivial⟩⟩
        · intro x_
          obtain ⟨q, d⟩ := x_
          rintro w4 ⟨e4, hz8_, G8_⟩
          have z4 := e4.size
          replace E := e4
          refine run_inBlock ?_
          refine run_region ?_
          refine ov (xmove rfl) rfl rfl rfl ?_
          refine ov (xadd rfl rfl (by unfold I64; omega)) rfl rfl rfl ?_
          refine ov (xassign rfl) rfl rfl rfl ?_
          refine ops_nil ?_
          refine run_sub ?_ (hback5 (k + 1, q, (m_4 + 2), d, (ys_4 ++ [xs[k].Yes, xs[k].No]), w4) (⟨E, G8_.wide (by omega) (by omega), by omega, by omega, by omega, by rw [usedT_t (by omega) (by rw [← hy]; exact c20), ← hy]⟩) (by first | omega | (dsimp only; omega)))
          exact ⟨rfl, rfl, rfl, trivial⟩
      ·
        refine ops_nil ?_
        refine run_cond_f rfl ?_
        refine run_skip ?_
        refine run_inBlock ?_
        refine run_region ?_
        refine ov (xmove rfl) rfl rfl rfl ?_
        refine ov (xadd rfl rfl (by unfold I64; omega)) rfl rfl rfl ?_
        refine ov (xassign rfl) rfl rfl rfl ?_
        refine ops_nil ?_
        refine run_sub ?_ (hback5 (k + 1, q_4, m_4, c_4, ys_4, w3) (⟨E, G_4.wide (by omega) (by omega), by omega, by omega, by omega, by rw [usedT_f (by omega) (by rw [← hy]; exact c20)]; exact hy⟩) (by first | omega | (dsimp only; omega)))
        exact ⟨rfl, rfl, rfl, trivial⟩
    ·
      refine ops_nil ?_
      refine run_cond_f rfl ?_
      refine run_exit rfl ?_
      refine run_seq ?_
      refine run_region ?_
      refine obuild (cs := []) (sz := 1) Try.underlying31 inf2 rfl rfl (by decide) rfl rfl (by simp [Value.cells]) rfl rfl rfl ?_
      intro b3 w3 e3 hb3 hz3 O3
      have E := E.trans e3
      replace G_4 := G_4.ext e3
      have G3 : Ow i64c 1 2 w3 b3 (b3 + 1) (some ⟨b3, 0, none⟩) 0 0 ([] : List Int) := Own.ow (by simpa [i64c] using O3) rfl (by omega) (Nat.le_refl _) (by omega) (by intro x hx; rfl)
      refine ov (xassign rfl) rfl rfl rfl ?_
      refine ops_nil ?_
      refine run_seq ?_
      refine run_seq ?_
      refine run_region ?_
      refine ov (xassign rfl) rfl rfl rfl ?_
      refine ops_nil ?_
      refine run_block ?_
      refine run_loop (ι := Nat × Option Addr × Nat × Nat × List Int × World) (fun x_ => match x_ with | (i, q_6, m_6, c_6, ys_6, wr2) => (Ext w wr2) ∧ (Ow i64c 1 2 wr2 b2 wr.heap.size q_4 m_4 c_4 ys_4) ∧ (Ow i64c 1 2 wr2 b3 wr2.heap.size q_6 m_6 c_6 ys_6) ∧ (b3 ≤ wr2.heap.size) ∧ (w3.heap.size ≤ wr2.heap.size) ∧ (i ≤ n) ∧ (ys_6 = unusedTo xs i)) (fun x_ => match x_ with | (i, q_6, m_6, c_6, ys_6, wr2) => [(0, .slice p n c), (4, .slice q_4 m_4 c_4), (6, .slice q_6 m_6 c_6), (7, .int .i64 (i : Int))]) (fun x_ => match x_ with | (i, q_6, m_6, c_6, ys_6, wr2) => wr2) (fun x_ => match x_ with | (i, q_6, m_6, c_6, ys_6, wr2) => n - i) ?_ (0, (some ⟨b3, 0, none⟩), 0, 0, [], w3) (⟨E, G_4, G3.wide (by omega) (by omega), by omega, Nat.le_refl _, by omega, rfl⟩) ⟨rfl, rfl, rfl, rfl, trivial⟩ rfl
      intro i_ hI_ hback11
      obtain ⟨i, q_6, m_6, c_6, ys_6, wr2⟩ := i_
      obtain ⟨E, G_4, G_6, lo_6, lz_wr2, hi, hy6⟩ := hI_
      try dsimp only
      have zr := E.size
      have lg_6 := G_6.len
      have hul := unusedTo_len xs i
      rw [← hy6] at hul
      have hyu : ys_4 = usedL xs := by rw [hy, usedL, ← hn]; congr 1; omega
      refine run_seq ?_
      refine run_seq ?_
      refine run_region ?_
      refine ov (xmove rfl) rfl rfl rfl ?_
      refine ov (xmove rfl) rfl rfl rfl ?_
      refine ov (xlen Try.underlying25 rfl) rfl rfl rfl ?_
      refine ov (xlss rfl rfl _ rfl) rfl rfl rfl ?_
      refine ods (fun c38 => ?_) (fun c38 => ?_)
      ·
        refine ops_nil ?_
        refine run_cond_t rfl ?_
        refine run_skip ?_
        refine run_seq ?_
        refine run_block ?_
        refine run_seq ?_
        refine run_region ?_
        refine ov (xmove rfl) rfl rfl rfl ?_
        refine ov (xmove rfl) rfl rfl rfl ?_
        refine oc (xcall Try.call129 rfl) rfl rfl rfl (l01Has_ok _ _ _ _ ((i : Int)) _ (G_4.sl)) ?_
        rintro _ w4 ⟨rfl, e4⟩
        have z4 := e4.size
        have E := E.trans e4
        replace G_6 := G_6.ext e4
        replace G_4 := G_4.ext e4
        refine obs (fun c43 => ?_) (fun c43 => ?_)
        ·
          refine ov (xnot rfl) rfl rfl rfl ?_
          refine ops_nil ?_
          refine run_cond_f rfl ?_
          refine run_skip ?_
          refine run_inBlock ?_
          refine run_region ?_
          refine ov (xmove rfl) rfl rfl rfl ?_
          refine ov (xadd rfl rfl (by unfold I64; omega)) rfl rfl rfl ?_
          refine ov (xassign rfl) rfl rfl rfl ?_
          refine ops_nil ?_
          refine run_sub ?_ (hback11 (i + 1, q_6, m_6, c_6, ys_6, w4) (⟨E, G_4, G_6.wide (by omega) (by omega), by omega, by omega, by omega, by rw [hyu] at c43; exact unusedTo_f hy6 c43⟩) (by first | omega | (dsimp only; omega)))
          exact ⟨rfl, rfl, rfl, rfl, trivial⟩
        ·
          refine ov (xnot rfl) rfl rfl rfl ?_
          refine ops_nil ?_
          refine run_cond_t rfl ?_
          refine run_region ?_
          refine ov (xmove rfl) rfl rfl rfl ?_
          refine ov (xmove rfl) rfl rfl rfl ?_
          refine obuild (cs := [.int .i64 (i : Int)]) (sz := 1) Try.underlying31 inf2 rfl rfl (by decide) rfl rfl (by simp [Value.cells]) rfl rfl rfl ?_
          intro b5 w5 e5 hb5 hz5 O5
          have E := E.trans e5
          replace G_6 := G_6.ext e5
          replace G_4 := G_4.ext e5
          refine oapp (bytes := 8) (nm := (m_6 + 1)) G_6 rfl rfl elem2 (Own.sl1 (y := (i : Int)) O5) (by intro h; cases h) (by intro y hy; rfl) (by intro y hy u hu; rw [List.mem_singleton] at hy; subst hy; revert u; simp [Value.oneCell', i64c]) (by omega) (by omega) (by omega) (by omega) rfl rfl ?_
          intro p6 c6_ w6 m6 G6
          have hz6 := m6.size
          have E := m6.toExt E (by omega)
          replace G_4 := G_4.off m6 (by omega)
          try replace O5 := m6.own O5 (by omega)
          refine ov (xassign rfl) rfl rfl rfl ?_
          refine ops_nil ?_
          refine run_inBlock ?_
          refine run_region ?_
          refine ov (xmove rfl) rfl rfl rfl ?_
          refine ov (xadd rfl rfl (by unfold I64; omega)) rfl rfl rfl ?_
          refine ov (xassign rfl) rfl rfl rfl ?_
          refine ops_nil ?_
          refine run_sub ?_ (hback11 (i + 1, p6, (m_6 + 1), c6_, (ys_6 ++ [(i : Int)]), w6) (⟨E, G_4, G6.wide (by omega) (by omega), by omega, by omega, by omega, by rw [hyu] at c43; exact unusedTo_t hy6 c43⟩) (by first | omega | (dsimp only; omega)))
          exact ⟨rfl, rfl, rfl, rfl, trivial⟩
      ·
        refine ops_nil ?_
        refine run_cond_f rfl ?_
        refine run_exit rfl ?_
        refine run_seq ?_
        refine run_region ?_
        refine ov (xmove rfl) rfl rfl rfl ?_
        refine ov (xassign rfl) rfl rfl rfl ?_
        refine ov (xassign rfl) rfl rfl rfl ?_
        refine ops_nil ?_
        refine run_ret Try.func79 (res2 rfl rfl rfl) ?_
        obtain rfl : i = n := by omega
        have hyy : ys_6 = unusedL xs := by rw [hy6, hn]; rfl
        subst hyy
        have he : unusedQ xs = (unusedL xs, 0) := by rw [unusedQ, if_neg (by simp [c9])]
        exact ⟨_, rfl, E, _, _, _, by rw [he], by rw [he]; exact G_6.wide (by omega) (by omega)⟩
  ·
    refine ov (xnot rfl) rfl rfl rfl ?_
    refine ops_nil ?_
    refine run_cond_t rfl ?_
    refine run_seq ?_
    refine run_region ?_
    refine ov (xassign rfl) rfl rfl rfl ?_
    refine ov (xassign rfl) rfl rfl rfl ?_
    refine ops_nil ?_
    refine run_ret Try.func79 (res2 rfl rfl rfl) ?_
    have he : unusedQ xs = ([], 1) := by rw [unusedQ, if_pos c9]
    exact ⟨_, rfl, E, none, 0, 0, by rw [he], by rw [he]; exact Ow.none _ _ _ _ _ _⟩

set_option maxHeartbeats 1000000 in
theorem VerdictsOf_ok (p : Option Addr) (n c : Nat) (xs : List Question) (w : World) (H : Sl Question.cells 3 w p n c xs) (hx : ∀ x ∈ xs, x.Label.size ≤ 9223372036854775807) : Ret Try.prog 82 [.slice p n c] w (fun v w' => Ext w w' ∧ ∃ q m d, v = .tuple #[.slice q m d, .int .i64 (verdictsOf xs).2] ∧ Ow i64c 1 2 w' w.heap.size w'.heap.size q m d (verdictsOf xs).1) := by
  refine ret_of_run (N := 10) Try.func82 rfl rfl rfl ?_
  have hn := H.len
  have hn6 := H.n64
  have E : Ext w w := Ext.refl w
  refine run_seq ?_
  refine run_region ?_
  refine ov (xassign rfl) rfl rfl rfl ?_
  refine ov (xassign rfl) rfl rfl rfl ?_
  refine ops_nil ?_
  refine run_seq ?_
  refine run_seq ?_
  refine run_region ?_
  refine ov (xmove rfl) rfl rfl rfl ?_
  refine oc (xcall Try.call28 rfl) rfl rfl rfl (IsForm_ok _ _ _ _ _ (H.ext E) (by assumption)) ?_
  rintro _ w1 ⟨rfl, e1⟩
  have z1 := e1.size
  have E := E.trans e1
  refine obs (fun c5 => ?_) (fun c5 => ?_)
  ·
    have hl := isForm_len c5
    have hsp := srt_pos xs
    have hsl := srt_len (usedL xs)
    have hul := usedT_len xs xs.length
    have hue : (usedL xs).length = (usedT xs xs.length).length := rfl
    refine ov (xnot rfl) rfl rfl rfl ?_
    refine ops_nil ?_
    refine run_cond_f rfl ?_
    refine run_skip ?_
    refine run_seq ?_
    refine run_region ?_
    refine ov (xmove rfl) rfl rfl rfl ?_
    refine oc (xcall Try.call130 rfl) rfl rfl rfl (reached_ok _ _ _ _ _ (H.ext E) (by assumption) (by omega)) ?_
    rintro _ w2 ⟨e2, q8, m8, d8, rfl, G8⟩
    have z2 := e2.size
    have E := E.trans e2
    have lG8 := G8.len
    refine oc (xcall Try.call133 rfl) rfl rfl rfl (delete_ok _ _ _ _ _ _ _ G8 (by omega) (by omega)) ?_
    rintro _ w3 ⟨mz, rfl, hmz, m3, g3⟩
    have z3 := m3.size
    have E := m3.toExt E (by omega)
    replace G8 := g3
    refine ov (xassign rfl) rfl rfl rfl ?_
    refine ov (xassign rfl) rfl rfl rfl ?_
    refine ops_nil ?_
    refine run_ret Try.func82 (res2 rfl rfl rfl) ?_
    have he : verdictsOf xs = (negs (srt (usedL xs)), 0) := by rw [verdictsOf, if_neg (by simp [c5])]
    exact ⟨_, rfl, E, _, _, _, by rw [he], by rw [he]; exact G8.wide (by omega) (by omega)⟩
  ·
    refine ov (xnot rfl) rfl rfl rfl ?_
    refine ops_nil ?_
    refine run_cond_t rfl ?_
    refine run_seq ?_
    refine run_region ?_
    refine ov (xassign rfl) rfl rfl rfl ?_
    refine ov (xassign rfl) rfl rfl rfl ?_
    refine ops_nil ?_
    refine run_ret Try.func82 (res2 rfl rfl rfl) ?_
    have he : verdictsOf xs = ([], 1) := by rw [verdictsOf, if_pos c5]
    exact ⟨_, rfl, E, none, 0, 0, by rw [he], by rw [he]; exact Ow.none _ _ _ _ _ _⟩

set_option maxHeartbeats 1000000 in
theorem l07Insert_ok (p : Option Addr) (n c : Nat) (xs : List Int) (x : Int) (lo hi : Nat) (w : World) (G : Ow i64c 1 2 w lo hi p n c xs) (hh : hi ≤ w.heap.size) (hn2 : n ≤ 1000000) (hlo : lo ≤ w.heap.size) : Ret Try.prog 132 [.slice p n c, .int .i64 x] w (fun v w' => Ext w w' ∧ ∃ q m d, v = .slice q m d ∧ Ow i64c 1 2 w' lo w'.heap.size q m d (insI xs x)) := by
  refine ret_of_run (N := 45) Try.func132 rfl rfl rfl ?_
  have hn := G.len
  have E : Ext w w := Ext.refl w
  refine run_seq ?_
  refine run_region ?_
  refine ov (xassign rfl) rfl rfl rfl ?_
  refine ops_nil ?_
  refine run_seq ?_
  refine run_region ?_
  refine ov (xassign rfl) rfl rfl rfl ?_
  refine ops_nil ?_
  refine run_seq ?_
  refine run_block ?_
  refine run_loop (ι := Nat × World) (fun x_ => match x_ with | (k, wr) => (Ext w wr) ∧ (Ow i64c 1 2 wr lo hi p n c xs) ∧ (w.heap.size ≤ wr.heap.size) ∧ (k ≤ n) ∧ (∀ j (hj : j < xs.length), j < k → xs[j] < x)) (fun x_ => match x_ with | (k, wr) => [(0, .slice p n c), (1, .int .i64 x), (5, .int .i64 (k : Int))]) (fun x_ => match x_ with | (k, wr) => wr) (fun x_ => match x_ with | (k, wr) => n - k) ?_ (0, w) (⟨E, G, Nat.le_refl _, by omega, fun j hj h => absurd h (Nat.not_lt_zero j)⟩) ⟨rfl, rfl, rfl, trivial⟩ rfl
  intro i_ hI_ hback2
  obtain ⟨k, wr⟩ := i_
  obtain ⟨E, G, lz_wr, hk, ha⟩ := hI_
  try dsimp only
  have zr := E.size
  refine run_seq ?_
  refine run_seq ?_
  refine run_region ?_
  refine ov (xmove rfl) rfl rfl rfl ?_
  refine ov (xmove rfl) rfl rfl rfl ?_
  refine ov (xlen Try.underlying31 rfl) rfl rfl rfl ?_
  refine ov (xlss rfl rfl _ rfl) rfl rfl rfl ?_
  refine ods (fun c9 => ?_) (fun c9 => ?_)
  ·
    refine ov (xmove rfl) rfl rfl rfl ?_
    refine ov (xmove rfl) rfl rfl rfl ?_
    refine ov (xmove rfl) rfl rfl rfl ?_
    have h13 := (G.sl).at (i := k) (by omega)
    refine ov (xindexN (i := k) Try.underlying31 Try.sizeOf2 rfl rfl rfl ((G.sl).p (i := k) (by omega)) (by have := (G.sl).len; omega)) rfl rfl rfl ?_
    refine ov (v := .int .i64 xs[k]) (xloadz Try.isAgg2 rfl (h13) rfl) rfl rfl rfl ?_
    refine ov (xmove rfl) rfl rfl rfl ?_
    refine ov (xlss rfl rfl _ rfl) rfl rfl rfl ?_
    refine ods (fun c16 => ?_) (fun c16 => ?_)
    ·
      refine ov (xpick_t rfl rfl) rfl rfl rfl ?_
      refine ops_nil ?_
      refine run_cond_t rfl ?_
      refine run_skip ?_
      refine run_block ?_
      refine run_region ?_
      refine ov (xmove rfl) rfl rfl rfl ?_
      refine ov (xadd rfl rfl (by unfold I64; omega)) rfl rfl rfl ?_
      refine ov (xassign rfl) rfl rfl rfl ?_
      refine ops_nil ?_
      refine run_inBlock ?_
      refine run_sub ?_ (hback2 (k + 1, wr) (⟨E, G, by omega, by omega, below_succ (q := fun y => y < x) ha (fun _ => by omega)⟩) (by first | omega | (dsimp only; omega)))
      exact ⟨rfl, rfl, rfl, trivial⟩
    ·
      refine ov (xpick_t rfl rfl) rfl rfl rfl ?_
      refine ops_nil ?_
      refine run_cond_f rfl ?_
      refine run_exit rfl ?_
      refine run_seq ?_
      refine run_seq ?_
      refine run_region ?_
      have hins : (∀ h : k < xs.length, ¬ xs[k] < x) → insI xs x = if ∃ h : k < xs.length, xs[k] = x then xs else xs.take k ++ x :: xs.drop k := fun h => insI_at (by omega) ha h
      refine ov (xmove rfl) rfl rfl rfl ?_
      refine ov (xmove rfl) rfl rfl rfl ?_
      refine ov (xlen Try.underlying31 rfl) rfl rfl rfl ?_
      refine ov (xlss rfl rfl _ rfl) rfl rfl rfl ?_
      refine ods (fun c23 => ?_) (fun c23 => ?_)
      ·
        refine ov (xmove rfl) rfl rfl rfl ?_
        refine ov (xmove rfl) rfl rfl rfl ?_
        refine ov (xmove rfl) rfl rfl rfl ?_
        have h27 := (G.sl).at (i := k) (by omega)
        refine ov (xindexN (i := k) Try.underlying31 Try.sizeOf2 rfl rfl rfl ((G.sl).p (i := k) (by omega)) (by have := (G.sl).len; omega)) rfl rfl rfl ?_
        refine ov (v := .int .i64 xs[k]) (xloadz Try.isAgg2 rfl (h27) rfl) rfl rfl rfl ?_
        refine ov (xmove rfl) rfl rfl rfl ?_
        refine ov (xeql rfl rfl _ rfl) rfl rfl rfl ?_
        refine ods (fun c30 => ?_) (fun c30 => ?_)
        ·
          refine ov (xpick_t rfl rfl) rfl rfl rfl ?_
          refine ops_nil ?_
          refine run_cond_t rfl ?_
          refine run_seq ?_
          refine run_region ?_
          refine ov (xmove rfl) rfl rfl rfl ?_
          refine ov (xassign rfl) rfl rfl rfl ?_
          refine ops_nil ?_
          refine run_ret Try.func132 (res1 rfl rfl) ?_
          have he : insI xs x = xs := by rw [hins (fun h => by omega), if_pos ⟨by omega, by omega⟩]
          exact ⟨_, rfl, E, _, _, _, rfl, by rw [he]; exact G.wide (by omega) (by omega)⟩
        ·
          refine ov (xpick_t rfl rfl) rfl rfl rfl ?_
          refine ops_nil ?_
          refine run_cond_f rfl ?_
          refine run_skip ?_
          refine run_seq ?_
          have RE := E
          refine run_held (ι := Option Addr × Nat) (fun x_ w' => match x_ with | (q, d) => Ext wr w' ∧ Ow i64c 1 2 w' wr.heap.size w'.heap.size q (k + 1 + (n - k)) d (xs.take k ++ [x] ++ xs.drop k)) (fun x_ => match x_ with | (q, d) => [(4, .slice q (k + 1 + (n - k)) d)]) (by kernel_rfl) ?_ ?_
          · intro w0_ F
            have z0_ := F.size
            have E := E.trans F
            replace G := G.ext F
            refine h_take 1 rfl (by kernel_rfl) (by kernel_rfl) (by kernel_rfl) (fun w' x_ => xmove rfl) rfl rfl rfl F ?_
            refine h_take 2 rfl (by kernel_rfl) (by kernel_rfl) (by kernel_rfl) (fun w' x_ => xmove rfl) rfl rfl rfl F ?_
            refine h_take 3 rfl (by kernel_rfl) (by kernel_rfl) (by kernel_rfl) (fun w' x_ => xslice_h (k := k) Try.underlying31 Try.sizeOf2 rfl rfl rfl (by have := (G.sl).cap; omega)) rfl rfl rfl F ?_
            refine h_take 5 rfl (by kernel_rfl) (by kernel_rfl) (by kernel_rfl) (fun w' x_ => xmove rfl) rfl rfl rfl F ?_
            refine h_take 8 rfl (by kernel_rfl) (by kernel_rfl) (by kernel_rfl) (fun w' x_ => xmove rfl) rfl rfl rfl F ?_
            refine h_take 9 rfl (by kernel_rfl) (by kernel_rfl) (by kernel_rfl) (fun w' x_ => xmove rfl) rfl rfl rfl F ?_
            refine h_take 10 rfl (by kernel_rfl) (by kernel_rfl) (by kernel_rfl) (fun w' x_ => xslice_l (k := k) Try.underlying31 Try.sizeOf2 rfl rfl rfl (by omega)) rfl rfl rfl F ?_
            refine h_ready (rs := [0, 6]) (by kernel_rfl) (by decide) ⟨?_, ?_, trivial⟩
            ·
              refine hs_build (len := 0) (vs := []) (cs := []) (sz := 1) Try.underlying31 inf2 rfl rfl (by decide) (by rfl) (by rfl) (by simp [Value.cells]) rfl F rfl rfl rfl ?_
              intro b1 w1 e1 hb1 hz1 O1
              have E := E.trans e1
              replace G := G.ext e1
              have G1 : Ow i64c 1 2 w1 b1 (b1 + 1) (some ⟨b1, 0, none⟩) 0 0 ([] : List Int) := Own.ow (by simpa [i64c] using O1) rfl (by omega) (Nat.le_refl _) (by omega) (by intro x hx; rfl)
              have F := F.trans e1
              refine h_ready (rs := [4, 6]) (by kernel_rfl) (by decide) ⟨?_, ?_, trivial⟩
              ·
                refine hs_app (bytes := 8) (nm := k) G1 (by rfl) (by rfl) elem2 ((G.sl).take (k := k) (by omega)) ((G.sl).take (k := k) (by omega)).nil (by intro y hy; rfl) (by intro y hy u hu; simp only [i64c, List.mem_singleton] at hu; subst hu; rfl) (by omega) (by omega) (by omega) (by omega) F (by omega) rfl rfl rfl ?_
                intro p2 c2_ w2 m2 G2
                have hz2 := m2.size
                have E := m2.toExt E (by omega)
                have F := m2.toExt F (by omega)
                replace G := G.off m2 (by omega)
                refine h_ready (rs := [6]) (by kernel_rfl) (by decide) ⟨?_, trivial⟩
                ·
                  refine hs_build (len := 1) (vs := [.int .i64 x]) (cs := [.int .i64 x]) (sz := 1) Try.underlying31 inf2 rfl rfl (by decide) (by rfl) (by rfl) (by simp [Value.cells]) rfl F rfl rfl rfl ?_
                  intro b3 w3 e3 hb3 hz3 O3
                  have E := E.trans e3
                  replace G := G.ext e3
                  replace G2 := G2.ext e3
                  have F := F.trans e3
                  refine h_ready (rs := [7]) (by kernel_rfl) (by decide) ⟨?_, trivial⟩
                  ·
                    refine hs_app (bytes := 8) (nm := (k + 1)) G2 (by rfl) (by rfl) elem2 (Own.sl1 (y := x) O3) (by intro h; cases h) (by intro y hy; rfl) (by intro y hy u hu; rw [List.mem_singleton] at hy; subst hy; revert u; simp [Value.oneCell', i64c]) (by omega) (by omega) (by omega) (by omega) F (by omega) rfl rfl rfl ?_
                    intro p4 c4_ w4 m4 G4
                    have hz4 := m4.size
                    have E := m4.toExt E (by omega)
                    have F := m4.toExt F (by omega)
                    replace G := G.off m4 (by omega)
                    try replace O3 := m4.own O3 (by omega)
                    refine h_ready (rs := [11]) (by kernel_rfl) (by decide) ⟨?_, trivial⟩
                    ·
                      refine hs_app (bytes := 8) (nm := ((k + 1) + (n - k))) G4 (by rfl) (by rfl) elem2 ((G.sl).drop (k := k) (by omega)) ((G.sl).drop (k := k) (by omega)).nil (by intro y hy; rfl) (by intro y hy u hu; simp only [i64c, List.mem_singleton] at hu; subst hu; rfl) (by omega) (by omega) (by omega) (by omega) F (by omega) rfl rfl rfl ?_
                      intro p5 c5_ w5 m5 G5
                      have hz5 := m5.size
                      have E := m5.toExt E (by omega)
                      have F := m5.toExt F (by omega)
                      replace G := G.off m5 (by omega)
                      try replace O3 := m5.own O3 (by omega)
                      refine h_take 12 rfl (by kernel_rfl) (by kernel_rfl) (by kernel_rfl) (fun w' x_ => xassign rfl) rfl rfl rfl F ?_
                      refine h_done (by kernel_rfl) ?_
                      intro a_ ha_
                      exact ⟨(p5, c5_), ⟨F, (by simpa using G5.wide (by omega) (by omega))⟩, ha_.sub ⟨rfl, trivial⟩⟩
              ·
                refine hs_build (len := 1) (vs := [.int .i64 x]) (cs := [.int .i64 x]) (sz := 1) Try.underlying31 inf2 rfl rfl (by decide) (by rfl) (by rfl) (by simp [Value.cells]) rfl F rfl rfl rfl ?_
                intro b2 w2 e2 hb2 hz2 O2
                have E := E.trans e2
                replace G := G.ext e2
                replace G1 := G1.ext e2
                have F := F.trans e2
                refine h_ready (rs := [4]) (by kernel_rfl) (by decide) ⟨?_, trivial⟩
                ·
                  refine hs_app (bytes := 8) (nm := k) G1 (by rfl) (by rfl) elem2 ((G.sl).take (k := k) (by omega)) ((G.sl).take (k := k) (by omega)).nil (by intro y hy; rfl) (by intro y hy u hu; simp only [i64c, List.mem_singleton] at hu; subst hu; rfl) (by omega) (by omega) (by omega) (by omega) F (by omega) rfl rfl rfl ?_
                  intro p3 c3_ w3 m3 G3
                  have hz3 := m3.size
                  have E := m3.toExt E (by omega)
                  have F := m3.toExt F (by omega)
                  replace G := G.off m3 (by omega)
                  try replace O2 := m3.own O2 (by omega)
                  refine h_ready (rs := [7]) (by kernel_rfl) (by decide) ⟨?_, trivial⟩
                  ·
                    refine hs_app (bytes := 8) (nm := (k + 1)) G3 (by rfl) (by rfl) elem2 (Own.sl1 (y := x) O2) (by intro h; cases h) (by intro y hy; rfl) (by intro y hy u hu; rw [List.mem_singleton] at hy; subst hy; revert u; simp [Value.oneCell', i64c]) (by omega) (by omega) (by omega) (by omega) F (by omega) rfl rfl rfl ?_
                    intro p4 c4_ w4 m4 G4
                    have hz4 := m4.size
                    have E := m4.toExt E (by omega)
                    have F := m4.toExt F (by omega)
                    replace G := G.off m4 (by omega)
                    try replace O2 := m4.own O2 (by omega)
                    refine h_ready (rs := [11]) (by kernel_rfl) (by decide) ⟨?_, trivial⟩
                    ·
                      refine hs_app (bytes := 8) (nm := ((k + 1) + (n - k))) G4 (by rfl) (by rfl) elem2 ((G.sl).drop (k := k) (by omega)) ((G.sl).drop (k := k) (by omega)).nil (by intro y hy; rfl) (by intro y hy u hu; simp only [i64c, List.mem_singleton] at hu; subst hu; rfl) (by omega) (by omega) (by omega) (by omega) F (by omega) rfl rfl rfl ?_
                      intro p5 c5_ w5 m5 G5
                      have hz5 := m5.size
                      have E := m5.toExt E (by omega)
                      have F := m5.toExt F (by omega)
                      replace G := G.off m5 (by omega)
                      try replace O2 := m5.own O2 (by omega)
                      refine h_take 12 rfl (by kernel_rfl) (by kernel_rfl) (by kernel_rfl) (fun w' x_ => xassign rfl) rfl rfl rfl F ?_
                      refine h_done (by kernel_rfl) ?_
                      intro a_ ha_
                      exact ⟨(p5, c5_), ⟨F, (by simpa using G5.wide (by omega) (by omega))⟩, ha_.sub ⟨rfl, trivial⟩⟩
            ·
              refine hs_build (len := 1) (vs := [.int .i64 x]) (cs := [.int .i64 x]) (sz := 1) Try.underlying31 inf2 rfl rfl (by decide) (by rfl) (by rfl) (by simp [Value.cells]) rfl F rfl rfl rfl ?_
              intro b1 w1 e1 hb1 hz1 O1
              have E := E.trans e1
              replace G := G.ext e1
              have F := F.trans e1
              refine h_ready (rs := [0]) (by kernel_rfl) (by decide) ⟨?_, trivial⟩
              ·
                refine hs_build (len := 0) (vs := []) (cs := []) (sz := 1) Try.underlying31 inf2 rfl rfl (by decide) (by rfl) (by rfl) (by simp [Value.cells]) rfl F rfl rfl rfl ?_
                intro b2 w2 e2 hb2 hz2 O2
                have E := E.trans e2
                replace G := G.ext e2
                replace O1 := O1.ext e2
                have G2 : Ow i64c 1 2 w2 b2 (b2 + 1) (some ⟨b2, 0, none⟩) 0 0 ([] : List Int) := Own.ow (by simpa [i64c] using O2) rfl (by omega) (Nat.le_refl _) (by omega) (by intro x hx; rfl)
                have F := F.trans e2
                refine h_ready (rs := [4]) (by kernel_rfl) (by decide) ⟨?_, trivial⟩
                ·
                  refine hs_app (bytes := 8) (nm := k) G2 (by rfl) (by rfl) elem2 ((G.sl).take (k := k) (by omega)) ((G.sl).take (k := k) (by omega)).nil (by intro y hy; rfl) (by intro y hy u hu; simp only [i64c, List.mem_singleton] at hu; subst hu; rfl) (by omega) (by omega) (by omega) (by omega) F (by omega) rfl rfl rfl ?_
                  intro p3 c3_ w3 m3 G3
                  have hz3 := m3.size
                  have E := m3.toExt E (by omega)
                  have F := m3.toExt F (by omega)
                  replace G := G.off m3 (by omega)
                  try replace O1 := m3.own O1 (by omega)
                  refine h_ready (rs := [7]) (by kernel_rfl) (by decide) ⟨?_, trivial⟩
                  ·
                    refine hs_app (bytes := 8) (nm := (k + 1)) G3 (by rfl) (by rfl) elem2 (Own.sl1 (y := x) O1) (by intro h; cases h) (by intro y hy; rfl) (by intro y hy u hu; rw [List.mem_singleton] at hy; subst hy; revert u; simp [Value.oneCell', i64c]) (by omega) (by omega) (by omega) (by omega) F (by omega) rfl rfl rfl ?_
                    intro p4 c4_ w4 m4 G4
                    have hz4 := m4.size
                    have E := m4.toExt E (by omega)
                    have F := m4.toExt F (by omega)
                    replace G := G.off m4 (by omega)
                    try replace O1 := m4.own O1 (by omega)
                    refine h_ready (rs := [11]) (by kernel_rfl) (by decide) ⟨?_, trivial⟩
                    ·
                      refine hs_app (bytes := 8) (nm := ((k + 1) + (n - k))) G4 (by rfl) (by rfl) elem2 ((G.sl).drop (k := k) (by omega)) ((G.sl).drop (k := k) (by omega)).nil (by intro y hy; rfl) (by intro y hy u hu; simp only [i64c, List.mem_singleton] at hu; subst hu; rfl) (by omega) (by omega) (by omega) (by omega) F (by omega) rfl rfl rfl ?_
                      intro p5 c5_ w5 m5 G5
                      have hz5 := m5.size
                      have E := m5.toExt E (by omega)
                      have F := m5.toExt F (by omega)
                      replace G := G.off m5 (by omega)
                      try replace O1 := m5.own O1 (by omega)
                      refine h_take 12 rfl (by kernel_rfl) (by kernel_rfl) (by kernel_rfl) (fun w' x_ => xassign rfl) rfl rfl rfl F ?_
                      refine h_done (by kernel_rfl) ?_
                      intro a_ ha_
                      exact ⟨(p5, c5_), ⟨F, (by simpa using G5.wide (by omega) (by omega))⟩, ha_.sub ⟨rfl, trivial⟩⟩
          · intro x_
            obtain ⟨q, d⟩ := x_
            rintro w1 ⟨e1, G6_⟩
            have z1 := e1.size
            have E := E.trans e1
            replace G := G.ext e1
            refine run_ret Try.func132 (res1 rfl rfl) ?_
            have hno : ¬ ∃ h : k < xs.length, xs[k] = x := by
              rintro ⟨h, e⟩; exact c30 e
            have he : insI xs x = xs.take k ++ [x] ++ xs.drop k := by rw [hins (fun h => by omega), if_neg hno]; simp
            exact ⟨_, rfl, E, _, _, _, rfl, by rw [he]; exact G6_.wide (by omega) (by omega)⟩
      ·
        refine ov (xmove rfl) rfl rfl rfl ?_
        refine og rfl rfl rfl ?_
        refine og rfl rfl rfl ?_
        refine og rfl rfl rfl ?_
        refine og rfl rfl rfl ?_
        refine og rfl rfl rfl ?_
        refine og rfl rfl rfl ?_
        refine ov (xpick_f rfl rfl) rfl rfl rfl ?_
        refine ops_nil ?_
        refine run_cond_f rfl ?_
        refine run_skip ?_
        refine run_seq ?_
        have RE := E
        refine run_held (ι := Option Addr × Nat) (fun x_ w' => match x_ with | (q, d) => Ext wr w' ∧ Ow i64c 1 2 w' wr.heap.size w'.heap.size q (k + 1 + (n - k)) d (xs.take k ++ [x] ++ xs.drop k)) (fun x_ => match x_ with | (q, d) => [(4, .slice q (k + 1 + (n - k)) d)]) (by kernel_rfl) ?_ ?_
        · intro w0_ F
          have z0_ := F.size
          have E := E.trans F
          replace G := G.ext F
          refine h_take 1 rfl (by kernel_rfl) (by kernel_rfl) (by kernel_rfl) (fun w' x_ => xmove rfl) rfl rfl rfl F ?_
          refine h_take 2 rfl (by kernel_rfl) (by kernel_rfl) (by kernel_rfl) (fun w' x_ => xmove rfl) rfl rfl rfl F ?_
          refine h_take 3 rfl (by kernel_rfl) (by kernel_rfl) (by kernel_rfl) (fun w' x_ => xslice_h (k := k) Try.underlying31 Try.sizeOf2 rfl rfl rfl (by have := (G.sl).cap; omega)) rfl rfl rfl F ?_
          refine h_take 5 rfl (by kernel_rfl) (by kernel_rfl) (by kernel_rfl) (fun w' x_ => xmove rfl) rfl rfl rfl F ?_
          refine h_take 8 rfl (by kernel_rfl) (by kernel_rfl) (by kernel_rfl) (fun w' x_ => xmove rfl) rfl rfl rfl F ?_
          refine h_take 9 rfl (by kernel_rfl) (by kernel_rfl) (by kernel_rfl) (fun w' x_ => xmove rfl) rfl rfl rfl F ?_
          refine h_take 10 rfl (by kernel_rfl) (by kernel_rfl) (by kernel_rfl) (fun w' x_ => xslice_l (k := k) Try.underlying31 Try.sizeOf2 rfl rfl rfl (by omega)) rfl rfl rfl F ?_
          refine h_ready (rs := [0, 6]) (by kernel_rfl) (by decide) ⟨?_, ?_, trivial⟩
          ·
            refine hs_build (len := 0) (vs := []) (cs := []) (sz := 1) Try.underlying31 inf2 rfl rfl (by decide) (by rfl) (by rfl) (by simp [Value.cells]) rfl F rfl rfl rfl ?_
            intro b1 w1 e1 hb1 hz1 O1
            have E := E.trans e1
            replace G := G.ext e1
            have G1 : Ow i64c 1 2 w1 b1 (b1 + 1) (some ⟨b1, 0, none⟩) 0 0 ([] : List Int) := Own.ow (by simpa [i64c] using O1) rfl (by omega) (Nat.le_refl _) (by omega) (by intro x hx; rfl)
            have F := F.trans e1
            refine h_ready (rs := [4, 6]) (by kernel_rfl) (by decide) ⟨?_, ?_, trivial⟩
            ·
              refine hs_app (bytes := 8) (nm := k) G1 (by rfl) (by rfl) elem2 ((G.sl).take (k := k) (by omega)) ((G.sl).take (k := k) (by omega)).nil (by intro y hy; rfl) (by intro y hy u hu; simp only [i64c, List.mem_singleton] at hu; subst hu; rfl) (by omega) (by omega) (by omega) (by omega) F (by omega) rfl rfl rfl ?_
              intro p2 c2_ w2 m2 G2
              have hz2 := m2.size
              have E := m2.toExt E (by omega)
              have F := m2.toExt F (by omega)
              replace G := G.off m2 (by omega)
              refine h_ready (rs := [6]) (by kernel_rfl) (by decide) ⟨?_, trivial⟩
              ·
                refine hs_build (len := 1) (vs := [.int .i64 x]) (cs := [.int .i64 x]) (sz := 1) Try.underlying31 inf2 rfl rfl (by decide) (by rfl) (by rfl) (by simp [Value.cells]) rfl F rfl rfl rfl ?_
                intro b3 w3 e3 hb3 hz3 O3
                have E := E.trans e3
                replace G := G.ext e3
                replace G2 := G2.ext e3
                have F := F.trans e3
                refine h_ready (rs := [7]) (by kernel_rfl) (by decide) ⟨?_, trivial⟩
                ·
                  refine hs_app (bytes := 8) (nm := (k + 1)) G2 (by rfl) (by rfl) elem2 (Own.sl1 (y := x) O3) (by intro h; cases h) (by intro y hy; rfl) (by intro y hy u hu; rw [List.mem_singleton] at hy; subst hy; revert u; simp [Value.oneCell', i64c]) (by omega) (by omega) (by omega) (by omega) F (by omega) rfl rfl rfl ?_
                  intro p4 c4_ w4 m4 G4
                  have hz4 := m4.size
                  have E := m4.toExt E (by omega)
                  have F := m4.toExt F (by omega)
                  replace G := G.off m4 (by omega)
                  try replace O3 := m4.own O3 (by omega)
                  refine h_ready (rs := [11]) (by kernel_rfl) (by decide) ⟨?_, trivial⟩
                  ·
                    refine hs_app (bytes := 8) (nm := ((k + 1) + (n - k))) G4 (by rfl) (by rfl) elem2 ((G.sl).drop (k := k) (by omega)) ((G.sl).drop (k := k) (by omega)).nil (by intro y hy; rfl) (by intro y hy u hu; simp only [i64c, List.mem_singleton] at hu; subst hu; rfl) (by omega) (by omega) (by omega) (by omega) F (by omega) rfl rfl rfl ?_
                    intro p5 c5_ w5 m5 G5
                    have hz5 := m5.size
                    have E := m5.toExt E (by omega)
                    have F := m5.toExt F (by omega)
                    replace G := G.off m5 (by omega)
                    try replace O3 := m5.own O3 (by omega)
                    refine h_take 12 rfl (by kernel_rfl) (by kernel_rfl) (by kernel_rfl) (fun w' x_ => xassign rfl) rfl rfl rfl F ?_
                    refine h_done (by kernel_rfl) ?_
                    intro a_ ha_
                    exact ⟨(p5, c5_), ⟨F, (by simpa using G5.wide (by omega) (by omega))⟩, ha_.sub ⟨rfl, trivial⟩⟩
            ·
              refine hs_build (len := 1) (vs := [.int .i64 x]) (cs := [.int .i64 x]) (sz := 1) Try.underlying31 inf2 rfl rfl (by decide) (by rfl) (by rfl) (by simp [Value.cells]) rfl F rfl rfl rfl ?_
              intro b2 w2 e2 hb2 hz2 O2
              have E := E.trans e2
              replace G := G.ext e2
              replace G1 := G1.ext e2
              have F := F.trans e2
              refine h_ready (rs := [4]) (by kernel_rfl) (by decide) ⟨?_, trivial⟩
              ·
                refine hs_app (bytes := 8) (nm := k) G1 (by rfl) (by rfl) elem2 ((G.sl).take (k := k) (by omega)) ((G.sl).take (k := k) (by omega)).nil (by intro y hy; rfl) (by intro y hy u hu; simp only [i64c, List.mem_singleton] at hu; subst hu; rfl) (by omega) (by omega) (by omega) (by omega) F (by omega) rfl rfl rfl ?_
                intro p3 c3_ w3 m3 G3
                have hz3 := m3.size
                have E := m3.toExt E (by omega)
                have F := m3.toExt F (by omega)
                replace G := G.off m3 (by omega)
                try replace O2 := m3.own O2 (by omega)
                refine h_ready (rs := [7]) (by kernel_rfl) (by decide) ⟨?_, trivial⟩
                ·
                  refine hs_app (bytes := 8) (nm := (k + 1)) G3 (by rfl) (by rfl) elem2 (Own.sl1 (y := x) O2) (by intro h; cases h) (by intro y hy; rfl) (by intro y hy u hu; rw [List.mem_singleton] at hy; subst hy; revert u; simp [Value.oneCell', i64c]) (by omega) (by omega) (by omega) (by omega) F (by omega) rfl rfl rfl ?_
                  intro p4 c4_ w4 m4 G4
                  have hz4 := m4.size
                  have E := m4.toExt E (by omega)
                  have F := m4.toExt F (by omega)
                  replace G := G.off m4 (by omega)
                  try replace O2 := m4.own O2 (by omega)
                  refine h_ready (rs := [11]) (by kernel_rfl) (by decide) ⟨?_, trivial⟩
                  ·
                    refine hs_app (bytes := 8) (nm := ((k + 1) + (n - k))) G4 (by rfl) (by rfl) elem2 ((G.sl).drop (k := k) (by omega)) ((G.sl).drop (k := k) (by omega)).nil (by intro y hy; rfl) (by intro y hy u hu; simp only [i64c, List.mem_singleton] at hu; subst hu; rfl) (by omega) (by omega) (by omega) (by omega) F (by omega) rfl rfl rfl ?_
                    intro p5 c5_ w5 m5 G5
                    have hz5 := m5.size
                    have E := m5.toExt E (by omega)
                    have F := m5.toExt F (by omega)
                    replace G := G.off m5 (by omega)
                    try replace O2 := m5.own O2 (by omega)
                    refine h_take 12 rfl (by kernel_rfl) (by kernel_rfl) (by kernel_rfl) (fun w' x_ => xassign rfl) rfl rfl rfl F ?_
                    refine h_done (by kernel_rfl) ?_
                    intro a_ ha_
                    exact ⟨(p5, c5_), ⟨F, (by simpa using G5.wide (by omega) (by omega))⟩, ha_.sub ⟨rfl, trivial⟩⟩
          ·
            refine hs_build (len := 1) (vs := [.int .i64 x]) (cs := [.int .i64 x]) (sz := 1) Try.underlying31 inf2 rfl rfl (by decide) (by rfl) (by rfl) (by simp [Value.cells]) rfl F rfl rfl rfl ?_
            intro b1 w1 e1 hb1 hz1 O1
            have E := E.trans e1
            replace G := G.ext e1
            have F := F.trans e1
            refine h_ready (rs := [0]) (by kernel_rfl) (by decide) ⟨?_, trivial⟩
            ·
              refine hs_build (len := 0) (vs := []) (cs := []) (sz := 1) Try.underlying31 inf2 rfl rfl (by decide) (by rfl) (by rfl) (by simp [Value.cells]) rfl F rfl rfl rfl ?_
              intro b2 w2 e2 hb2 hz2 O2
              have E := E.trans e2
              replace G := G.ext e2
              replace O1 := O1.ext e2
              have G2 : Ow i64c 1 2 w2 b2 (b2 + 1) (some ⟨b2, 0, none⟩) 0 0 ([] : List Int) := Own.ow (by simpa [i64c] using O2) rfl (by omega) (Nat.le_refl _) (by omega) (by intro x hx; rfl)
              have F := F.trans e2
              refine h_ready (rs := [4]) (by kernel_rfl) (by decide) ⟨?_, trivial⟩
              ·
                refine hs_app (bytes := 8) (nm := k) G2 (by rfl) (by rfl) elem2 ((G.sl).take (k := k) (by omega)) ((G.sl).take (k := k) (by omega)).nil (by intro y hy; rfl) (by intro y hy u hu; simp only [i64c, List.mem_singleton] at hu; subst hu; rfl) (by omega) (by omega) (by omega) (by omega) F (by omega) rfl rfl rfl ?_
                intro p3 c3_ w3 m3 G3
                have hz3 := m3.size
                have E := m3.toExt E (by omega)
                have F := m3.toExt F (by omega)
                replace G := G.off m3 (by omega)
                try replace O1 := m3.own O1 (by omega)
                refine h_ready (rs := [7]) (by kernel_rfl) (by decide) ⟨?_, trivial⟩
                ·
                  refine hs_app (bytes := 8) (nm := (k + 1)) G3 (by rfl) (by rfl) elem2 (Own.sl1 (y := x) O1) (by intro h; cases h) (by intro y hy; rfl) (by intro y hy u hu; rw [List.mem_singleton] at hy; subst hy; revert u; simp [Value.oneCell', i64c]) (by omega) (by omega) (by omega) (by omega) F (by omega) rfl rfl rfl ?_
                  intro p4 c4_ w4 m4 G4
                  have hz4 := m4.size
                  have E := m4.toExt E (by omega)
                  have F := m4.toExt F (by omega)
                  replace G := G.off m4 (by omega)
                  try replace O1 := m4.own O1 (by omega)
                  refine h_ready (rs := [11]) (by kernel_rfl) (by decide) ⟨?_, trivial⟩
                  ·
                    refine hs_app (bytes := 8) (nm := ((k + 1) + (n - k))) G4 (by rfl) (by rfl) elem2 ((G.sl).drop (k := k) (by omega)) ((G.sl).drop (k := k) (by omega)).nil (by intro y hy; rfl) (by intro y hy u hu; simp only [i64c, List.mem_singleton] at hu; subst hu; rfl) (by omega) (by omega) (by omega) (by omega) F (by omega) rfl rfl rfl ?_
                    intro p5 c5_ w5 m5 G5
                    have hz5 := m5.size
                    have E := m5.toExt E (by omega)
                    have F := m5.toExt F (by omega)
                    replace G := G.off m5 (by omega)
                    try replace O1 := m5.own O1 (by omega)
                    refine h_take 12 rfl (by kernel_rfl) (by kernel_rfl) (by kernel_rfl) (fun w' x_ => xassign rfl) rfl rfl rfl F ?_
                    refine h_done (by kernel_rfl) ?_
                    intro a_ ha_
                    exact ⟨(p5, c5_), ⟨F, (by simpa using G5.wide (by omega) (by omega))⟩, ha_.sub ⟨rfl, trivial⟩⟩
        · intro x_
          obtain ⟨q, d⟩ := x_
          rintro w1 ⟨e1, G6_⟩
          have z1 := e1.size
          have E := E.trans e1
          replace G := G.ext e1
          refine run_ret Try.func132 (res1 rfl rfl) ?_
          have hno : ¬ ∃ h : k < xs.length, xs[k] = x := by
            rintro ⟨h, e⟩; omega
          have he : insI xs x = xs.take k ++ [x] ++ xs.drop k := by rw [hins (fun h => by omega), if_neg hno]; simp
          exact ⟨_, rfl, E, _, _, _, rfl, by rw [he]; exact G6_.wide (by omega) (by omega)⟩
  ·
    refine ov (xmove rfl) rfl rfl rfl ?_
    refine og rfl rfl rfl ?_
    refine og rfl rfl rfl ?_
    refine og rfl rfl rfl ?_
    refine og rfl rfl rfl ?_
    refine og rfl rfl rfl ?_
    refine og rfl rfl rfl ?_
    refine ov (xpick_f rfl rfl) rfl rfl rfl ?_
    refine ops_nil ?_
    refine run_cond_f rfl ?_
    refine run_exit rfl ?_
    refine run_seq ?_
    refine run_seq ?_
    refine run_region ?_
    have hins : (∀ h : k < xs.length, ¬ xs[k] < x) → insI xs x = if ∃ h : k < xs.length, xs[k] = x then xs else xs.take k ++ x :: xs.drop k := fun h => insI_at (by omega) ha h
    refine ov (xmove rfl) rfl rfl rfl ?_
    refine ov (xmove rfl) rfl rfl rfl ?_
    refine ov (xlen Try.underlying31 rfl) rfl rfl rfl ?_
    refine ov (xlss rfl rfl _ rfl) rfl rfl rfl ?_
    refine ods (fun c23 => ?_) (fun c23 => ?_)
    ·
      refine ov (xmove rfl) rfl rfl rfl ?_
      refine ov (xmove rfl) rfl rfl rfl ?_
      refine ov (xmove rfl) rfl rfl rfl ?_
      have h27 := (G.sl).at (i := k) (by omega)
      refine ov (xindexN (i := k) Try.underlying31 Try.sizeOf2 rfl rfl rfl ((G.sl).p (i := k) (by omega)) (by have := (G.sl).len; omega)) rfl rfl rfl ?_
      refine ov (v := .int .i64 xs[k]) (xloadz Try.isAgg2 rfl (h27) rfl) rfl rfl rfl ?_
      refine ov (xmove rfl) rfl rfl rfl ?_
      refine ov (xeql rfl rfl _ rfl) rfl rfl rfl ?_
      refine ods (fun c30 => ?_) (fun c30 => ?_)
      ·
        refine ov (xpick_t rfl rfl) rfl rfl rfl ?_
        refine ops_nil ?_
        refine run_cond_t rfl ?_
        refine run_seq ?_
        refine run_region ?_
        refine ov (xmove rfl) rfl rfl rfl ?_
        refine ov (xassign rfl) rfl rfl rfl ?_
        refine ops_nil ?_
        refine run_ret Try.func132 (res1 rfl rfl) ?_
        have he : insI xs x = xs := by rw [hins (fun h => by omega), if_pos ⟨by omega, by omega⟩]
        exact ⟨_, rfl, E, _, _, _, rfl, by rw [he]; exact G.wide (by omega) (by omega)⟩
      ·
        refine ov (xpick_t rfl rfl) rfl rfl rfl ?_
        refine ops_nil ?_
        refine run_cond_f rfl ?_
        refine run_skip ?_
        refine run_seq ?_
        have RE := E
        refine run_held (ι := Option Addr × Nat) (fun x_ w' => match x_ with | (q, d) => Ext wr w' ∧ Ow i64c 1 2 w' wr.heap.size w'.heap.size q (k + 1 + (n - k)) d (xs.take k ++ [x] ++ xs.drop k)) (fun x_ => match x_ with | (q, d) => [(4, .slice q (k + 1 + (n - k)) d)]) (by kernel_rfl) ?_ ?_
        · intro w0_ F
          have z0_ := F.size
          have E := E.trans F
          replace G := G.ext F
          refine h_take 1 rfl (by kernel_rfl) (by kernel_rfl) (by kernel_rfl) (fun w' x_ => xmove rfl) rfl rfl rfl F ?_
          refine h_take 2 rfl (by kernel_rfl) (by kernel_rfl) (by kernel_rfl) (fun w' x_ => xmove rfl) rfl rfl rfl F ?_
          refine h_take 3 rfl (by kernel_rfl) (by kernel_rfl) (by kernel_rfl) (fun w' x_ => xslice_h (k := k) Try.underlying31 Try.sizeOf2 rfl rfl rfl (by have := (G.sl).cap; omega)) rfl rfl rfl F ?_
          refine h_take 5 rfl (by kernel_rfl) (by kernel_rfl) (by kernel_rfl) (fun w' x_ => xmove rfl) rfl rfl rfl F ?_
          refine h_take 8 rfl (by kernel_rfl) (by kernel_rfl) (by kernel_rfl) (fun w' x_ => xmove rfl) rfl rfl rfl F ?_
          refine h_take 9 rfl (by kernel_rfl) (by kernel_rfl) (by kernel_rfl) (fun w' x_ => xmove rfl) rfl rfl rfl F ?_
          refine h_take 10 rfl (by kernel_rfl) (by kernel_rfl) (by kernel_rfl) (fun w' x_ => xslice_l (k := k) Try.underlying31 Try.sizeOf2 rfl rfl rfl (by omega)) rfl rfl rfl F ?_
          refine h_ready (rs := [0, 6]) (by kernel_rfl) (by decide) ⟨?_, ?_, trivial⟩
          ·
            refine hs_build (len := 0) (vs := []) (cs := []) (sz := 1) Try.underlying31 inf2 rfl rfl (by decide) (by rfl) (by rfl) (by simp [Value.cells]) rfl F rfl rfl rfl ?_
            intro b1 w1 e1 hb1 hz1 O1
            have E := E.trans e1
            replace G := G.ext e1
            have G1 : Ow i64c 1 2 w1 b1 (b1 + 1) (some ⟨b1, 0, none⟩) 0 0 ([] : List Int) := Own.ow (by simpa [i64c] using O1) rfl (by omega) (Nat.le_refl _) (by omega) (by intro x hx; rfl)
            have F := F.trans e1
            refine h_ready (rs := [4, 6]) (by kernel_rfl) (by decide) ⟨?_, ?_, trivial⟩
            ·
              refine hs_app (bytes := 8) (nm := k) G1 (by rfl) (by rfl) elem2 ((G.sl).take (k := k) (by omega)) ((G.sl).take (k := k) (by omega)).nil (by intro y hy; rfl) (by intro y hy u hu; simp only [i64c, List.mem_singleton] at hu; subst hu; rfl) (by omega) (by omega) (by omega) (by omega) F (by omega) rfl rfl rfl ?_
              intro p2 c2_ w2 m2 G2
              have hz2 := m2.size
              have E := m2.toExt E (by omega)
              have F := m2.toExt F (by omega)
              replace G := G.off m2 (by omega)
              refine h_ready (rs := [6]) (by kernel_rfl) (by decide) ⟨?_, trivial⟩
              ·
                refine hs_build (len := 1) (vs := [.int .i64 x]) (cs := [.int .i64 x]) (sz := 1) Try.underlying31 inf2 rfl rfl (by decide) (by rfl) (by rfl) (by simp [Value.cells]) rfl F rfl rfl rfl ?_
                intro b3 w3 e3 hb3 hz3 O3
                have E := E.trans e3
                replace G := G.ext e3
                replace G2 := G2.ext e3
                have F := F.trans e3
                refine h_ready (rs := [7]) (by kernel_rfl) (by decide) ⟨?_, trivial⟩
                ·
                  refine hs_app (bytes := 8) (nm := (k + 1)) G2 (by rfl) (by rfl) elem2 (Own.sl1 (y := x) O3) (by intro h; cases h) (by intro y hy; rfl) (by intro y hy u hu; rw [List.mem_singleton] at hy; subst hy; revert u; simp [Value.oneCell', i64c]) (by omega) (by omega) (by omega) (by omega) F (by omega) rfl rfl rfl ?_
                  intro p4 c4_ w4 m4 G4
                  have hz4 := m4.size
                  have E := m4.toExt E (by omega)
                  have F := m4.toExt F (by omega)
                  replace G := G.off m4 (by omega)
                  try replace O3 := m4.own O3 (by omega)
                  refine h_ready (rs := [11]) (by kernel_rfl) (by decide) ⟨?_, trivial⟩
                  ·
                    refine hs_app (bytes := 8) (nm := ((k + 1) + (n - k))) G4 (by rfl) (by rfl) elem2 ((G.sl).drop (k := k) (by omega)) ((G.sl).drop (k := k) (by omega)).nil (by intro y hy; rfl) (by intro y hy u hu; simp only [i64c, List.mem_singleton] at hu; subst hu; rfl) (by omega) (by omega) (by omega) (by omega) F (by omega) rfl rfl rfl ?_
                    intro p5 c5_ w5 m5 G5
                    have hz5 := m5.size
                    have E := m5.toExt E (by omega)
                    have F := m5.toExt F (by omega)
                    replace G := G.off m5 (by omega)
                    try replace O3 := m5.own O3 (by omega)
                    refine h_take 12 rfl (by kernel_rfl) (by kernel_rfl) (by kernel_rfl) (fun w' x_ => xassign rfl) rfl rfl rfl F ?_
                    refine h_done (by kernel_rfl) ?_
                    intro a_ ha_
                    exact ⟨(p5, c5_), ⟨F, (by simpa using G5.wide (by omega) (by omega))⟩, ha_.sub ⟨rfl, trivial⟩⟩
            ·
              refine hs_build (len := 1) (vs := [.int .i64 x]) (cs := [.int .i64 x]) (sz := 1) Try.underlying31 inf2 rfl rfl (by decide) (by rfl) (by rfl) (by simp [Value.cells]) rfl F rfl rfl rfl ?_
              intro b2 w2 e2 hb2 hz2 O2
              have E := E.trans e2
              replace G := G.ext e2
              replace G1 := G1.ext e2
              have F := F.trans e2
              refine h_ready (rs := [4]) (by kernel_rfl) (by decide) ⟨?_, trivial⟩
              ·
                refine hs_app (bytes := 8) (nm := k) G1 (by rfl) (by rfl) elem2 ((G.sl).take (k := k) (by omega)) ((G.sl).take (k := k) (by omega)).nil (by intro y hy; rfl) (by intro y hy u hu; simp only [i64c, List.mem_singleton] at hu; subst hu; rfl) (by omega) (by omega) (by omega) (by omega) F (by omega) rfl rfl rfl ?_
                intro p3 c3_ w3 m3 G3
                have hz3 := m3.size
                have E := m3.toExt E (by omega)
                have F := m3.toExt F (by omega)
                replace G := G.off m3 (by omega)
                try replace O2 := m3.own O2 (by omega)
                refine h_ready (rs := [7]) (by kernel_rfl) (by decide) ⟨?_, trivial⟩
                ·
                  refine hs_app (bytes := 8) (nm := (k + 1)) G3 (by rfl) (by rfl) elem2 (Own.sl1 (y := x) O2) (by intro h; cases h) (by intro y hy; rfl) (by intro y hy u hu; rw [List.mem_singleton] at hy; subst hy; revert u; simp [Value.oneCell', i64c]) (by omega) (by omega) (by omega) (by omega) F (by omega) rfl rfl rfl ?_
                  intro p4 c4_ w4 m4 G4
                  have hz4 := m4.size
                  have E := m4.toExt E (by omega)
                  have F := m4.toExt F (by omega)
                  replace G := G.off m4 (by omega)
                  try replace O2 := m4.own O2 (by omega)
                  refine h_ready (rs := [11]) (by kernel_rfl) (by decide) ⟨?_, trivial⟩
                  ·
                    refine hs_app (bytes := 8) (nm := ((k + 1) + (n - k))) G4 (by rfl) (by rfl) elem2 ((G.sl).drop (k := k) (by omega)) ((G.sl).drop (k := k) (by omega)).nil (by intro y hy; rfl) (by intro y hy u hu; simp only [i64c, List.mem_singleton] at hu; subst hu; rfl) (by omega) (by omega) (by omega) (by omega) F (by omega) rfl rfl rfl ?_
                    intro p5 c5_ w5 m5 G5
                    have hz5 := m5.size
                    have E := m5.toExt E (by omega)
                    have F := m5.toExt F (by omega)
                    replace G := G.off m5 (by omega)
                    try replace O2 := m5.own O2 (by omega)
                    refine h_take 12 rfl (by kernel_rfl) (by kernel_rfl) (by kernel_rfl) (fun w' x_ => xassign rfl) rfl rfl rfl F ?_
                    refine h_done (by kernel_rfl) ?_
                    intro a_ ha_
                    exact ⟨(p5, c5_), ⟨F, (by simpa using G5.wide (by omega) (by omega))⟩, ha_.sub ⟨rfl, trivial⟩⟩
          ·
            refine hs_build (len := 1) (vs := [.int .i64 x]) (cs := [.int .i64 x]) (sz := 1) Try.underlying31 inf2 rfl rfl (by decide) (by rfl) (by rfl) (by simp [Value.cells]) rfl F rfl rfl rfl ?_
            intro b1 w1 e1 hb1 hz1 O1
            have E := E.trans e1
            replace G := G.ext e1
            have F := F.trans e1
            refine h_ready (rs := [0]) (by kernel_rfl) (by decide) ⟨?_, trivial⟩
            ·
              refine hs_build (len := 0) (vs := []) (cs := []) (sz := 1) Try.underlying31 inf2 rfl rfl (by decide) (by rfl) (by rfl) (by simp [Value.cells]) rfl F rfl rfl rfl ?_
              intro b2 w2 e2 hb2 hz2 O2
              have E := E.trans e2
              replace G := G.ext e2
              replace O1 := O1.ext e2
              have G2 : Ow i64c 1 2 w2 b2 (b2 + 1) (some ⟨b2, 0, none⟩) 0 0 ([] : List Int) := Own.ow (by simpa [i64c] using O2) rfl (by omega) (Nat.le_refl _) (by omega) (by intro x hx; rfl)
              have F := F.trans e2
              refine h_ready (rs := [4]) (by kernel_rfl) (by decide) ⟨?_, trivial⟩
              ·
                refine hs_app (bytes := 8) (nm := k) G2 (by rfl) (by rfl) elem2 ((G.sl).take (k := k) (by omega)) ((G.sl).take (k := k) (by omega)).nil (by intro y hy; rfl) (by intro y hy u hu; simp only [i64c, List.mem_singleton] at hu; subst hu; rfl) (by omega) (by omega) (by omega) (by omega) F (by omega) rfl rfl rfl ?_
                intro p3 c3_ w3 m3 G3
                have hz3 := m3.size
                have E := m3.toExt E (by omega)
                have F := m3.toExt F (by omega)
                replace G := G.off m3 (by omega)
                try replace O1 := m3.own O1 (by omega)
                refine h_ready (rs := [7]) (by kernel_rfl) (by decide) ⟨?_, trivial⟩
                ·
                  refine hs_app (bytes := 8) (nm := (k + 1)) G3 (by rfl) (by rfl) elem2 (Own.sl1 (y := x) O1) (by intro h; cases h) (by intro y hy; rfl) (by intro y hy u hu; rw [List.mem_singleton] at hy; subst hy; revert u; simp [Value.oneCell', i64c]) (by omega) (by omega) (by omega) (by omega) F (by omega) rfl rfl rfl ?_
                  intro p4 c4_ w4 m4 G4
                  have hz4 := m4.size
                  have E := m4.toExt E (by omega)
                  have F := m4.toExt F (by omega)
                  replace G := G.off m4 (by omega)
                  try replace O1 := m4.own O1 (by omega)
                  refine h_ready (rs := [11]) (by kernel_rfl) (by decide) ⟨?_, trivial⟩
                  ·
                    refine hs_app (bytes := 8) (nm := ((k + 1) + (n - k))) G4 (by rfl) (by rfl) elem2 ((G.sl).drop (k := k) (by omega)) ((G.sl).drop (k := k) (by omega)).nil (by intro y hy; rfl) (by intro y hy u hu; simp only [i64c, List.mem_singleton] at hu; subst hu; rfl) (by omega) (by omega) (by omega) (by omega) F (by omega) rfl rfl rfl ?_
                    intro p5 c5_ w5 m5 G5
                    have hz5 := m5.size
                    have E := m5.toExt E (by omega)
                    have F := m5.toExt F (by omega)
                    replace G := G.off m5 (by omega)
                    try replace O1 := m5.own O1 (by omega)
                    refine h_take 12 rfl (by kernel_rfl) (by kernel_rfl) (by kernel_rfl) (fun w' x_ => xassign rfl) rfl rfl rfl F ?_
                    refine h_done (by kernel_rfl) ?_
                    intro a_ ha_
                    exact ⟨(p5, c5_), ⟨F, (by simpa using G5.wide (by omega) (by omega))⟩, ha_.sub ⟨rfl, trivial⟩⟩
        · intro x_
          obtain ⟨q, d⟩ := x_
          rintro w1 ⟨e1, G6_⟩
          have z1 := e1.size
          have E := E.trans e1
          replace G := G.ext e1
          refine run_ret Try.func132 (res1 rfl rfl) ?_
          have hno : ¬ ∃ h : k < xs.length, xs[k] = x := by
            rintro ⟨h, e⟩; exact c30 e
          have he : insI xs x = xs.take k ++ [x] ++ xs.drop k := by rw [hins (fun h => by omega), if_neg hno]; simp
          exact ⟨_, rfl, E, _, _, _, rfl, by rw [he]; exact G6_.wide (by omega) (by omega)⟩
    ·
      refine ov (xmove rfl) rfl rfl rfl ?_
      refine og rfl rfl rfl ?_
      refine og rfl rfl rfl ?_
      refine og rfl rfl rfl ?_
      refine og rfl rfl rfl ?_
      refine og rfl rfl rfl ?_
      refine og rfl rfl rfl ?_
      refine ov (xpick_f rfl rfl) rfl rfl rfl ?_
      refine ops_nil ?_
      refine run_cond_f rfl ?_
      refine run_skip ?_
      refine run_seq ?_
      have RE := E
      refine run_held (ι := Option Addr × Nat) (fun x_ w' => match x_ with | (q, d) => Ext wr w' ∧ Ow i64c 1 2 w' wr.heap.size w'.heap.size q (k + 1 + (n - k)) d (xs.take k ++ [x] ++ xs.drop k)) (fun x_ => match x_ with | (q, d) => [(4, .slice q (k + 1 + (n - k)) d)]) (by kernel_rfl) ?_ ?_
      · intro w0_ F
        have z0_ := F.size
        have E := E.trans F
        replace G := G.ext F
        refine h_take 1 rfl (by kernel_rfl) (by kernel_rfl) (by kernel_rfl) (fun w' x_ => xmove rfl) rfl rfl rfl F ?_
        refine h_take 2 rfl (by kernel_rfl) (by kernel_rfl) (by kernel_rfl) (fun w' x_ => xmove rfl) rfl rfl rfl F ?_
        refine h_take 3 rfl (by kernel_rfl) (by kernel_rfl) (by kernel_rfl) (fun w' x_ => xslice_h (k := k) Try.underlying31 Try.sizeOf2 rfl rfl rfl (by have := (G.sl).cap; omega)) rfl rfl rfl F ?_
        refine h_take 5 rfl (by kernel_rfl) (by kernel_rfl) (by kernel_rfl) (fun w' x_ => xmove rfl) rfl rfl rfl F ?_
        refine h_take 8 rfl (by kernel_rfl) (by kernel_rfl) (by kernel_rfl) (fun w' x_ => xmove rfl) rfl rfl rfl F ?_
        refine h_take 9 rfl (by kernel_rfl) (by kernel_rfl) (by kernel_rfl) (fun w' x_ => xmove rfl) rfl rfl rfl F ?_
        refine h_take 10 rfl (by kernel_rfl) (by kernel_rfl) (by kernel_rfl) (fun w' x_ => xslice_l (k := k) Try.underlying31 Try.sizeOf2 rfl rfl rfl (by omega)) rfl rfl rfl F ?_
        refine h_ready (rs := [0, 6]) (by kernel_rfl) (by decide) ⟨?_, ?_, trivial⟩
        ·
          refine hs_build (len := 0) (vs := []) (cs := []) (sz := 1) Try.underlying31 inf2 rfl rfl (by decide) (by rfl) (by rfl) (by simp [Value.cells]) rfl F rfl rfl rfl ?_
          intro b1 w1 e1 hb1 hz1 O1
          have E := E.trans e1
          replace G := G.ext e1
          have G1 : Ow i64c 1 2 w1 b1 (b1 + 1) (some ⟨b1, 0, none⟩) 0 0 ([] : List Int) := Own.ow (by simpa [i64c] using O1) rfl (by omega) (Nat.le_refl _) (by omega) (by intro x hx; rfl)
          have F := F.trans e1
          refine h_ready (rs := [4, 6]) (by kernel_rfl) (by decide) ⟨?_, ?_, trivial⟩
          ·
            refine hs_app (bytes := 8) (nm := k) G1 (by rfl) (by rfl) elem2 ((G.sl).take (k := k) (by omega)) ((G.sl).take (k := k) (by omega)).nil (by intro y hy; rfl) (by intro y hy u hu; simp only [i64c, List.mem_singleton] at hu; subst hu; rfl) (by omega) (by omega) (by omega) (by omega) F (by omega) rfl rfl rfl ?_
            intro p2 c2_ w2 m2 G2
            have hz2 := m2.size
            have E := m2.toExt E (by omega)
            have F := m2.toExt F (by omega)
            replace G := G.off m2 (by omega)
            refine h_ready (rs := [6]) (by kernel_rfl) (by decide) ⟨?_, trivial⟩
            ·
              refine hs_build (len := 1) (vs := [.int .i64 x]) (cs := [.int .i64 x]) (sz := 1) Try.underlying31 inf2 rfl rfl (by decide) (by rfl) (by rfl) (by simp [Value.cells]) rfl F rfl rfl rfl ?_
              intro b3 w3 e3 hb3 hz3 O3
              have E := E.trans e3
              replace G := G.ext e3
              replace G2 := G2.ext e3
              have F := F.trans e3
              refine h_ready (rs := [7]) (by kernel_rfl) (by decide) ⟨?_, trivial⟩
              ·
                refine hs_app (bytes := 8) (nm := (k + 1)) G2 (by rfl) (by rfl) elem2 (Own.sl1 (y := x) O3) (by intro h; cases h) (by intro y hy; rfl) (by intro y hy u hu; rw [List.mem_singleton] at hy; subst hy; revert u; simp [Value.oneCell', i64c]) (by omega) (by omega) (by omega) (by omega) F (by omega) rfl rfl rfl ?_
                intro p4 c4_ w4 m4 G4
                have hz4 := m4.size
                have E := m4.toExt E (by omega)
                have F := m4.toExt F (by omega)
                replace G := G.off m4 (by omega)
                try replace O3 := m4.own O3 (by omega)
                refine h_ready (rs := [11]) (by kernel_rfl) (by decide) ⟨?_, trivial⟩
                ·
                  refine hs_app (bytes := 8) (nm := ((k + 1) + (n - k))) G4 (by rfl) (by rfl) elem2 ((G.sl).drop (k := k) (by omega)) ((G.sl).drop (k := k) (by omega)).nil (by intro y hy; rfl) (by intro y hy u hu; simp only [i64c, List.mem_singleton] at hu; subst hu; rfl) (by omega) (by omega) (by omega) (by omega) F (by omega) rfl rfl rfl ?_
                  intro p5 c5_ w5 m5 G5
                  have hz5 := m5.size
                  have E := m5.toExt E (by omega)
                  have F := m5.toExt F (by omega)
                  replace G := G.off m5 (by omega)
                  try replace O3 := m5.own O3 (by omega)
                  refine h_take 12 rfl (by kernel_rfl) (by kernel_rfl) (by kernel_rfl) (fun w' x_ => xassign rfl) rfl rfl rfl F ?_
                  refine h_done (by kernel_rfl) ?_
                  intro a_ ha_
                  exact ⟨(p5, c5_), ⟨F, (by simpa using G5.wide (by omega) (by omega))⟩, ha_.sub ⟨rfl, trivial⟩⟩
          ·
            refine hs_build (len := 1) (vs := [.int .i64 x]) (cs := [.int .i64 x]) (sz := 1) Try.underlying31 inf2 rfl rfl (by decide) (by rfl) (by rfl) (by simp [Value.cells]) rfl F rfl rfl rfl ?_
            intro b2 w2 e2 hb2 hz2 O2
            have E := E.trans e2
            replace G := G.ext e2
            replace G1 := G1.ext e2
            have F := F.trans e2
            refine h_ready (rs := [4]) (by kernel_rfl) (by decide) ⟨?_, trivial⟩
            ·
              refine hs_app (bytes := 8) (nm := k) G1 (by rfl) (by rfl) elem2 ((G.sl).take (k := k) (by omega)) ((G.sl).take (k := k) (by omega)).nil (by intro y hy; rfl) (by intro y hy u hu; simp only [i64c, List.mem_singleton] at hu; subst hu; rfl) (by omega) (by omega) (by omega) (by omega) F (by omega) rfl rfl rfl ?_
              intro p3 c3_ w3 m3 G3
              have hz3 := m3.size
              have E := m3.toExt E (by omega)
              have F := m3.toExt F (by omega)
              replace G := G.off m3 (by omega)
              try replace O2 := m3.own O2 (by omega)
              refine h_ready (rs := [7]) (by kernel_rfl) (by decide) ⟨?_, trivial⟩
              ·
                refine hs_app (bytes := 8) (nm := (k + 1)) G3 (by rfl) (by rfl) elem2 (Own.sl1 (y := x) O2) (by intro h; cases h) (by intro y hy; rfl) (by intro y hy u hu; rw [List.mem_singleton] at hy; subst hy; revert u; simp [Value.oneCell', i64c]) (by omega) (by omega) (by omega) (by omega) F (by omega) rfl rfl rfl ?_
                intro p4 c4_ w4 m4 G4
                have hz4 := m4.size
                have E := m4.toExt E (by omega)
                have F := m4.toExt F (by omega)
                replace G := G.off m4 (by omega)
                try replace O2 := m4.own O2 (by omega)
                refine h_ready (rs := [11]) (by kernel_rfl) (by decide) ⟨?_, trivial⟩
                ·
                  refine hs_app (bytes := 8) (nm := ((k + 1) + (n - k))) G4 (by rfl) (by rfl) elem2 ((G.sl).drop (k := k) (by omega)) ((G.sl).drop (k := k) (by omega)).nil (by intro y hy; rfl) (by intro y hy u hu; simp only [i64c, List.mem_singleton] at hu; subst hu; rfl) (by omega) (by omega) (by omega) (by omega) F (by omega) rfl rfl rfl ?_
                  intro p5 c5_ w5 m5 G5
                  have hz5 := m5.size
                  have E := m5.toExt E (by omega)
                  have F := m5.toExt F (by omega)
                  replace G := G.off m5 (by omega)
                  try replace O2 := m5.own O2 (by omega)
                  refine h_take 12 rfl (by kernel_rfl) (by kernel_rfl) (by kernel_rfl) (fun w' x_ => xassign rfl) rfl rfl rfl F ?_
                  refine h_done (by kernel_rfl) ?_
                  intro a_ ha_
                  exact ⟨(p5, c5_), ⟨F, (by simpa using G5.wide (by omega) (by omega))⟩, ha_.sub ⟨rfl, trivial⟩⟩
        ·
          refine hs_build (len := 1) (vs := [.int .i64 x]) (cs := [.int .i64 x]) (sz := 1) Try.underlying31 inf2 rfl rfl (by decide) (by rfl) (by rfl) (by simp [Value.cells]) rfl F rfl rfl rfl ?_
          intro b1 w1 e1 hb1 hz1 O1
          have E := E.trans e1
          replace G := G.ext e1
          have F := F.trans e1
          refine h_ready (rs := [0]) (by kernel_rfl) (by decide) ⟨?_, trivial⟩
          ·
            refine hs_build (len := 0) (vs := []) (cs := []) (sz := 1) Try.underlying31 inf2 rfl rfl (by decide) (by rfl) (by rfl) (by simp [Value.cells]) rfl F rfl rfl rfl ?_
            intro b2 w2 e2 hb2 hz2 O2
            have E := E.trans e2
            replace G := G.ext e2
            replace O1 := O1.ext e2
            have G2 : Ow i64c 1 2 w2 b2 (b2 + 1) (some ⟨b2, 0, none⟩) 0 0 ([] : List Int) := Own.ow (by simpa [i64c] using O2) rfl (by omega) (Nat.le_refl _) (by omega) (by intro x hx; rfl)
            have F := F.trans e2
            refine h_ready (rs := [4]) (by kernel_rfl) (by decide) ⟨?_, trivial⟩
            ·
              refine hs_app (bytes := 8) (nm := k) G2 (by rfl) (by rfl) elem2 ((G.sl).take (k := k) (by omega)) ((G.sl).take (k := k) (by omega)).nil (by intro y hy; rfl) (by intro y hy u hu; simp only [i64c, List.mem_singleton] at hu; subst hu; rfl) (by omega) (by omega) (by omega) (by omega) F (by omega) rfl rfl rfl ?_
              intro p3 c3_ w3 m3 G3
              have hz3 := m3.size
              have E := m3.toExt E (by omega)
              have F := m3.toExt F (by omega)
              replace G := G.off m3 (by omega)
              try replace O1 := m3.own O1 (by omega)
              refine h_ready (rs := [7]) (by kernel_rfl) (by decide) ⟨?_, trivial⟩
              ·
                refine hs_app (bytes := 8) (nm := (k + 1)) G3 (by rfl) (by rfl) elem2 (Own.sl1 (y := x) O1) (by intro h; cases h) (by intro y hy; rfl) (by intro y hy u hu; rw [List.mem_singleton] at hy; subst hy; revert u; simp [Value.oneCell', i64c]) (by omega) (by omega) (by omega) (by omega) F (by omega) rfl rfl rfl ?_
                intro p4 c4_ w4 m4 G4
                have hz4 := m4.size
                have E := m4.toExt E (by omega)
                have F := m4.toExt F (by omega)
                replace G := G.off m4 (by omega)
                try replace O1 := m4.own O1 (by omega)
                refine h_ready (rs := [11]) (by kernel_rfl) (by decide) ⟨?_, trivial⟩
                ·
                  refine hs_app (bytes := 8) (nm := ((k + 1) + (n - k))) G4 (by rfl) (by rfl) elem2 ((G.sl).drop (k := k) (by omega)) ((G.sl).drop (k := k) (by omega)).nil (by intro y hy; rfl) (by intro y hy u hu; simp only [i64c, List.mem_singleton] at hu; subst hu; rfl) (by omega) (by omega) (by omega) (by omega) F (by omega) rfl rfl rfl ?_
                  intro p5 c5_ w5 m5 G5
                  have hz5 := m5.size
                  have E := m5.toExt E (by omega)
                  have F := m5.toExt F (by omega)
                  replace G := G.off m5 (by omega)
                  try replace O1 := m5.own O1 (by omega)
                  refine h_take 12 rfl (by kernel_rfl) (by kernel_rfl) (by kernel_rfl) (fun w' x_ => xassign rfl) rfl rfl rfl F ?_
                  refine h_done (by kernel_rfl) ?_
                  intro a_ ha_
                  exact ⟨(p5, c5_), ⟨F, (by simpa using G5.wide (by omega) (by omega))⟩, ha_.sub ⟨rfl, trivial⟩⟩
      · intro x_
        obtain ⟨q, d⟩ := x_
        rintro w1 ⟨e1, G6_⟩
        have z1 := e1.size
        have E := E.trans e1
        replace G := G.ext e1
        refine run_ret Try.func132 (res1 rfl rfl) ?_
        have hno : ¬ ∃ h : k < xs.length, xs[k] = x := by
          rintro ⟨h, e⟩; omega
        have he : insI xs x = xs.take k ++ [x] ++ xs.drop k := by rw [hins (fun h => by omega), if_neg hno]; simp
        exact ⟨_, rfl, E, _, _, _, rfl, by rw [he]; exact G6_.wide (by omega) (by omega)⟩
end Go.Proofs.Ytinpkihmkfiidaa
