/-
  Who dissents. No condition beyond those written in each theorem.
-/
import Derived.Test.YtinpkihmkfiidaaPolls2
namespace Go.Proofs.Ytinpkihmkfiidaa
open Go.RowKit
set_option linter.unusedVariables false
set_option linter.unusedSimpArgs false
set_option linter.unusedSectionVars false
set_option maxRecDepth 4000

set_option maxHeartbeats 2000000 in
theorem Dissenters_ok (p : Option Addr) (n c : Nat) (xs : List Question) (nd : Int) (vs : List (List Int)) (p3 : Option Addr) (n3 c3 : Nat) (w : World) (H : Sl Question.cells 3 w p n c xs) (hx : ∀ x ∈ xs, x.Label.size ≤ 9223372036854775807) (Hv0 : SnInt64SS w p3 n3 c3 vs) : Ret Try.prog 77 [.slice p n c, .agg #[.int .i64 nd, .slice p3 n3 c3]] w (fun v w' => Ext w w' ∧ ∃ q m d, v = .tuple #[.slice q m d, .int .i64 (dissenters xs nd vs).2] ∧ Ow i64c 1 2 w' w.heap.size w'.heap.size q m d (dissenters xs nd vs).1) := by
  refine ret_of_run (N := 65) Try.func77 rfl rfl rfl ?_
  have hn := H.len
  have hn6 := H.n64
  obtain ⟨hd, Hv⟩ := Hv0
  have hn3 := Hv.len
  have hv6 := Hv.n64
  have hwg : (wayF xs (ansOf xs nd vs)).1.length ≤ xs.length := wayG_ge xs (ansOf xs nd vs) xs.length 0
  have E : Ext w w := Ext.refl w
  refine run_seq ?_
  refine run_region ?_
  refine obox rfl rfl rfl ?_
  intro b1 w1 e1 hb1 hz1 O1
  have E := E.trans e1
  replace O1 : Own w1 b1 [.int .i64 nd, .slice p3 n3 c3] 41 := O1
  refine ov (xassign rfl) rfl rfl rfl ?_
  refine ov (xassign rfl) rfl rfl rfl ?_
  refine ops_nil ?_
  refine run_seq ?_
  refine run_seq ?_
  refine run_region ?_
  refine ov (xmove rfl) rfl rfl rfl ?_
  refine ov (v := .agg #[.int .i64 nd, .slice p3 n3 c3]) (xloadN Try.isAgg41 Try.sizeOf41 rfl (O1.cells) rfl) rfl rfl rfl ?_
  refine oc (xcall Try.call71 rfl) rfl rfl rfl (PollVerdict_ok _ _ _ _ _ _ _ _ _ _ (H.ext E) (by assumption) (Hv.ext E).sn) ?_
  rintro _ w2 ⟨rfl, e2⟩
  have z2 := e2.size
  have E := E.trans e2
  replace O1 := O1.ext e2
  refine ov (xmove rfl) rfl rfl rfl ?_
  refine ov (xextract rfl rfl) rfl rfl rfl ?_
  refine ov (xextract rfl rfl) rfl rfl rfl ?_
  refine ov (xassign rfl) rfl rfl rfl ?_
  refine ov (xassign rfl) rfl rfl rfl ?_
  refine ops_nil ?_
  refine run_seq ?_
  refine run_region ?_
  refine ov (xmove rfl) rfl rfl rfl ?_
  refine ov (xneq rfl rfl _ rfl) rfl rfl rfl ?_
  refine ods (fun c23 => ?_) (fun c23 => ?_)
  ·
    refine ops_nil ?_
    refine run_cond_t rfl ?_
    refine run_seq ?_
    refine run_region ?_
    refine ov (xmove rfl) rfl rfl rfl ?_
    refine ov (xassign rfl) rfl rfl rfl ?_
    refine ov (xassign rfl) rfl rfl rfl ?_
    refine ops_nil ?_
    refine run_ret Try.func77 (res2 rfl rfl rfl) ?_
    have he : dissenters xs nd vs = ([], (pollVerdict xs nd vs).2) := by rw [dissenters, if_pos (by omega)]
    exact ⟨_, rfl, E, none, 0, 0, by rw [he], by rw [he]; exact Ow.none _ _ _ _ _ _⟩
  ·
    obtain ⟨c10, hv0⟩ := pollVerdict_code (by omega : (pollVerdict xs nd vs).2 = 0)
    have hff := isPoll_form c10
    have hfl := isForm_len hff
    have hfr := isPoll_row c10
    have hfv := isPoll_len c10
    have hfn := isPoll_need c10
    have hAn := areAns_ans xs nd vs
    have hAl := ansOf_length xs nd vs
    refine ops_nil ?_
    refine run_cond_f rfl ?_
    refine run_skip ?_
    refine run_seq ?_
    refine run_region ?_
    refine ov (v := .agg #[.int .i64 nd, .slice p3 n3 c3]) (xloadN Try.isAgg41 Try.sizeOf41 rfl (O1.cells) rfl) rfl rfl rfl ?_
    refine ov (xmove rfl) rfl rfl rfl ?_
    refine oc (xcall Try.call119 rfl) rfl rfl rfl (answers_ok _ _ _ _ _ _ _ _ _ _ (H.ext E) (Hv.ext E).sn (by assumption) (by omega)) ?_
    rintro _ w3 ⟨e3, q27, m27, d27, rfl, G27⟩
    have z3 := e3.size
    have E := E.trans e3
    replace O1 := O1.ext e3
    refine ov (xassign rfl) rfl rfl rfl ?_
    refine ops_nil ?_
    refine run_seq ?_
    refine run_region ?_
    refine ov (xmove rfl) rfl rfl rfl ?_
    refine ov (xmove rfl) rfl rfl rfl ?_
    refine oc (xcall Try.call101 rfl) rfl rfl rfl (wayOf_ok _ _ _ _ _ _ _ _ _ (H.ext E) (by assumption) (G27.sl) (by assumption) (by assumption)) ?_
    rintro _ w4 ⟨e4, q31, m31, d31, rfl, G31⟩
    have z4 := e4.size
    have E := E.trans e4
    replace G27 := G27.ext e4
    replace O1 := O1.ext e4
    refine ov (xmove rfl) rfl rfl rfl ?_
    refine ov (xextract rfl rfl) rfl rfl rfl ?_
    refine ov (xextract rfl rfl) rfl rfl rfl ?_
    refine ov (xassign rfl) rfl rfl rfl ?_
    refine ov (xassign rfl) rfl rfl rfl ?_
    refine ops_nil ?_
    refine run_seq ?_
    refine run_region ?_
    have hg31 := G31.len
    have hg27 := G27.len
    refine obuild (cs := []) (sz := 1) Try.underlying31 inf2 rfl rfl (by decide) rfl rfl (by simp [Value.cells]) rfl rfl rfl ?_
    intro b5 w5 e5 hb5 hz5 O5
    have E := E.trans e5
    replace G27 := G27.ext e5
    replace G31 := G31.ext e5
    replace O1 := O1.ext e5
    have G5 : Ow i64c 1 2 w5 b5 (b5 + 1) (some ⟨b5, 0, none⟩) 0 0 ([] : List Int) := Own.ow (by simpa [i64c] using O5) rfl (by omega) (Nat.le_refl _) (by omega) (by intro x hx; rfl)
    refine ov (xassign rfl) rfl rfl rfl ?_
    refine ops_nil ?_
    refine run_seq ?_
    refine run_seq ?_
    refine run_region ?_
    refine ov (xfieldAddr fo41f1 rfl) rfl rfl rfl ?_
    refine ov (v := .slice p3 n3 c3) (xload1 Try.isAgg36 rfl (O1.cells) rfl) rfl rfl rfl ?_
    refine ov (xlen Try.underlying36 rfl) rfl rfl rfl ?_
    refine ov (xmove rfl) rfl rfl rfl ?_
    refine ops_nil ?_
    refine run_block ?_
    refine run_loop (ι := Nat × Option Addr × Nat × Nat × List Int × World) (fun x_ => match x_ with | (k, q_11, m_11, c_11, ys_11, wr) => (Ext w wr) ∧ (Own wr b1 ([.int .i64 nd, .slice p3 n3 c3]) 41) ∧ (Ow i64c 1 2 wr w2.heap.size w3.heap.size q27 m27 d27 (ansOf xs nd vs)) ∧ (Ow i64c 1 2 wr w3.heap.size w4.heap.size q31 m31 d31 (wayF xs (ansOf xs nd vs)).1) ∧ (Ow i64c 1 2 wr b5 wr.heap.size q_11 m_11 c_11 ys_11) ∧ (b5 ≤ wr.heap.size) ∧ (w5.heap.size ≤ wr.heap.size) ∧ (k ≤ n3) ∧ (ys_11 = disL (wayF xs (ansOf xs nd vs)).1 (ansOf xs nd vs) vs k)) (fun x_ => match x_ with | (k, q_11, m_11, c_11, ys_11, wr) => [(8, .slice q27 m27 d27), (9, .slice q31 m31 d31), (11, .slice q_11 m_11 c_11), (36, .slice p3 n3 c3), (37, .int .i64 (n3 : Int)), (38, .int .i64 (k : Int))]) (fun x_ => match x_ with | (k, q_11, m_11, c_11, ys_11, wr) => wr) (fun x_ => match x_ with | (k, q_11, m_11, c_11, ys_11, wr) => n3 - k) ?_ (0, (some ⟨b5, 0, none⟩), 0, 0, [], w5) (⟨E, O1, G27, G31, G5.wide (by omega) (by omega), by omega, Nat.le_refl _, by omega, rfl⟩) ⟨rfl, rfl, rfl, rfl, rfl, rfl, trivial⟩ rfl
    intro i_ hI_ hback8
    obtain ⟨k, q_11, m_11, c_11, ys_11, wr⟩ := i_
    obtain ⟨E, O_b1, G27, G31, G_11, lo_11, lz_wr, hk, hy⟩ := hI_
    try dsimp only
    have zr := E.size
    have lt_b1 := O_b1.lt
    have lg_11 := G_11.len
    have hdl := disL_len (wayF xs (ansOf xs nd vs)).1 (ansOf xs nd vs) vs k
    rw [← hy] at hdl
    refine run_seq ?_
    refine run_region ?_
    refine ov (xlss rfl rfl _ rfl) rfl rfl rfl ?_
    refine ods (fun c39 => ?_) (fun c39 => ?_)
    ·
      refine ops_nil ?_
      refine run_seq ?_
      refine run_cond_t rfl ?_
      refine run_skip ?_
      refine run_seq ?_
      refine run_block ?_
      refine run_seq ?_
      refine run_region ?_
      refine ov (xmove rfl) rfl rfl rfl ?_
      have h41 := (Hv.ext E).at (i := k) (by omega)
      refine ov (xindexN (i := k) Try.underlying36 Try.sizeOf31 rfl rfl rfl ((Hv.ext E).p (i := k) (by omega)) (by have := (Hv.ext E).len; omega)) rfl rfl rfl ?_
      refine ov (v := .slice (hd k).p (hd k).n (hd k).c) (xloadz Try.isAgg31 rfl (h41) rfl) rfl rfl rfl ?_
      refine ov (xassign rfl) rfl rfl rfl ?_
      refine ov (xassign rfl) rfl rfl rfl ?_
      refine ops_nil ?_
      refine run_seq ?_
      refine run_region ?_
      refine ov (xmove rfl) rfl rfl rfl ?_
      refine ov (xlen Try.underlying31 rfl) rfl rfl rfl ?_
      refine ov (xmove rfl) rfl rfl rfl ?_
      refine ops_nil ?_
      refine run_block ?_
      refine run_loop (ι := Nat × World) (fun x_ => match x_ with | (i, wr2) => (Ext w wr2) ∧ (Own wr2 b1 ([.int .i64 nd, .slice p3 n3 c3]) 41) ∧ (Ow i64c 1 2 wr2 w2.heap.size w3.heap.size q27 m27 d27 (ansOf xs nd vs)) ∧ (Ow i64c 1 2 wr2 w3.heap.size w4.heap.size q31 m31 d31 (wayF xs (ansOf xs nd vs)).1) ∧ (Ow i64c 1 2 wr2 b5 wr.heap.size q_11 m_11 c_11 ys_11) ∧ (wr.heap.size ≤ wr2.heap.size) ∧ (i ≤ (wayF xs (ansOf xs nd vs)).1.length) ∧ (eqTo (wayF xs (ansOf xs nd vs)).1 (ansOf xs nd vs) vs[k] i = true)) (fun x_ => match x_ with | (i, wr2) => [(8, .slice q27 m27 d27), (9, .slice q31 m31 d31), (11, .slice q_11 m_11 c_11), (12, .int .i64 (k : Int)), (13, .slice (hd k).p (hd k).n (hd k).c), (36, .slice p3 n3 c3), (37, .int .i64 (n3 : Int)), (38, .int .i64 (k : Int)), (43, .slice q31 m31 d31), (44, .int .i64 (m31 : Int)), (45, .int .i64 (i : Int))]) (fun x_ => match x_ with | (i, wr2) => wr2) (fun x_ => match x_ with | (i, wr2) => (wayF xs (ansOf xs nd vs)).1.length - i) ?_ (0, wr) (⟨E, O_b1, G27, G31, G_11, Nat.le_refl _, by omega, rfl⟩) ⟨rfl, rfl, rfl, rfl, rfl, rfl, rfl, rfl, rfl, rfl, rfl, trivial⟩ rfl
      intro i_ hI_ hback11
      obtain ⟨i, wr2⟩ := i_
      obtain ⟨E, O_b1, G27, G31, G_11, lz_wr2, hi, he_⟩ := hI_
      try dsimp only
      have zr := E.size
      have lt_b1 := O_b1.lt
      refine run_seq ?_
      refine run_region ?_
      refine ov (xlss rfl rfl _ rfl) rfl rfl rfl ?_
      refine ods (fun c46 => ?_) (fun c46 => ?_)
      ·
        have hwm := wayF_mem (az := (ansOf xs nd vs)) hff (i := i) (by omega)
        have hrk := hfr vs[k] (List.getElem_mem (by omega))
        obtain ⟨qw, hqw⟩ : ∃ qw, qw = (wayF xs (ansOf xs nd vs)).1[i].toNat := ⟨_, rfl⟩
        refine ops_nil ?_
        refine run_seq ?_
        refine run_cond_t rfl ?_
        refine run_skip ?_
        refine run_seq ?_
        refine run_block ?_
        refine run_seq ?_
        refine run_region ?_
        have h47 := (G31.sl).at (i := i) (by omega)
        refine ov (xindexN (i := i) Try.underlying31 Try.sizeOf2 rfl rfl rfl ((G31.sl).p (i := i) (by omega)) (by have := (G31.sl).len; omega)) rfl rfl rfl ?_
        refine ov (v := .int .i64 (wayF xs (ansOf xs nd vs)).1[i]) (xloadz Try.isAgg2 rfl (h47) rfl) rfl rfl rfl ?_
        refine ov (xassign rfl) rfl rfl rfl ?_
        refine ops_nil ?_
        refine run_seq ?_
        refine run_draw (by kernel_rfl) (by kernel_rfl) ?_
        refine qv (fun w' x_ => xmove rfl) rfl rfl rfl ?_
        refine qv (fun w' x_ => xmove rfl) rfl rfl rfl ?_
        have h51 := ((show Sl i64c 1 _ _ _ _ vs[k] from (Hv.inner (i := k) (by omega)).ext E)).at (i := qw) (by omega)
        refine qv (fun w' x_ => xindexN (i := qw) Try.underlying31 Try.sizeOf2 rfl rfl (by omega) (((show Sl i64c 1 _ _ _ _ vs[k] from (Hv.inner (i := k) (by omega)).ext E)).p (i := qw) (by omega)) (by have := ((show Sl i64c 1 _ _ _ _ vs[k] from (Hv.inner (i := k) (by omega)).ext E)).len; omega)) rfl rfl rfl ?_
        refine qv (v := .int .i64 vs[k][qw]) (fun w' x_ => xloadz Try.isAgg2 rfl ((h51).ext x_) rfl) rfl rfl rfl ?_
        refine qv (fun w' x_ => xmove rfl) rfl rfl rfl ?_
        refine qv (fun w' x_ => xmove rfl) rfl rfl rfl ?_
        have h55 := (G27.sl).at (i := qw) (by omega)
        refine qv (fun w' x_ => xindexN (i := qw) Try.underlying31 Try.sizeOf2 rfl rfl (by omega) ((G27.sl).p (i := qw) (by omega)) (by have := (G27.sl).len; omega)) rfl rfl rfl ?_
        refine qv (v := .int .i64 (ansOf xs nd vs)[qw]) (fun w' x_ => xloadz Try.isAgg2 rfl ((h55).ext x_) rfl) rfl rfl rfl ?_
        refine qv (fun w' x_ => xneq rfl rfl _ rfl) rfl rfl rfl ?_
        refine qds (fun c57 => ?_) (fun c57 => ?_)
        ·
          refine q_nil ?_
          intro w6 e6
          have z6 := e6.size
          have E := E.trans e6
          replace G27 := G27.ext e6
          replace G31 := G31.ext e6
          replace G_11 := G_11.ext e6
          replace O_b1 := O_b1.ext e6
          refine run_cond_t rfl ?_
          refine run_seq ?_
          refine run_region ?_
          refine ov (xmove rfl) rfl rfl rfl ?_
          refine ov (xmove rfl) rfl rfl rfl ?_
          refine obuild (cs := [.int .i64 (k : Int)]) (sz := 1) Try.underlying31 inf2 rfl rfl (by decide) rfl rfl (by simp [Value.cells]) rfl rfl rfl ?_
          intro b7 w7 e7 hb7 hz7 O7
          have E := E.trans e7
          replace G27 := G27.ext e7
          replace G31 := G31.ext e7
          replace G_11 := G_11.ext e7
          replace O_b1 := O_b1.ext e7
          refine oapp (bytes := 8) (nm := (m_11 + 1)) G_11 rfl rfl elem2 (Own.sl1 (y := (k : Int)) O7) (by intro h; cases h) (by intro y hy; rfl) (by intro y hy u hu; rw [List.mem_singleton] at hy; subst hy; revert u; simp [Value.oneCell', i64c]) (by omega) (by omega) (by omega) (by omega) rfl rfl ?_
          intro p8 c8_ w8 m8 G8
          have hz8 := m8.size
          have E := m8.toExt E (by omega)
          replace G27 := G27.off m8 (by omega)
          replace G31 := G31.off m8 (by omega)
          try replace O_b1 := m8.own O_b1 (by omega)
          try replace O7 := m8.own O7 (by omega)
          refine ov (xassign rfl) rfl rfl rfl ?_
          refine ops_nil ?_
          refine run_exit rfl ?_
          refine run_inBlock ?_
          refine run_region ?_
          refine ov (xadd rfl rfl (by unfold I64; omega)) rfl rfl rfl ?_
          refine ov (xmove rfl) rfl rfl rfl ?_
          refine ops_nil ?_
          refine run_sub ?_ (hback8 (k + 1, p8, (m_11 + 1), c8_, ys_11 ++ [(k : Int)], w8) (⟨E, O_b1, G27, G31, G8.wide (by omega) (by omega), by omega, by omega, by omega, disL_t hy (by omega) (by subst hqw; exact difV_t (i := i) (by omega) (by omega) (by omega) c57)⟩) (by first | omega | (dsimp only; omega)))
          exact ⟨rfl, rfl, rfl, rfl, rfl, rfl, trivial⟩
        ·
          refine q_nil ?_
          intro w6 e6
          have z6 := e6.size
          have E := E.trans e6
          replace G27 := G27.ext e6
          replace G31 := G31.ext e6
          replace G_11 := G_11.ext e6
          replace O_b1 := O_b1.ext e6
          refine run_cond_f rfl ?_
          refine run_skip ?_
          refine run_inBlock ?_
          refine run_region ?_
          refine ov (xadd rfl rfl (by unfold I64; omega)) rfl rfl rfl ?_
          refine ov (xmove rfl) rfl rfl rfl ?_
          refine ops_nil ?_
          refine run_sub ?_ (hback11 (i + 1, w6) (⟨E, O_b1, G27, G31, G_11, by omega, by omega, by subst hqw; exact eqTo_succ (by omega) (by omega) (by omega) (by simpa using c57) he_⟩) (by first | omega | (dsimp only; omega)))
          exact ⟨rfl, rfl, rfl, rfl, rfl, rfl, rfl, rfl, rfl, rfl, rfl, trivial⟩
      ·
        refine ops_nil ?_
        refine run_seq ?_
        refine run_cond_f rfl ?_
        refine run_exit rfl ?_
        refine run_inBlock ?_
        refine run_region ?_
        refine ov (xadd rfl rfl (by unfold I64; omega)) rfl rfl rfl ?_
        refine ov (xmove rfl) rfl rfl rfl ?_
        refine ops_nil ?_
        refine run_sub ?_ (hback8 (k + 1, q_11, m_11, c_11, ys_11, wr2) (⟨E, O_b1, G27, G31, G_11.wide (by omega) (by omega), by omega, by omega, by omega, disL_f hy (by omega) (difV_f (i := i) (by omega) he_)⟩) (by first | omega | (dsimp only; omega)))
        exact ⟨rfl, rfl, rfl, rfl, rfl, rfl, trivial⟩
    ·
      refine ops_nil ?_
      refine run_seq ?_
      refine run_cond_f rfl ?_
      refine run_exit rfl ?_
      refine run_seq ?_
      refine run_region ?_
      refine ov (xmove rfl) rfl rfl rfl ?_
      refine ov (xassign rfl) rfl rfl rfl ?_
      refine ov (xassign rfl) rfl rfl rfl ?_
      refine ops_nil ?_
      refine run_ret Try.func77 (res2 rfl rfl rfl) ?_
      obtain rfl : k = n3 := by omega
      subst hn3
      subst hy
      have he : dissenters xs nd vs = (disL (wayF xs (ansOf xs nd vs)).1 (ansOf xs nd vs) vs vs.length, 0) := by rw [dissenters, if_neg (by omega)]
      exact ⟨_, rfl, E, _, _, _, by rw [he], by rw [he]; exact G_11.wide (by omega) (by omega)⟩

set_option maxHeartbeats 2000000 in
theorem sDissenters_ok (p : Option Addr) (n c : Nat) (xs : List Question) (nd : Int) (vs : List (List Int)) (p3 : Option Addr) (n3 c3 : Nat) (w : World) (H : Sl Question.cells 3 w p n c xs) (hx : ∀ x ∈ xs, x.Label.size ≤ 9223372036854775807) (Hv0 : SnInt64SS w p3 n3 c3 vs) : Ret Try.prog 76 [.slice p n c, .agg #[.int .i64 nd, .slice p3 n3 c3]] w (fun v w' => Ext w w' ∧ ∃ q m d, v = .tuple #[.slice q m d, .int .i64 (dissenters xs nd vs).2] ∧ Ow i64c 1 2 w' w.heap.size w'.heap.size q m d (dissenters xs nd vs).1) := by
  refine ret_of_run (N := 72) Try.func76 rfl rfl rfl ?_
  have hn := H.len
  have hn6 := H.n64
  obtain ⟨hd, Hv⟩ := Hv0
  have hn3 := Hv.len
  have hv6 := Hv.n64
  have hwg : (wayF xs (ansOf xs nd vs)).1.length ≤ xs.length := wayG_ge xs (ansOf xs nd vs) xs.length 0
  have E : Ext w w := Ext.refl w
  refine run_seq ?_
  refine run_region ?_
  refine obox rfl rfl rfl ?_
  intro b1 w1 e1 hb1 hz1 O1
  have E := E.trans e1
  replace O1 : Own w1 b1 [.int .i64 nd, .slice p3 n3 c3] 41 := O1
  refine ov (xassign rfl) rfl rfl rfl ?_
  refine ov (xassign rfl) rfl rfl rfl ?_
  refine ops_nil ?_
  refine run_seq ?_
  refine run_seq ?_
  refine run_region ?_
  refine ov (xmove rfl) rfl rfl rfl ?_
  refine ov (v := .agg #[.int .i64 nd, .slice p3 n3 c3]) (xloadN Try.isAgg41 Try.sizeOf41 rfl (O1.cells) rfl) rfl rfl rfl ?_
  refine oc (xcall Try.call37 rfl) rfl rfl rfl (sIsPoll_ok _ _ _ _ _ _ _ _ _ _ (H.ext E) (by assumption) (Hv.ext E).sn) ?_
  rintro _ w2 ⟨rfl, e2⟩
  have z2 := e2.size
  have E := E.trans e2
  replace O1 := O1.ext e2
  refine obs (fun c15 => ?_) (fun c15 => ?_)
  ·
    have hff := isPoll_form c15
    have hfl := isForm_len hff
    have hfr := isPoll_row c15
    have hfv := isPoll_len c15
    have hfn := isPoll_need c15
    have hAn := areAns_ans xs nd vs
    have hAl := ansOf_length xs nd vs
    refine ov (xnot rfl) rfl rfl rfl ?_
    refine ops_nil ?_
    refine run_cond_f rfl ?_
    refine run_skip ?_
    refine run_seq ?_
    refine run_region ?_
    refine ov (xmove rfl) rfl rfl rfl ?_
    refine ov (v := .agg #[.int .i64 nd, .slice p3 n3 c3]) (xloadN Try.isAgg41 Try.sizeOf41 rfl (O1.cells) rfl) rfl rfl rfl ?_
    refine ov (xfieldAddr fo41f0 rfl) rfl rfl rfl ?_
    refine ov (v := .int .i64 nd) (xload1 Try.isAgg2 rfl (O1.cells) rfl) rfl rfl rfl ?_
    refine oc (xcall Try.call118 rfl) rfl rfl rfl (l27Answers_ok _ _ _ _ _ _ _ _ _ (nd) _ (H.ext E) (Hv.ext E).sn (by assumption) (by omega)) ?_
    rintro _ w3 ⟨e3, q21, m21, d21, rfl, G21⟩
    have z3 := e3.size
    have E := E.trans e3
    replace O1 := O1.ext e3
    refine ov (xassign rfl) rfl rfl rfl ?_
    refine ops_nil ?_
    refine run_seq ?_
    refine run_region ?_
    refine ov (xmove rfl) rfl rfl rfl ?_
    refine ov (xmove rfl) rfl rfl rfl ?_
    refine oc (xcall Try.call99 rfl) rfl rfl rfl (l26Way_ok _ _ _ _ _ _ _ _ _ (H.ext E) (by assumption) (G21.sl) (by assumption) (by assumption)) ?_
    rintro _ w4 ⟨e4, q25, m25, d25, rfl, G25⟩
    have z4 := e4.size
    have E := E.trans e4
    replace G21 := G21.ext e4
    replace O1 := O1.ext e4
    refine ov (xmove rfl) rfl rfl rfl ?_
    refine ov (xextract rfl rfl) rfl rfl rfl ?_
    refine ov (xextract rfl rfl) rfl rfl rfl ?_
    refine ov (xassign rfl) rfl rfl rfl ?_
    refine ov (xassign rfl) rfl rfl rfl ?_
    refine ops_nil ?_
    refine run_seq ?_
    refine run_seq ?_
    refine run_region ?_
    refine ov (xmove rfl) rfl rfl rfl ?_
    refine ov (xeql rfl rfl _ rfl) rfl rfl rfl ?_
    refine ods (fun c29 => ?_) (fun c29 => ?_)
    ·
      refine ops_nil ?_
      refine run_cond_t rfl ?_
      refine run_seq ?_
      refine run_region ?_
      refine ov (xassign rfl) rfl rfl rfl ?_
      refine ov (xassign rfl) rfl rfl rfl ?_
      refine ops_nil ?_
      refine run_ret Try.func76 (res2 rfl rfl rfl) ?_
      have he : dissenters xs nd vs = ([], 5) := by rw [dissenters, pollVerdict_5 c15 c29]; simp []
      exact ⟨_, rfl, E, none, 0, 0, by rw [he], by rw [he]; exact Ow.none _ _ _ _ _ _⟩
    ·
      refine ops_nil ?_
      refine run_cond_f rfl ?_
      refine run_skip ?_
      refine run_seq ?_
      refine run_region ?_
      have hg31 := G25.len
      have hg27 := G21.len
      refine obuild (cs := []) (sz := 1) Try.underlying31 inf2 rfl rfl (by decide) rfl rfl (by simp [Value.cells]) rfl rfl rfl ?_
      intro b5 w5 e5 hb5 hz5 O5
      have E := E.trans e5
      replace G21 := G21.ext e5
      replace G25 := G25.ext e5
      replace O1 := O1.ext e5
      have G5 : Ow i64c 1 2 w5 b5 (b5 + 1) (some ⟨b5, 0, none⟩) 0 0 ([] : List Int) := Own.ow (by simpa [i64c] using O5) rfl (by omega) (Nat.le_refl _) (by omega) (by intro x hx; rfl)
      refine ov (xassign rfl) rfl rfl rfl ?_
      refine ops_nil ?_
      refine run_seq ?_
      refine run_seq ?_
      refine run_region ?_
      refine ov (xassign rfl) rfl rfl rfl ?_
      refine ops_nil ?_
      refine run_block ?_
      refine run_loop (ι := Nat × Option Addr × Nat × Nat × List Int × World) (fun x_ => match x_ with | (k, q_9, m_9, c_9, ys_9, wr) => (Ext w wr) ∧ (Own wr b1 ([.int .i64 nd, .slice p3 n3 c3]) 41) ∧ (Ow i64c 1 2 wr w2.heap.size w3.heap.size q21 m21 d21 (ansOf xs nd vs)) ∧ (Ow i64c 1 2 wr w3.heap.size w4.heap.size q25 m25 d25 (wayF xs (ansOf xs nd vs)).1) ∧ (Ow i64c 1 2 wr b5 wr.heap.size q_9 m_9 c_9 ys_9) ∧ (b5 ≤ wr.heap.size) ∧ (w5.heap.size ≤ wr.heap.size) ∧ (k ≤ n3) ∧ (ys_9 = disL (wayF xs (ansOf xs nd vs)).1 (ansOf xs nd vs) vs k)) (fun x_ => match x_ with | (k, q_9, m_9, c_9, ys_9, wr) => [(3, .pointer (some ⟨b1, 0, none⟩)), (6, .slice q21 m21 d21), (7, .slice q25 m25 d25), (9, .slice q_9 m_9 c_9), (10, .int .i64 (k : Int))]) (fun x_ => match x_ with | (k, q_9, m_9, c_9, ys_9, wr) => wr) (fun x_ => match x_ with | (k, q_9, m_9, c_9, ys_9, wr) => n3 - k) ?_ (0, (some ⟨b5, 0, none⟩), 0, 0, [], w5) (⟨E, O1, G21, G25, G5.wide (by omega) (by omega), by omega, Nat.le_refl _, by omega, rfl⟩) ⟨rfl, rfl, rfl, rfl, rfl, trivial⟩ rfl
      intro i_ hI_ hback9
      obtain ⟨k, q_9, m_9, c_9, ys_9, wr⟩ := i_
      obtain ⟨E, O_b1, G21, G25, G_9, lo_9, lz_wr, hk, hy⟩ := hI_
      try dsimp only
      have zr := E.size
      have lt_b1 := O_b1.lt
      have lg_9 := G_9.len
      have hdl := disL_len (wayF xs (ansOf xs nd vs)).1 (ansOf xs nd vs) vs k
      rw [← hy] at hdl
      refine run_seq ?_
      refine run_seq ?_
      refine run_region ?_
      refine ov (xmove rfl) rfl rfl rfl ?_
      refine ov (xfieldAddr fo41f1 rfl) rfl rfl rfl ?_
      refine ov (v := .slice p3 n3 c3) (xload1 Try.isAgg36 rfl (O_b1.cells) rfl) rfl rfl rfl ?_
      refine ov (xlen Try.underlying36 rfl) rfl rfl rfl ?_
      refine ov (xlss rfl rfl _ rfl) rfl rfl rfl ?_
      refine ods (fun c35 => ?_) (fun c35 => ?_)
      ·
        refine ops_nil ?_
        refine run_cond_t rfl ?_
        refine run_skip ?_
        refine run_seq ?_
        refine run_block ?_
        refine run_seq ?_
        refine run_region ?_
        refine ov (xassign rfl) rfl rfl rfl ?_
        refine ops_nil ?_
        refine run_seq ?_
        refine run_seq ?_
        refine run_region ?_
        refine ov (xassign rfl) rfl rfl rfl ?_
        refine ops_nil ?_
        refine run_block ?_
        refine run_loop (ι := Nat × Bool × World) (fun x_ => match x_ with | (i, ag, wr2) => (Ext w wr2) ∧ (Own wr2 b1 ([.int .i64 nd, .slice p3 n3 c3]) 41) ∧ (Ow i64c 1 2 wr2 w2.heap.size w3.heap.size q21 m21 d21 (ansOf xs nd vs)) ∧ (Ow i64c 1 2 wr2 w3.heap.size w4.heap.size q25 m25 d25 (wayF xs (ansOf xs nd vs)).1) ∧ (Ow i64c 1 2 wr2 b5 wr.heap.size q_9 m_9 c_9 ys_9) ∧ (wr.heap.size ≤ wr2.heap.size) ∧ (i ≤ (wayF xs (ansOf xs nd vs)).1.length) ∧ (ag = difTo (wayF xs (ansOf xs nd vs)).1 (ansOf xs nd vs) vs[k] i)) (fun x_ => match x_ with | (i, ag, wr2) => [(3, .pointer (some ⟨b1, 0, none⟩)), (6, .slice q21 m21 d21), (7, .slice q25 m25 d25), (9, .slice q_9 m_9 c_9), (10, .int .i64 (k : Int)), (11, .bool ag), (12, .int .i64 (i : Int))]) (fun x_ => match x_ with | (i, ag, wr2) => wr2) (fun x_ => match x_ with | (i, ag, wr2) => (wayF xs (ansOf xs nd vs)).1.length - i) ?_ (0, false, wr) (⟨E, O_b1, G21, G25, G_9, Nat.le_refl _, by omega, rfl⟩) ⟨rfl, rfl, rfl, rfl, rfl, rfl, rfl, trivial⟩ rfl
        intro i_ hI_ hback13
        obtain ⟨i, ag, wr2⟩ := i_
        obtain ⟨E, O_b1, G21, G25, G_9, lz_wr2, hi, hb_⟩ := hI_
        try dsimp only
        have zr := E.size
        have lt_b1 := O_b1.lt
        refine run_seq ?_
        refine run_seq ?_
        refine run_region ?_
        refine ov (xmove rfl) rfl rfl rfl ?_
        refine ov (xmove rfl) rfl rfl rfl ?_
        refine ov (xlen Try.underlying31 rfl) rfl rfl rfl ?_
        refine ov (xlss rfl rfl _ rfl) rfl rfl rfl ?_
        refine ods (fun c41 => ?_) (fun c41 => ?_)
        ·
          have hwm := wayF_mem (az := (ansOf xs nd vs)) hff (i := i) (by omega)
          have hrk := hfr vs[k] (List.getElem_mem (by omega))
          obtain ⟨qw, hqw⟩ : ∃ qw, qw = (wayF xs (ansOf xs nd vs)).1[i].toNat := ⟨_, rfl⟩
          refine ops_nil ?_
          refine run_cond_t rfl ?_
          refine run_skip ?_
          refine run_seq ?_
          refine run_block ?_
          refine run_draw (by kernel_rfl) (by kernel_rfl) ?_
          refine qv (fun w' x_ => xmove rfl) rfl rfl rfl ?_
          refine qbs (fun c44 => ?_) (fun c44 => ?_)
          ·
            refine qv (fun w' x_ => xmove rfl) rfl rfl rfl ?_
            refine qg rfl rfl rfl ?_
            refine qg rfl rfl rfl ?_
            refine qg rfl rfl rfl ?_
            refine qg rfl rfl rfl ?_
            refine qg rfl rfl rfl ?_
            refine qg rfl rfl rfl ?_
            refine qg rfl rfl rfl ?_
            refine qg rfl rfl rfl ?_
            refine qg rfl rfl rfl ?_
            refine qg rfl rfl rfl ?_
            refine qg rfl rfl rfl ?_
            refine qg rfl rfl rfl ?_
            refine qg rfl rfl rfl ?_
            refine qg rfl rfl rfl ?_
            refine qg rfl rfl rfl ?_
            refine qg rfl rfl rfl ?_
            refine qg rfl rfl rfl ?_
            refine qg rfl rfl rfl ?_
            refine qg rfl rfl rfl ?_
            refine qv (fun w' x_ => xpick_t rfl rfl) rfl rfl rfl ?_
            refine qv (fun w' x_ => xassign rfl) rfl rfl rfl ?_
            refine q_nil ?_
            intro w6 e6
            have z6 := e6.size
            have E := E.trans e6
            replace G21 := G21.ext e6
            replace G25 := G25.ext e6
            replace G_9 := G_9.ext e6
            replace O_b1 := O_b1.ext e6
            refine run_inBlock ?_
            refine run_region ?_
            refine ov (xmove rfl) rfl rfl rfl ?_
            refine ov (xadd rfl rfl (by unfold I64; omega)) rfl rfl rfl ?_
            refine ov (xassign rfl) rfl rfl rfl ?_
            refine ops_nil ?_
            refine run_sub ?_ (hback13 (i + 1, true, w6) (⟨E, O_b1, G21, G25, G_9, by omega, by omega, by subst hqw; rw [difTo_succ (by omega) (by omega) (by omega), ← hb_]; simp [c44]⟩) (by first | omega | (dsimp only; omega)))
            exact ⟨rfl, rfl, rfl, rfl, rfl, rfl, rfl, trivial⟩
          ·
            refine qv (fun w' x_ => xmove rfl) rfl rfl rfl ?_
            refine qv (fun w' x_ => xfieldAddr fo41f1 rfl) rfl rfl rfl ?_
            refine qv (v := .slice p3 n3 c3) (fun w' x_ => xload1 Try.isAgg36 rfl ((O_b1.cells).ext x_) rfl) rfl rfl rfl ?_
            refine qv (fun w' x_ => xmove rfl) rfl rfl rfl ?_
            have h49 := (Hv.ext E).at (i := k) (by omega)
            refine qv (fun w' x_ => xindexN (i := k) Try.underlying36 Try.sizeOf31 rfl rfl rfl ((Hv.ext E).p (i := k) (by omega)) (by have := (Hv.ext E).len; omega)) rfl rfl rfl ?_
            refine qv (v := .slice (hd k).p (hd k).n (hd k).c) (fun w' x_ => xloadz Try.isAgg31 rfl ((h49).ext x_) rfl) rfl rfl rfl ?_
            refine qv (fun w' x_ => xmove rfl) rfl rfl rfl ?_
            refine qv (fun w' x_ => xmove rfl) rfl rfl rfl ?_
            have h53 := (G25.sl).at (i := i) (by omega)
            refine qv (fun w' x_ => xindexN (i := i) Try.underlying31 Try.sizeOf2 rfl rfl rfl ((G25.sl).p (i := i) (by omega)) (by have := (G25.sl).len; omega)) rfl rfl rfl ?_
            refine qv (v := .int .i64 (wayF xs (ansOf xs nd vs)).1[i]) (fun w' x_ => xloadz Try.isAgg2 rfl ((h53).ext x_) rfl) rfl rfl rfl ?_
            have h55 := ((show Sl i64c 1 _ _ _ _ vs[k] from (Hv.inner (i := k) (by omega)).ext E)).at (i := qw) (by omega)
            refine qv (fun w' x_ => xindexN (i := qw) Try.underlying31 Try.sizeOf2 rfl rfl (by omega) (((show Sl i64c 1 _ _ _ _ vs[k] from (Hv.inner (i := k) (by omega)).ext E)).p (i := qw) (by omega)) (by have := ((show Sl i64c 1 _ _ _ _ vs[k] from (Hv.inner (i := k) (by omega)).ext E)).len; omega)) rfl rfl rfl ?_
            refine qv (v := .int .i64 vs[k][qw]) (fun w' x_ => xloadz Try.isAgg2 rfl ((h55).ext x_) rfl) rfl rfl rfl ?_
            refine qv (fun w' x_ => xmove rfl) rfl rfl rfl ?_
            refine qv (fun w' x_ => xmove rfl) rfl rfl rfl ?_
            refine qv (fun w' x_ => xmove rfl) rfl rfl rfl ?_
            have h60 := (G25.sl).at (i := i) (by omega)
            refine qv (fun w' x_ => xindexN (i := i) Try.underlying31 Try.sizeOf2 rfl rfl rfl ((G25.sl).p (i := i) (by omega)) (by have := (G25.sl).len; omega)) rfl rfl rfl ?_
            refine qv (v := .int .i64 (wayF xs (ansOf xs nd vs)).1[i]) (fun w' x_ => xloadz Try.isAgg2 rfl ((h60).ext x_) rfl) rfl rfl rfl ?_
            have h62 := (G21.sl).at (i := qw) (by omega)
            refine qv (fun w' x_ => xindexN (i := qw) Try.underlying31 Try.sizeOf2 rfl rfl (by omega) ((G21.sl).p (i := qw) (by omega)) (by have := (G21.sl).len; omega)) rfl rfl rfl ?_
            refine qv (v := .int .i64 (ansOf xs nd vs)[qw]) (fun w' x_ => xloadz Try.isAgg2 rfl ((h62).ext x_) rfl) rfl rfl rfl ?_
            refine qv (fun w' x_ => xneq rfl rfl _ rfl) rfl rfl rfl ?_
            refine qds (fun c64 => ?_) (fun c64 => ?_)
            ·
              refine qv (fun w' x_ => xpick_f rfl rfl) rfl rfl rfl ?_
              refine qv (fun w' x_ => xassign rfl) rfl rfl rfl ?_
              refine q_nil ?_
              intro w6 e6
              have z6 := e6.size
              have E := E.trans e6
              replace G21 := G21.ext e6
              replace G25 := G25.ext e6
              replace G_9 := G_9.ext e6
              replace O_b1 := O_b1.ext e6
              refine run_inBlock ?_
              refine run_region ?_
              refine ov (xmove rfl) rfl rfl rfl ?_
              refine ov (xadd rfl rfl (by unfold I64; omega)) rfl rfl rfl ?_
              refine ov (xassign rfl) rfl rfl rfl ?_
              refine ops_nil ?_
              refine run_sub ?_ (hback13 (i + 1, true, w6) (⟨E, O_b1, G21, G25, G_9, by omega, by omega, by subst hqw; rw [difTo_succ (by omega) (by omega) (by omega), ← hb_]; simp [c44, c64]⟩) (by first | omega | (dsimp only; omega)))
              exact ⟨rfl, rfl, rfl, rfl, rfl, rfl, rfl, trivial⟩
            ·
              refine qv (fun w' x_ => xpick_f rfl rfl) rfl rfl rfl ?_
              refine qv (fun w' x_ => xassign rfl) rfl rfl rfl ?_
              refine q_nil ?_
              intro w6 e6
              have z6 := e6.size
              have E := E.trans e6
              replace G21 := G21.ext e6
              replace G25 := G25.ext e6
              replace G_9 := G_9.ext e6
              replace O_b1 := O_b1.ext e6
              refine run_inBlock ?_
              refine run_region ?_
              refine ov (xmove rfl) rfl rfl rfl ?_
              refine ov (xadd rfl rfl (by unfold I64; omega)) rfl rfl rfl ?_
              refine ov (xassign rfl) rfl rfl rfl ?_
              refine ops_nil ?_
              refine run_sub ?_ (hback13 (i + 1, false, w6) (⟨E, O_b1, G21, G25, G_9, by omega, by omega, by subst hqw; rw [difTo_succ (by omega) (by omega) (by omega), ← hb_]; simp [c44, c64]⟩) (by first | omega | (dsimp only; omega)))
              exact ⟨rfl, rfl, rfl, rfl, rfl, rfl, rfl, trivial⟩
        ·
          refine ops_nil ?_
          refine run_cond_f rfl ?_
          refine run_exit rfl ?_
          refine run_seq ?_
          refine run_region ?_
          refine ov (xmove rfl) rfl rfl rfl ?_
          refine obs (fun c66 => ?_) (fun c66 => ?_)
          ·
            refine ops_nil ?_
            refine run_cond_t rfl ?_
            refine run_region ?_
            refine ov (xmove rfl) rfl rfl rfl ?_
            refine ov (xmove rfl) rfl rfl rfl ?_
            refine obuild (cs := [.int .i64 (k : Int)]) (sz := 1) Try.underlying31 inf2 rfl rfl (by decide) rfl rfl (by simp [Value.cells]) rfl rfl rfl ?_
            intro b6 w6 e6 hb6 hz6 O6
            have E := E.trans e6
            replace G21 := G21.ext e6
            replace G25 := G25.ext e6
            replace G_9 := G_9.ext e6
            replace O_b1 := O_b1.ext e6
            refine oapp (bytes := 8) (nm := (m_9 + 1)) G_9 rfl rfl elem2 (Own.sl1 (y := (k : Int)) O6) (by intro h; cases h) (by intro y hy; rfl) (by intro y hy u hu; rw [List.mem_singleton] at hy; subst hy; revert u; simp [Value.oneCell', i64c]) (by omega) (by omega) (by omega) (by omega) rfl rfl ?_
            intro p7 c7_ w7 m7 G7
            have hz7 := m7.size
            have E := m7.toExt E (by omega)
            replace G21 := G21.off m7 (by omega)
            replace G25 := G25.off m7 (by omega)
            try replace O_b1 := m7.own O_b1 (by omega)
            try replace O6 := m7.own O6 (by omega)
            refine ov (xassign rfl) rfl rfl rfl ?_
            refine ops_nil ?_
            refine run_inBlock ?_
            refine run_region ?_
            refine ov (xmove rfl) rfl rfl rfl ?_
            refine ov (xadd rfl rfl (by unfold I64; omega)) rfl rfl rfl ?_
            refine ov (xassign rfl) rfl rfl rfl ?_
            refine ops_nil ?_
            refine run_sub ?_ (hback9 (k + 1, p7, (m_9 + 1), c7_, ys_9 ++ [(k : Int)], w7) (⟨E, O_b1, G21, G25, G7.wide (by omega) (by omega), by omega, by omega, by omega, disL_t hy (by omega) (by rw [← difTo_all (i := i) (by omega), ← hb_]; exact c66)⟩) (by first | omega | (dsimp only; omega)))
            exact ⟨rfl, rfl, rfl, rfl, rfl, trivial⟩
          ·
            refine ops_nil ?_
            refine run_cond_f rfl ?_
            refine run_skip ?_
            refine run_inBlock ?_
            refine run_region ?_
            refine ov (xmove rfl) rfl rfl rfl ?_
            refine ov (xadd rfl rfl (by unfold I64; omega)) rfl rfl rfl ?_
            refine ov (xassign rfl) rfl rfl rfl ?_
            refine ops_nil ?_
            refine run_sub ?_ (hback9 (k + 1, q_9, m_9, c_9, ys_9, wr2) (⟨E, O_b1, G21, G25, G_9.wide (by omega) (by omega), by omega, by omega, by omega, disL_f hy (by omega) (by rw [← difTo_all (i := i) (by omega), ← hb_]; exact c66)⟩) (by first | omega | (dsimp only; omega)))
            exact ⟨rfl, rfl, rfl, rfl, rfl, trivial⟩
      ·
        refine ops_nil ?_
        refine run_cond_f rfl ?_
        refine run_exit rfl ?_
        refine run_seq ?_
        refine run_region ?_
        refine ov (xmove rfl) rfl rfl rfl ?_
        refine ov (xassign rfl) rfl rfl rfl ?_
        refine ov (xassign rfl) rfl rfl rfl ?_
        refine ops_nil ?_
        refine run_ret Try.func76 (res2 rfl rfl rfl) ?_
        obtain rfl : k = n3 := by omega
        subst hn3
        subst hy
        have he : dissenters xs nd vs = (disL (wayF xs (ansOf xs nd vs)).1 (ansOf xs nd vs) vs vs.length, 0) := by rw [dissenters, pollVerdict_0 c15 c29]; simp []
        exact ⟨_, rfl, E, _, _, _, by rw [he], by rw [he]; exact G_9.wide (by omega) (by omega)⟩
  ·
    refine ov (xnot rfl) rfl rfl rfl ?_
    refine ops_nil ?_
    refine run_cond_t rfl ?_
    refine run_seq ?_
    refine run_region ?_
    refine ov (xassign rfl) rfl rfl rfl ?_
    refine ov (xassign rfl) rfl rfl rfl ?_
    refine ops_nil ?_
    refine run_ret Try.func76 (res2 rfl rfl rfl) ?_
    have he : dissenters xs nd vs = ([], 1) := by rw [dissenters, pollVerdict_1 c15]; simp []
    exact ⟨_, rfl, E, none, 0, 0, by rw [he], by rw [he]; exact Ow.none _ _ _ _ _ _⟩
end Go.Proofs.Ytinpkihmkfiidaa
