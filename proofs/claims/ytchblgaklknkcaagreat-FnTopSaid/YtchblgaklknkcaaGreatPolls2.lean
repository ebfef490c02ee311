/-
  What polls say. No condition beyond those written in each theorem.
-/
import Derived.Test.YtchblgaklknkcaaGreatPolls
namespace Go.Proofs.YtchblgaklknkcaaGreat
open Go.RowKit
set_option linter.unusedVariables false
set_option linter.unusedSimpArgs false
set_option linter.unusedSectionVars false
set_option maxRecDepth 4000
theorem pollVerdict_1 {xs : List Question} {nd : Int} {vs : List (List Int)} (h : isPoll xs nd vs = false) : pollVerdict xs nd vs = (0, 1) := by rw [pollVerdict, if_pos h]
theorem pollVerdict_5 {xs : List Question} {nd : Int} {vs : List (List Int)} (h : isPoll xs nd vs = true) (h2 : (wayF xs (ansOf xs nd vs)).2 = 0) : pollVerdict xs nd vs = (0, 5) := by rw [pollVerdict, if_neg (by simp [h]), verdictOf_ans (isPoll_form h), if_pos h2]
theorem pollVerdict_0 {xs : List Question} {nd : Int} {vs : List (List Int)} (h : isPoll xs nd vs = true) (h2 : (wayF xs (ansOf xs nd vs)).2 ≠ 0) : pollVerdict xs nd vs = ((wayF xs (ansOf xs nd vs)).2, 0) := by rw [pollVerdict, if_neg (by simp [h]), verdictOf_ans (isPoll_form h), if_neg h2]
set_option maxHeartbeats 1000000 in
theorem answers_ok (p : Option Addr) (n c : Nat) (xs : List Question) (nd : Int) (vs : List (List Int)) (p3 : Option Addr) (n3 c3 : Nat) (w : World) (H : Sl Question.cells 3 w p n c xs) (Hv0 : SnInt64SS w p3 n3 c3 vs) (hr : ∀ v ∈ vs, v.length = xs.length) (hl : xs.length ≤ 10) : Ret Tryz.prog 27 [.agg #[.int .i64 nd, .slice p3 n3 c3], .slice p n c] w (fun v w' => Ext w w' ∧ ∃ q m d, v = .slice q m d ∧ Ow i64c 1 2 w' w.heap.size w'.heap.size q m d (ansOf xs nd vs)) := by
 refine ret_of_run (N := 38) Tryz.func27 rfl rfl rfl ?_
 have hn := H.len
 have hn6 := H.n64
 have hn3 := Hv0.len
 have E : Ext w w := Ext.refl w
 refine sr_ ?_
 refine obox rfl rfl rfl ?_
 intro b1 w1 e1 hb1 hz1 O1
 have E := E.trans e1
 replace O1 : Own w1 b1 [.int .i64 nd, .slice p3 n3 c3] 38 := O1
 refine vn_ rfl rfl rfl ?_
 refine sr_ ?_
 refine obuild (cs := []) (sz := 1) Tryz.underlying24 inf2 rfl rfl (by decide) rfl rfl (by simp [Value.cells]) rfl rfl rfl ?_
 intro b2 w2 e2 hb2 hz2 O2
 have E := E.trans e2
 replace O1 := O1.ext e2
 have G2 : Ow i64c 1 2 w2 b2 (b2 + 1) (some ⟨b2, 0, none⟩) 0 0 ([] : List Int) := Own.ow (by simpa [i64c] using O2) rfl (by omega) (Nat.le_refl _) (by omega) (by intro x hx; rfl)
 refine vn_ rfl rfl rfl ?_
 refine run_seq ?_
 refine sr_ ?_
 refine vm_ rfl rfl rfl ?_
 refine oz_ (xlen Tryz.underlying35 rfl) rfl rfl ?_
 refine vm_ rfl rfl rfl ?_
 refine ops_nil ?_
 refine run_block ?_
 refine run_loop (ι := Nat × Option Addr × Nat × Nat × List Int × World) (fun x_ => match x_ with | (k, q_5, m_5, c_5, ys_5, wr) => (Ext w wr) ∧ (Own wr b1 ([.int .i64 nd, .slice p3 n3 c3]) 38) ∧ (Ow i64c 1 2 wr b2 wr.heap.size q_5 m_5 c_5 ys_5) ∧ (b2 ≤ wr.heap.size) ∧ (w2.heap.size ≤ wr.heap.size) ∧ (k ≤ n) ∧ (m_5 = k) ∧ (ys_5 = (List.range k).map (ansAt nd vs))) (fun x_ => match x_ with | (k, q_5, m_5, c_5, ys_5, wr) => [(2, .pointer (some ⟨b1, 0, none⟩)), (5, .slice q_5 m_5 c_5), (9, .int .i64 (n : Int)), (10, .int .i64 (k : Int))]) (fun x_ => match x_ with | (k, q_5, m_5, c_5, ys_5, wr) => wr) (fun x_ => match x_ with | (k, q_5, m_5, c_5, ys_5, wr) => n - k) ?_ (0, (some ⟨b2, 0, none⟩), 0, 0, [], w2) (⟨E, O1, G2.wide (by omega) (by omega), by omega, Nat.le_refl _, by omega, rfl, rfl⟩) ⟨rfl, rfl, rfl, rfl, trivial⟩ rfl
 intro i_ hI_ hback3
 obtain ⟨k, q_5, m_5, c_5, ys_5, wr⟩ := i_
 obtain ⟨E, O_b1, G_5, lo_5, lz_wr, hk, hm, hy⟩ := hI_
 try dsimp only
 have zr := E.size
 have lt_b1 := O_b1.lt
 have lg_5 := G_5.len
 refine sr_ ?_
 refine oz_ (xlss rfl rfl _ rfl) rfl rfl ?_
 refine ods (fun c11 => ?_) (fun c11 => ?_)
 rotate_left
 ·
  refine ops_nil ?_
  refine run_seq ?_
  refine run_cond_f rfl ?_
  refine run_exit rfl ?_
  refine sr_ ?_
  refine vm_ rfl rfl rfl ?_
  refine vn_ rfl rfl rfl ?_
  refine run_ret Tryz.func27 (res1 rfl rfl) ?_
  obtain rfl : k = n := by omega
  exact ⟨_, rfl, E, _, _, _, rfl, by rw [ansOf, ← hn, ← hy]; exact G_5.wide (by omega) (by omega)⟩
 refine ops_nil ?_
 refine run_seq ?_
 refine run_cond_t rfl ?_
 refine run_skip ?_
 refine run_seq ?_
 refine run_block ?_
 refine sr_ ?_
 refine vm_ rfl rfl rfl ?_
 refine vn_ rfl rfl rfl ?_
 refine run_block ?_
 refine run_seq ?_
 refine run_draw (by kernel_rfl) (by kernel_rfl) ?_
 refine qv (v := .agg #[.int .i64 nd, .slice p3 n3 c3]) (fun w' x_ => xloadN Tryz.isAgg38 Tryz.sizeOf38 rfl ((O_b1.cells).ext x_) rfl) rfl rfl rfl ?_
 refine qv (fun w' x_ => xmove rfl) rfl rfl rfl ?_
 have t19 := fun (w' : World) (x_ : Ext wr w') => Ret.q (w := w') (tally_ok nd vs _ _ _ k (k : Int) 1 _ ((Hv0.ext E).ext x_).sn (fun v m => by rw [hr v m]; omega) rfl)
 refine qc (fun w' => xcall Tryz.call66 rfl) rfl rfl rfl t19 ?_
 clear t19
 refine qv (fun w' x_ => xfieldAddr fo38f0 rfl) rfl rfl rfl ?_
 refine qv (v := .int .i64 nd) (fun w' x_ => xload1 Tryz.isAgg2 rfl ((O_b1.cells).ext x_) rfl) rfl rfl rfl ?_
 refine qv (fun w' x_ => xgeq rfl rfl _ rfl) rfl rfl rfl ?_
 refine qds (fun c22 => ?_) (fun c22 => ?_)
 ·
  refine qv (fun w' x_ => xassign rfl) rfl rfl rfl ?_
  refine q_nil ?_
  intro w3 e3
  have z3 := e3.size
  have E := E.trans e3
  replace G_5 := G_5.ext e3
  replace O_b1 := O_b1.ext e3
  refine run_cond_t rfl ?_
  refine run_region ?_
  refine vm_ rfl rfl rfl ?_
  refine obuild (cs := [.int .i64 1]) (sz := 1) Tryz.underlying24 inf2 rfl rfl (by decide) rfl rfl (by simp [Value.cells]) rfl rfl rfl ?_
  intro b4 w4 e4 hb4 hz4 O4
  have E := E.trans e4
  replace G_5 := G_5.ext e4
  replace O_b1 := O_b1.ext e4
  refine oapp (bytes := 8) (nm := (m_5 + 1)) G_5 rfl rfl elem2 (Own.sl1 (y := (1 : Int)) O4) (by intro h; cases h) (by intro y hy; rfl) (by intro y hy u hu; rw [List.mem_singleton] at hy; subst hy; revert u; simp [Value.oneCell', i64c]) (by omega) (by omega) (by omega) (by omega) rfl rfl ?_
  intro p5 c5_ w5 m5 G5
  have hz5 := m5.size
  have E := m5.toExt E (by omega)
  try replace O_b1 := m5.own O_b1 (by omega)
  refine vn_ rfl rfl rfl ?_
  refine run_inBlock ?_
  refine run_inBlock ?_
  refine run_region ?_
  refine oz_ (xadd rfl rfl (by unfold I64; omega)) rfl rfl ?_
  refine vm_ rfl rfl rfl ?_
  refine ops_nil ?_
  refine run_sub ?_ (hback3 (k + 1, p5, (m_5 + 1), c5_, ys_5 ++ [1], w5) (⟨E, O_b1, G5.wide (by omega) (by omega), by omega, by omega, by omega, by omega, ansOf_push hy (by rw [ansAt, if_pos c22])⟩) (by first | omega | (dsimp only; omega)))
  exact ⟨rfl, rfl, rfl, rfl, trivial⟩
 refine qv (fun w' x_ => xassign rfl) rfl rfl rfl ?_
 refine q_nil ?_
 intro w3 e3
 have z3 := e3.size
 have E := E.trans e3
 replace G_5 := G_5.ext e3
 replace O_b1 := O_b1.ext e3
 refine run_cond_f rfl ?_
 refine run_seq ?_
 refine run_draw (by kernel_rfl) (by kernel_rfl) ?_
 refine qv (v := .agg #[.int .i64 nd, .slice p3 n3 c3]) (fun w' x_ => xloadN Tryz.isAgg38 Tryz.sizeOf38 rfl ((O_b1.cells).ext x_) rfl) rfl rfl rfl ?_
 refine qv (fun w' x_ => xmove rfl) rfl rfl rfl ?_
 have t29 := fun (w' : World) (x_ : Ext w3 w') => Ret.q (w := w') (tally_ok nd vs _ _ _ k (k : Int) 0 _ ((Hv0.ext E).ext x_).sn (fun v m => by rw [hr v m]; omega) rfl)
 refine qc (fun w' => xcall Tryz.call66 rfl) rfl rfl rfl t29 ?_
 clear t29
 refine qv (fun w' x_ => xfieldAddr fo38f0 rfl) rfl rfl rfl ?_
 refine qv (v := .int .i64 nd) (fun w' x_ => xload1 Tryz.isAgg2 rfl ((O_b1.cells).ext x_) rfl) rfl rfl rfl ?_
 refine qv (fun w' x_ => xgeq rfl rfl _ rfl) rfl rfl rfl ?_
 refine qds (fun c32 => ?_) (fun c32 => ?_)
 ·
  refine qv (fun w' x_ => xassign rfl) rfl rfl rfl ?_
  refine q_nil ?_
  intro w4 e4
  have z4 := e4.size
  have E := E.trans e4
  replace G_5 := G_5.ext e4
  replace O_b1 := O_b1.ext e4
  refine run_cond_t rfl ?_
  refine run_region ?_
  refine vm_ rfl rfl rfl ?_
  refine obuild (cs := [.int .i64 0]) (sz := 1) Tryz.underlying24 inf2 rfl rfl (by decide) rfl rfl (by simp [Value.cells]) rfl rfl rfl ?_
  intro b5 w5 e5 hb5 hz5 O5
  have E := E.trans e5
  replace G_5 := G_5.ext e5
  replace O_b1 := O_b1.ext e5
  refine oapp (bytes := 8) (nm := (m_5 + 1)) G_5 rfl rfl elem2 (Own.sl1 (y := (0 : Int)) O5) (by intro h; cases h) (by intro y hy; rfl) (by intro y hy u hu; rw [List.mem_singleton] at hy; subst hy; revert u; simp [Value.oneCell', i64c]) (by omega) (by omega) (by omega) (by omega) rfl rfl ?_
  intro p6 c6_ w6 m6 G6
  have hz6 := m6.size
  have E := m6.toExt E (by omega)
  try replace O_b1 := m6.own O_b1 (by omega)
  refine vn_ rfl rfl rfl ?_
  refine run_inBlock ?_
  refine run_inBlock ?_
  refine run_region ?_
  refine oz_ (xadd rfl rfl (by unfold I64; omega)) rfl rfl ?_
  refine vm_ rfl rfl rfl ?_
  refine ops_nil ?_
  refine run_sub ?_ (hback3 (k + 1, p6, (m_5 + 1), c6_, ys_5 ++ [0], w6) (⟨E, O_b1, G6.wide (by omega) (by omega), by omega, by omega, by omega, by omega, ansOf_push hy (by rw [ansAt, if_neg c22, if_pos c32])⟩) (by first | omega | (dsimp only; omega)))
  exact ⟨rfl, rfl, rfl, rfl, trivial⟩
 refine qv (fun w' x_ => xassign rfl) rfl rfl rfl ?_
 refine q_nil ?_
 intro w4 e4
 have z4 := e4.size
 have E := E.trans e4
 replace G_5 := G_5.ext e4
 replace O_b1 := O_b1.ext e4
 refine run_cond_f rfl ?_
 refine run_region ?_
 refine vm_ rfl rfl rfl ?_
 refine obuild (cs := [.int .i64 (-1)]) (sz := 1) Tryz.underlying24 inf2 rfl rfl (by decide) rfl rfl (by simp [Value.cells]) rfl rfl rfl ?_
 intro b5 w5 e5 hb5 hz5 O5
 have E := E.trans e5
 replace G_5 := G_5.ext e5
 replace O_b1 := O_b1.ext e5
 refine oapp (bytes := 8) (nm := (m_5 + 1)) G_5 rfl rfl elem2 (Own.sl1 (y := (-1 : Int)) O5) (by intro h; cases h) (by intro y hy; rfl) (by intro y hy u hu; rw [List.mem_singleton] at hy; subst hy; revert u; simp [Value.oneCell', i64c]) (by omega) (by omega) (by omega) (by omega) rfl rfl ?_
 intro p6 c6_ w6 m6 G6
 have hz6 := m6.size
 have E := m6.toExt E (by omega)
 try replace O_b1 := m6.own O_b1 (by omega)
 refine vn_ rfl rfl rfl ?_
 refine run_inBlock ?_
 refine run_inBlock ?_
 refine run_region ?_
 refine oz_ (xadd rfl rfl (by unfold I64; omega)) rfl rfl ?_
 refine vm_ rfl rfl rfl ?_
 refine ops_nil ?_
 refine run_sub ?_ (hback3 (k + 1, p6, (m_5 + 1), c6_, ys_5 ++ [-1], w6) (⟨E, O_b1, G6.wide (by omega) (by omega), by omega, by omega, by omega, by omega, ansOf_push hy (by rw [ansAt, if_neg c22, if_neg c32])⟩) (by first | omega | (dsimp only; omega)))
 exact ⟨rfl, rfl, rfl, rfl, trivial⟩
set_option maxHeartbeats 1000000 in
theorem l27Answers_ok (p : Option Addr) (n c : Nat) (xs : List Question) (nd : Int) (vs : List (List Int)) (p3 : Option Addr) (n3 c3 : Nat) (need : Int) (w : World) (H : Sl Question.cells 3 w p n c xs) (Hv0 : SnInt64SS w p3 n3 c3 vs) (hr : ∀ v ∈ vs, v.length = xs.length) (hl : xs.length ≤ 10) : Ret Tryz.prog 30 [.slice p n c, .agg #[.int .i64 nd, .slice p3 n3 c3], .int .i64 need] w (fun v w' => Ext w w' ∧ ∃ q m d, v = .slice q m d ∧ Ow i64c 1 2 w' w.heap.size w'.heap.size q m d (ansOf xs need vs)) := by
 refine ret_of_run (N := 38) Tryz.func30 rfl rfl rfl ?_
 have hn := H.len
 have hn6 := H.n64
 have hn3 := Hv0.len
 have E : Ext w w := Ext.refl w
 refine sr_ ?_
 refine obox rfl rfl rfl ?_
 intro b1 w1 e1 hb1 hz1 O1
 have E := E.trans e1
 replace O1 : Own w1 b1 [.int .i64 nd, .slice p3 n3 c3] 38 := O1
 refine vn_ rfl rfl rfl ?_
 refine sr_ ?_
 refine obuild (cs := []) (sz := 1) Tryz.underlying24 inf2 rfl rfl (by decide) rfl rfl (by simp [Value.cells]) rfl rfl rfl ?_
 intro b2 w2 e2 hb2 hz2 O2
 have E := E.trans e2
 replace O1 := O1.ext e2
 have G2 : Ow i64c 1 2 w2 b2 (b2 + 1) (some ⟨b2, 0, none⟩) 0 0 ([] : List Int) := Own.ow (by simpa [i64c] using O2) rfl (by omega) (Nat.le_refl _) (by omega) (by intro x hx; rfl)
 refine vn_ rfl rfl rfl ?_
 refine run_seq ?_
 refine sr_ ?_
 refine vn_ rfl rfl rfl ?_
 refine run_block ?_
 refine run_loop (ι := Nat × Option Addr × Nat × Nat × List Int × World) (fun x_ => match x_ with | (k, q_7, m_7, c_7, ys_7, wr) => (Ext w wr) ∧ (Own wr b1 ([.int .i64 nd, .slice p3 n3 c3]) 38) ∧ (Ow i64c 1 2 wr b2 wr.heap.size q_7 m_7 c_7 ys_7) ∧ (b2 ≤ wr.heap.size) ∧ (w2.heap.size ≤ wr.heap.size) ∧ (k ≤ n) ∧ (m_7 = k) ∧ (ys_7 = (List.range k).map (ansAt need vs))) (fun x_ => match x_ with | (k, q_7, m_7, c_7, ys_7, wr) => [(0, .slice p n c), (2, .int .i64 need), (4, .pointer (some ⟨b1, 0, none⟩)), (7, .slice q_7 m_7 c_7), (8, .int .i64 (k : Int))]) (fun x_ => match x_ with | (k, q_7, m_7, c_7, ys_7, wr) => wr) (fun x_ => match x_ with | (k, q_7, m_7, c_7, ys_7, wr) => n - k) ?_ (0, (some ⟨b2, 0, none⟩), 0, 0, [], w2) (⟨E, O1, G2.wide (by omega) (by omega), by omega, Nat.le_refl _, by omega, rfl, rfl⟩) ⟨rfl, rfl, rfl, rfl, rfl, trivial⟩ rfl
 intro i_ hI_ hback3
 obtain ⟨k, q_7, m_7, c_7, ys_7, wr⟩ := i_
 obtain ⟨E, O_b1, G_7, lo_7, lz_wr, hk, hm, hy⟩ := hI_
 try dsimp only
 have zr := E.size
 have lt_b1 := O_b1.lt
 have lg_7 := G_7.len
 refine run_seq ?_
 refine sr_ ?_
 refine vm_ rfl rfl rfl ?_
 refine vm_ rfl rfl rfl ?_
 refine oz_ (xlen Tryz.underlying35 rfl) rfl rfl ?_
 refine oz_ (xlss rfl rfl _ rfl) rfl rfl ?_
 refine ods (fun c13 => ?_) (fun c13 => ?_)
 rotate_left
 ·
  refine cg_ rfl ?_
  refine run_exit rfl ?_
  refine sr_ ?_
  refine vm_ rfl rfl rfl ?_
  refine vn_ rfl rfl rfl ?_
  refine run_ret Tryz.func30 (res1 rfl rfl) ?_
  obtain rfl : k = n := by omega
  exact ⟨_, rfl, E, _, _, _, rfl, by rw [ansOf, ← hn, ← hy]; exact G_7.wide (by omega) (by omega)⟩
 refine ct_ rfl ?_
 refine run_skip ?_
 refine run_seq ?_
 refine run_block ?_
 refine run_block ?_
 refine sr_ ?_
 refine oz_ (v := .agg #[.int .i64 nd, .slice p3 n3 c3]) (xloadN Tryz.isAgg38 Tryz.sizeOf38 rfl (O_b1.cells) rfl) rfl rfl ?_
 refine vm_ rfl rfl rfl ?_
 refine oc (xcall Tryz.call71 rfl) rfl rfl rfl (l27Count_ok nd vs _ _ _ k (k : Int) 1 _ (Hv0.ext E).sn (fun v m => by rw [hr v m]; omega) rfl) ?_
 rintro _ w3 ⟨rfl, e3⟩
 have z3 := e3.size
 have E := E.trans e3
 replace G_7 := G_7.ext e3
 replace O_b1 := O_b1.ext e3
 refine vm_ rfl rfl rfl ?_
 refine oz_ (xgeq rfl rfl _ rfl) rfl rfl ?_
 refine ods (fun c24 => ?_) (fun c24 => ?_)
 ·
  refine vn_ rfl rfl rfl ?_
  refine run_cond_t rfl ?_
  refine run_region ?_
  refine vm_ rfl rfl rfl ?_
  refine obuild (cs := [.int .i64 1]) (sz := 1) Tryz.underlying24 inf2 rfl rfl (by decide) rfl rfl (by simp [Value.cells]) rfl rfl rfl ?_
  intro b4 w4 e4 hb4 hz4 O4
  have E := E.trans e4
  replace G_7 := G_7.ext e4
  replace O_b1 := O_b1.ext e4
  refine oapp (bytes := 8) (nm := (m_7 + 1)) G_7 rfl rfl elem2 (Own.sl1 (y := (1 : Int)) O4) (by intro h; cases h) (by intro y hy; rfl) (by intro y hy u hu; rw [List.mem_singleton] at hy; subst hy; revert u; simp [Value.oneCell', i64c]) (by omega) (by omega) (by omega) (by omega) rfl rfl ?_
  intro p5 c5_ w5 m5 G5
  have hz5 := m5.size
  have E := m5.toExt E (by omega)
  try replace O_b1 := m5.own O_b1 (by omega)
  refine vn_ rfl rfl rfl ?_
  refine run_inBlock ?_
  refine run_inBlock ?_
  refine run_region ?_
  refine vm_ rfl rfl rfl ?_
  refine oz_ (xadd rfl rfl (by unfold I64; omega)) rfl rfl ?_
  refine vn_ rfl rfl rfl ?_
  refine run_sub ?_ (hback3 (k + 1, p5, (m_7 + 1), c5_, ys_7 ++ [1], w5) (⟨E, O_b1, G5.wide (by omega) (by omega), by omega, by omega, by omega, by omega, ansOf_push hy (by rw [ansAt, if_pos c24])⟩) (by first | omega | (dsimp only; omega)))
  exact ⟨rfl, rfl, rfl, rfl, rfl, trivial⟩
 refine vn_ rfl rfl rfl ?_
 refine run_cond_f rfl ?_
 refine sr_ ?_
 refine oz_ (v := .agg #[.int .i64 nd, .slice p3 n3 c3]) (xloadN Tryz.isAgg38 Tryz.sizeOf38 rfl (O_b1.cells) rfl) rfl rfl ?_
 refine vm_ rfl rfl rfl ?_
 refine oc (xcall Tryz.call71 rfl) rfl rfl rfl (l27Count_ok nd vs _ _ _ k (k : Int) 0 _ (Hv0.ext E).sn (fun v m => by rw [hr v m]; omega) rfl) ?_
 rintro _ w4 ⟨rfl, e4⟩
 have z4 := e4.size
 have E := E.trans e4
 replace G_7 := G_7.ext e4
 replace O_b1 := O_b1.ext e4
 refine vm_ rfl rfl rfl ?_
 refine oz_ (xgeq rfl rfl _ rfl) rfl rfl ?_
 refine ods (fun c33 => ?_) (fun c33 => ?_)
 ·
  refine vn_ rfl rfl rfl ?_
  refine run_cond_t rfl ?_
  refine run_region ?_
  refine vm_ rfl rfl rfl ?_
  refine obuild (cs := [.int .i64 0]) (sz := 1) Tryz.underlying24 inf2 rfl rfl (by decide) rfl rfl (by simp [Value.cells]) rfl rfl rfl ?_
  intro b5 w5 e5 hb5 hz5 O5
  have E := E.trans e5
  replace G_7 := G_7.ext e5
  replace O_b1 := O_b1.ext e5
  refine oapp (bytes := 8) (nm := (m_7 + 1)) G_7 rfl rfl elem2 (Own.sl1 (y := (0 : Int)) O5) (by intro h; cases h) (by intro y hy; rfl) (by intro y hy u hu; rw [List.mem_singleton] at hy; subst hy; revert u; simp [Value.oneCell', i64c]) (by omega) (by omega) (by omega) (by omega) rfl rfl ?_
  intro p6 c6_ w6 m6 G6
  have hz6 := m6.size
  have E := m6.toExt E (by omega)
  try replace O_b1 := m6.own O_b1 (by omega)
  refine vn_ rfl rfl rfl ?_
  refine run_inBlock ?_
  refine run_inBlock ?_
  refine run_region ?_
  refine vm_ rfl rfl rfl ?_
  refine oz_ (xadd rfl rfl (by unfold I64; omega)) rfl rfl ?_
  refine vn_ rfl rfl rfl ?_
  refine run_sub ?_ (hback3 (k + 1, p6, (m_7 + 1), c6_, ys_7 ++ [0], w6) (⟨E, O_b1, G6.wide (by omega) (by omega), by omega, by omega, by omega, by omega, ansOf_push hy (by rw [ansAt, if_neg c24, if_pos c33])⟩) (by first | omega | (dsimp only; omega)))
  exact ⟨rfl, rfl, rfl, rfl, rfl, trivial⟩
 refine vn_ rfl rfl rfl ?_
 refine run_cond_f rfl ?_
 refine run_region ?_
 refine vm_ rfl rfl rfl ?_
 refine obuild (cs := [.int .i64 (-1)]) (sz := 1) Tryz.underlying24 inf2 rfl rfl (by decide) rfl rfl (by simp [Value.cells]) rfl rfl rfl ?_
 intro b5 w5 e5 hb5 hz5 O5
 have E := E.trans e5
 replace G_7 := G_7.ext e5
 replace O_b1 := O_b1.ext e5
 refine oapp (bytes := 8) (nm := (m_7 + 1)) G_7 rfl rfl elem2 (Own.sl1 (y := (-1 : Int)) O5) (by intro h; cases h) (by intro y hy; rfl) (by intro y hy u hu; rw [List.mem_singleton] at hy; subst hy; revert u; simp [Value.oneCell', i64c]) (by omega) (by omega) (by omega) (by omega) rfl rfl ?_
 intro p6 c6_ w6 m6 G6
 have hz6 := m6.size
 have E := m6.toExt E (by omega)
 try replace O_b1 := m6.own O_b1 (by omega)
 refine vn_ rfl rfl rfl ?_
 refine run_inBlock ?_
 refine run_inBlock ?_
 refine run_region ?_
 refine vm_ rfl rfl rfl ?_
 refine oz_ (xadd rfl rfl (by unfold I64; omega)) rfl rfl ?_
 refine vn_ rfl rfl rfl ?_
 refine run_sub ?_ (hback3 (k + 1, p6, (m_7 + 1), c6_, ys_7 ++ [-1], w6) (⟨E, O_b1, G6.wide (by omega) (by omega), by omega, by omega, by omega, by omega, ansOf_push hy (by rw [ansAt, if_neg c24, if_neg c33])⟩) (by first | omega | (dsimp only; omega)))
 exact ⟨rfl, rfl, rfl, rfl, rfl, trivial⟩
set_option maxHeartbeats 400000 in
theorem AnswersOf_ok (p : Option Addr) (n c : Nat) (xs : List Question) (nd : Int) (vs : List (List Int)) (p3 : Option Addr) (n3 c3 : Nat) (w : World) (H : Sl Question.cells 3 w p n c xs) (hx : ∀ x ∈ xs, x.Label.size ≤ 9223372036854775807) (Hv0 : SnInt64SS w p3 n3 c3 vs) : Ret Tryz.prog 12 [.slice p n c, .agg #[.int .i64 nd, .slice p3 n3 c3]] w (fun v w' => Ext w w' ∧ ∃ q m d, v = .tuple #[.slice q m d, .int .i64 (answersOf xs nd vs).2] ∧ Ow i64c 1 2 w' w.heap.size w'.heap.size q m d (answersOf xs nd vs).1) := by
 refine ret_of_run (N := 13) Tryz.func12 rfl rfl rfl ?_
 have hn := H.len
 have hn6 := H.n64
 have hn3 := Hv0.len
 have hv6 := Hv0.n64
 have E : Ext w w := Ext.refl w
 refine sr_ ?_
 refine obox rfl rfl rfl ?_
 intro b1 w1 e1 hb1 hz1 O1
 have E := E.trans e1
 replace O1 : Own w1 b1 [.int .i64 nd, .slice p3 n3 c3] 38 := O1
 refine va_ rfl rfl rfl ?_
 refine vn_ rfl rfl rfl ?_
 refine run_seq ?_
 refine sr_ ?_
 refine vm_ rfl rfl rfl ?_
 refine oz_ (v := .agg #[.int .i64 nd, .slice p3 n3 c3]) (xloadN Tryz.isAgg38 Tryz.sizeOf38 rfl (O1.cells) rfl) rfl rfl ?_
 refine oc (xcall Tryz.call26 rfl) rfl rfl rfl (IsPoll_ok _ _ _ _ _ _ _ _ _ _ (H.ext E) (by assumption) (Hv0.ext E).sn) ?_
 rintro _ w2 ⟨rfl, e2⟩
 have z2 := e2.size
 have E := E.trans e2
 replace O1 := O1.ext e2
 refine obs (fun c8 => ?_) (fun c8 => ?_)
 rotate_left
 ·
  refine oz_ (xnot rfl) rfl rfl ?_
  refine ct_ rfl ?_
  refine sr_ ?_
  refine va_ rfl rfl rfl ?_
  refine vn_ rfl rfl rfl ?_
  refine run_ret Tryz.func12 (res2 rfl rfl rfl) ?_
  have he : answersOf xs nd vs = ([], 1) := by simp [answersOf, c8]
  exact ⟨_, rfl, E, none, 0, 0, by rw [he], by rw [he]; exact Ow.none _ _ _ _ _ _⟩
 have hff := isPoll_form c8
 have hfl := isForm_len hff
 have hfr := isPoll_row c8
 have hfv := isPoll_len c8
 have hfn := isPoll_need c8
 have hAn := areAns_ans xs nd vs
 have hAl := ansOf_length xs nd vs
 refine oz_ (xnot rfl) rfl rfl ?_
 refine cf_ rfl ?_
 refine sr_ ?_
 refine oz_ (v := .agg #[.int .i64 nd, .slice p3 n3 c3]) (xloadN Tryz.isAgg38 Tryz.sizeOf38 rfl (O1.cells) rfl) rfl rfl ?_
 refine vm_ rfl rfl rfl ?_
 refine oc (xcall Tryz.call27 rfl) rfl rfl rfl (answers_ok _ _ _ _ _ _ _ _ _ _ (H.ext E) (Hv0.ext E).sn (by assumption) (by omega)) ?_
 rintro _ w3 ⟨e3, q12, m12, d12, rfl, G12⟩
 have z3 := e3.size
 have E := E.trans e3
 refine va_ rfl rfl rfl ?_
 refine vn_ rfl rfl rfl ?_
 refine run_ret Tryz.func12 (res2 rfl rfl rfl) ?_
 have he : answersOf xs nd vs = (ansOf xs nd vs, 0) := by simp [answersOf, c8]
 exact ⟨_, rfl, E, _, _, _, by rw [he], by rw [he]; exact G12.wide (by omega) (by omega)⟩
set_option maxHeartbeats 400000 in
theorem PollVerdict_ok (p : Option Addr) (n c : Nat) (xs : List Question) (nd : Int) (vs : List (List Int)) (p3 : Option Addr) (n3 c3 : Nat) (w : World) (H : Sl Question.cells 3 w p n c xs) (hx : ∀ x ∈ xs, x.Label.size ≤ 9223372036854775807) (Hv0 : SnInt64SS w p3 n3 c3 vs) : Ret Tryz.prog 9 [.slice p n c, .agg #[.int .i64 nd, .slice p3 n3 c3]] w (Pv w (.tuple #[.int .i64 (pollVerdict xs nd vs).1, .int .i64 (pollVerdict xs nd vs).2])) := by
 refine ret_of_run (N := 17) Tryz.func9 rfl rfl rfl ?_
 have hn := H.len
 have hn6 := H.n64
 have hn3 := Hv0.len
 have hv6 := Hv0.n64
 have E : Ext w w := Ext.refl w
 refine sr_ ?_
 refine obox rfl rfl rfl ?_
 intro b1 w1 e1 hb1 hz1 O1
 have E := E.trans e1
 replace O1 : Own w1 b1 [.int .i64 nd, .slice p3 n3 c3] 38 := O1
 refine va_ rfl rfl rfl ?_
 refine vn_ rfl rfl rfl ?_
 refine run_seq ?_
 refine sr_ ?_
 refine vm_ rfl rfl rfl ?_
 refine oz_ (v := .agg #[.int .i64 nd, .slice p3 n3 c3]) (xloadN Tryz.isAgg38 Tryz.sizeOf38 rfl (O1.cells) rfl) rfl rfl ?_
 refine oc (xcall Tryz.call26 rfl) rfl rfl rfl (IsPoll_ok _ _ _ _ _ _ _ _ _ _ (H.ext E) (by assumption) (Hv0.ext E).sn) ?_
 rintro _ w2 ⟨rfl, e2⟩
 have z2 := e2.size
 have E := E.trans e2
 replace O1 := O1.ext e2
 refine obs (fun c8 => ?_) (fun c8 => ?_)
 rotate_left
 ·
  refine oz_ (xnot rfl) rfl rfl ?_
  refine ct_ rfl ?_
  refine sr_ ?_
  refine va_ rfl rfl rfl ?_
  refine vn_ rfl rfl rfl ?_
  refine run_ret Tryz.func9 (res2 rfl rfl rfl) ?_
  exact ⟨_, rfl, by rw [pollVerdict_1 c8], E⟩
 have hff := isPoll_form c8
 have hfl := isForm_len hff
 have hfr := isPoll_row c8
 have hfv := isPoll_len c8
 have hfn := isPoll_need c8
 have hAn := areAns_ans xs nd vs
 have hAl := ansOf_length xs nd vs
 refine oz_ (xnot rfl) rfl rfl ?_
 refine cf_ rfl ?_
 refine sr_ ?_
 refine vm_ rfl rfl rfl ?_
 refine oz_ (v := .agg #[.int .i64 nd, .slice p3 n3 c3]) (xloadN Tryz.isAgg38 Tryz.sizeOf38 rfl (O1.cells) rfl) rfl rfl ?_
 refine vm_ rfl rfl rfl ?_
 refine oc (xcall Tryz.call27 rfl) rfl rfl rfl (answers_ok _ _ _ _ _ _ _ _ _ _ (H.ext E) (Hv0.ext E).sn (by assumption) (by omega)) ?_
 rintro _ w3 ⟨e3, q13, m13, d13, rfl, G13⟩
 have z3 := e3.size
 have E := E.trans e3
 refine oc (xcall Tryz.call13 rfl) rfl rfl rfl (VerdictOf_ok _ _ _ _ _ _ _ _ _ (H.ext E) (by assumption) (G13.sl)) ?_
 rintro _ w4 ⟨rfl, e4⟩
 have z4 := e4.size
 have E := E.trans e4
 refine oz_ (xextract rfl rfl) rfl rfl ?_
 refine oz_ (xextract rfl rfl) rfl rfl ?_
 refine va_ rfl rfl rfl ?_
 refine vn_ rfl rfl rfl ?_
 refine run_ret Tryz.func9 (res2 rfl rfl rfl) ?_
 exact ⟨_, rfl, by rw [pollVerdict, if_neg (by simp [c8])], E⟩
set_option maxHeartbeats 400000 in
theorem sPollVerdict_ok (p : Option Addr) (n c : Nat) (xs : List Question) (nd : Int) (vs : List (List Int)) (p3 : Option Addr) (n3 c3 : Nat) (w : World) (H : Sl Question.cells 3 w p n c xs) (hx : ∀ x ∈ xs, x.Label.size ≤ 9223372036854775807) (Hv0 : SnInt64SS w p3 n3 c3 vs) : Ret Tryz.prog 10 [.slice p n c, .agg #[.int .i64 nd, .slice p3 n3 c3]] w (Pv w (.tuple #[.int .i64 (pollVerdict xs nd vs).1, .int .i64 (pollVerdict xs nd vs).2])) := by
 refine ret_of_run (N := 25) Tryz.func10 rfl rfl rfl ?_
 have hn := H.len
 have hn6 := H.n64
 have hn3 := Hv0.len
 have hv6 := Hv0.n64
 have E : Ext w w := Ext.refl w
 refine sr_ ?_
 refine obox rfl rfl rfl ?_
 intro b1 w1 e1 hb1 hz1 O1
 have E := E.trans e1
 replace O1 : Own w1 b1 [.int .i64 nd, .slice p3 n3 c3] 38 := O1
 refine va_ rfl rfl rfl ?_
 refine vn_ rfl rfl rfl ?_
 refine run_seq ?_
 refine sr_ ?_
 refine vm_ rfl rfl rfl ?_
 refine oz_ (v := .agg #[.int .i64 nd, .slice p3 n3 c3]) (xloadN Tryz.isAgg38 Tryz.sizeOf38 rfl (O1.cells) rfl) rfl rfl ?_
 refine oc (xcall Tryz.call28 rfl) rfl rfl rfl (sIsPoll_ok _ _ _ _ _ _ _ _ _ _ (H.ext E) (by assumption) (Hv0.ext E).sn) ?_
 rintro _ w2 ⟨rfl, e2⟩
 have z2 := e2.size
 have E := E.trans e2
 replace O1 := O1.ext e2
 refine obs (fun c10 => ?_) (fun c10 => ?_)
 rotate_left
 ·
  refine oz_ (xnot rfl) rfl rfl ?_
  refine ct_ rfl ?_
  refine sr_ ?_
  refine va_ rfl rfl rfl ?_
  refine vn_ rfl rfl rfl ?_
  refine run_ret Tryz.func10 (res2 rfl rfl rfl) ?_
  exact ⟨_, rfl, by rw [pollVerdict_1 c10], E⟩
 have hff := isPoll_form c10
 have hfl := isForm_len hff
 have hfr := isPoll_row c10
 have hfv := isPoll_len c10
 have hfn := isPoll_need c10
 have hAn := areAns_ans xs nd vs
 have hAl := ansOf_length xs nd vs
 refine oz_ (xnot rfl) rfl rfl ?_
 refine cf_ rfl ?_
 refine sr_ ?_
 refine vm_ rfl rfl rfl ?_
 refine vm_ rfl rfl rfl ?_
 refine oz_ (v := .agg #[.int .i64 nd, .slice p3 n3 c3]) (xloadN Tryz.isAgg38 Tryz.sizeOf38 rfl (O1.cells) rfl) rfl rfl ?_
 refine oz_ (xfieldAddr fo38f0 rfl) rfl rfl ?_
 refine oz_ (v := .int .i64 nd) (xload1 Tryz.isAgg2 rfl (O1.cells) rfl) rfl rfl ?_
 refine oc (xcall Tryz.call30 rfl) rfl rfl rfl (l27Answers_ok _ _ _ _ _ _ _ _ _ (nd) _ (H.ext E) (Hv0.ext E).sn (by assumption) (by omega)) ?_
 rintro _ w3 ⟨e3, q18, m18, d18, rfl, G18⟩
 have z3 := e3.size
 have E := E.trans e3
 refine oc (xcall Tryz.call29 rfl) rfl rfl rfl (l26Way_ok _ _ _ _ _ _ _ _ _ (H.ext E) (by assumption) (G18.sl) (by assumption) (by assumption)) ?_
 rintro _ w4 ⟨e4, q19, m19, d19, rfl, G19⟩
 have z4 := e4.size
 have E := E.trans e4
 refine vm_ rfl rfl rfl ?_
 refine oz_ (xextract rfl rfl) rfl rfl ?_
 refine oz_ (xextract rfl rfl) rfl rfl ?_
 refine va_ rfl rfl rfl ?_
 refine vn_ rfl rfl rfl ?_
 refine run_seq ?_
 refine sr_ ?_
 refine vm_ rfl rfl rfl ?_
 refine oz_ (xeql rfl rfl _ rfl) rfl rfl ?_
 refine ods (fun c23 => ?_) (fun c23 => ?_)
 ·
  refine ct_ rfl ?_
  refine sr_ ?_
  refine va_ rfl rfl rfl ?_
  refine vn_ rfl rfl rfl ?_
  refine run_ret Tryz.func10 (res2 rfl rfl rfl) ?_
  exact ⟨_, rfl, by rw [pollVerdict_5 c10 c23], E⟩
 refine cf_ rfl ?_
 refine sr_ ?_
 refine vm_ rfl rfl rfl ?_
 refine va_ rfl rfl rfl ?_
 refine vn_ rfl rfl rfl ?_
 refine run_ret Tryz.func10 (res2 rfl rfl rfl) ?_
 exact ⟨_, rfl, by rw [pollVerdict_0 c10 c23], E⟩
end Go.Proofs.YtchblgaklknkcaaGreat
