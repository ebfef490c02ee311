/-
  What polls say. No condition beyond those written in each theorem.
-/
import Derived.Test.YtinpkihmkfiidaaPolls
namespace Go.Proofs.Ytinpkihmkfiidaa
open Go.RowKit
set_option linter.unusedVariables false
set_option linter.unusedSimpArgs false
set_option linter.unusedSectionVars false
set_option maxRecDepth 4000


theorem wayG_mem {xs : List Question} {az : List Int} (hf : isForm xs = true) : ∀ (f i : Nat), i < xs.length → ∀ x ∈ (wayG xs az f i).1, 0 ≤ x ∧ x < xs.length
  | 0, _, _, x, m => by simp [wayG] at m
  | f + 1, i, hi, x, m => by
    unfold wayG at m
    split at m
    · rename_i a q ha hq
      have nx := isForm_next hf hi a
      have hq' : xs[i] = q := by rw [List.getElem?_eq_getElem hi] at hq; simpa using hq
      rw [hq'] at nx
      split at m
      · simp at m; omega
      · split at m
        · simp at m; omega
        · rcases List.mem_cons.1 m with m | m
          · omega
          · exact wayG_mem hf f _ (by omega) x m
    · simp at m
theorem wayF_mem {xs : List Question} {az : List Int} (hf : isForm xs = true) {i : Nat} (hi : i < (wayF xs az).1.length) : 0 ≤ (wayF xs az).1[i] ∧ (wayF xs az).1[i] < xs.length :=
  wayG_mem hf _ 0 (by have := isForm_len hf; omega) _ (List.getElem_mem hi)
def difV (way ans v : List Int) : Bool := way.any fun q => decide (getI v q.toNat ≠ getI ans q.toNat)
theorem difV_t {way ans v : List Int} {i : Nat} (hi : i < way.length) (h1 : way[i].toNat < v.length) (h2 : way[i].toNat < ans.length) (h : v[way[i].toNat] ≠ ans[way[i].toNat]) : difV way ans v = true := by
  rw [difV, List.any_eq_true]; exact ⟨_, List.getElem_mem hi, by simpa [getI_at h1, getI_at h2] using h⟩
def eqTo (way ans v : List Int) (i : Nat) : Bool := (way.take i).all fun q => decide (getI v q.toNat = getI ans q.toNat)
theorem eqTo_succ {way ans v : List Int} {i : Nat} (hi : i < way.length) (h1 : way[i].toNat < v.length) (h2 : way[i].toNat < ans.length) (h : v[way[i].toNat] = ans[way[i].toNat]) (k : eqTo way ans v i = true) : eqTo way ans v (i + 1) = true := by
  rw [eqTo, List.take_succ_eq_append_getElem hi, List.all_append]
  rw [eqTo] at k
  simp [k, getI_at h1, getI_at h2, h]
theorem difV_f {way ans v : List Int} {i : Nat} (hi : way.length ≤ i) (k : eqTo way ans v i = true) : difV way ans v = false := by
  rw [eqTo, List.take_of_length_le hi, List.all_eq_true] at k
  rw [difV, List.any_eq_false]
  intro x hx
  have := k x hx
  simpa using this
/-- does it differ on the first i questions of the way -/
def difTo (way ans v : List Int) (i : Nat) : Bool := difV (way.take i) ans v
theorem difTo_succ {way ans v : List Int} {i : Nat} (hi : i < way.length) (h1 : way[i].toNat < v.length) (h2 : way[i].toNat < ans.length) : difTo way ans v (i + 1) = (difTo way ans v i || decide (v[way[i].toNat] ≠ ans[way[i].toNat])) := by
  rw [difTo, List.take_succ_eq_append_getElem hi, difV, List.any_append, difTo, difV]
  simp [getI_at h1, getI_at h2]
theorem difTo_all {way ans v : List Int} {i : Nat} (hi : way.length ≤ i) : difTo way ans v i = difV way ans v := by rw [difTo, List.take_of_length_le hi]
def disL (way ans : List Int) (vs : List (List Int)) (k : Nat) : List Int := ((List.range k).filter fun j => difV way ans (vs[j]?.getD [])).map fun (j : Nat) => (j : Int)
theorem disL_t {way ans : List Int} {vs : List (List Int)} {k : Nat} {ys : List Int} (h : ys = disL way ans vs k) (hk : k < vs.length) (hd : difV way ans vs[k] = true) : ys ++ [(k : Int)] = disL way ans vs (k + 1) := by
  rw [h, disL, disL, List.range_succ, List.filter_append, List.map_append]; simp [hk, hd]
theorem disL_f {way ans : List Int} {vs : List (List Int)} {k : Nat} {ys : List Int} (h : ys = disL way ans vs k) (hk : k < vs.length) (hd : difV way ans vs[k] = false) : ys = disL way ans vs (k + 1) := by
  rw [h, disL, disL, List.range_succ, List.filter_append, List.map_append]; simp [hk, hd]
theorem disL_len (way ans : List Int) (vs : List (List Int)) (k : Nat) : (disL way ans vs k).length ≤ k := by
  rw [disL, List.length_map]; exact Nat.le_trans (List.length_filter_le _ _) (by simp)
def dissenters (xs : List Question) (nd : Int) (vs : List (List Int)) : List Int × Int := if (pollVerdict xs nd vs).2 ≠ 0 then ([], (pollVerdict xs nd vs).2) else (disL (wayF xs (ansOf xs nd vs)).1 (ansOf xs nd vs) vs vs.length, 0)
theorem pollVerdict_code {xs : List Question} {nd : Int} {vs : List (List Int)} (h : (pollVerdict xs nd vs).2 = 0) : isPoll xs nd vs = true ∧ (wayF xs (ansOf xs nd vs)).2 ≠ 0 := by
  unfold pollVerdict at h
  split at h
  · cases h
  · rename_i h1
    have h1 : isPoll xs nd vs = true := by simpa using h1
    refine ⟨h1, ?_⟩
    rw [verdictOf_ans (isPoll_form h1)] at h
    intro h2
    rw [if_pos h2] at h; cases h
theorem pollVerdict_1 {xs : List Question} {nd : Int} {vs : List (List Int)} (h : isPoll xs nd vs = false) : pollVerdict xs nd vs = (0, 1) := by rw [pollVerdict, if_pos h]
theorem pollVerdict_5 {xs : List Question} {nd : Int} {vs : List (List Int)} (h : isPoll xs nd vs = true) (h2 : (wayF xs (ansOf xs nd vs)).2 = 0) : pollVerdict xs nd vs = (0, 5) := by rw [pollVerdict, if_neg (by simp [h]), verdictOf_ans (isPoll_form h), if_pos h2]
theorem pollVerdict_0 {xs : List Question} {nd : Int} {vs : List (List Int)} (h : isPoll xs nd vs = true) (h2 : (wayF xs (ansOf xs nd vs)).2 ≠ 0) : pollVerdict xs nd vs = ((wayF xs (ansOf xs nd vs)).2, 0) := by rw [pollVerdict, if_neg (by simp [h]), verdictOf_ans (isPoll_form h), if_neg h2]
theorem dissenters_len (xs : List Question) (nd : Int) (vs : List (List Int)) : (dissenters xs nd vs).1.length ≤ 12 := by
  unfold dissenters
  split
  · simp
  · rename_i h
    have := isPoll_len (pollVerdict_code (by omega : (pollVerdict xs nd vs).2 = 0)).1
    exact Nat.le_trans (disL_len _ _ _ _) this.2
theorem answersOf_len (xs : List Question) (nd : Int) (vs : List (List Int)) : (answersOf xs nd vs).1.length ≤ 10 := by
  unfold answersOf
  split
  · simp
  · rename_i h
    have := isForm_len (isPoll_form (by simpa using h : isPoll xs nd vs = true))
    simp only [ansOf_length]; omega
def gnGo (xs : List Question) (vs : List (List Int)) : Nat → Int × Int
  | 0 => (0, 4)
  | k + 1 => if ((k + 1 : Nat) : Int) ≤ (vs.length : Int) / 2 then (0, 4) else if (wayF xs (ansOf xs ((k + 1 : Nat) : Int) vs)).2 ≠ 0 then (((k + 1 : Nat) : Int), 0) else gnGo xs vs k
def greatestNeed (xs : List Question) (nd : Int) (vs : List (List Int)) : Int × Int := if isPoll xs nd vs = false then (0, 1) else gnGo xs vs vs.length
theorem gnGo_stop {xs : List Question} {vs : List (List Int)} {k : Nat} (h : (k : Int) ≤ (vs.length : Int) / 2) : gnGo xs vs k = (0, 4) := by
  cases k with
  | zero => rfl
  | succ k => rw [gnGo, if_pos h]
theorem gnGo_hit {xs : List Question} {vs : List (List Int)} {need : Int} (h0 : 0 ≤ need) (h : ¬ need ≤ (vs.length : Int) / 2) (h2 : (wayF xs (ansOf xs need vs)).2 ≠ 0) : gnGo xs vs need.toNat = (need, 0) := by
  obtain ⟨k, rfl⟩ : ∃ k : Nat, need = ((k + 1 : Nat) : Int) := ⟨need.toNat - 1, by omega⟩
  rw [Int.toNat_natCast, gnGo, if_neg h, if_pos h2]
theorem gnGo_next {xs : List Question} {vs : List (List Int)} {need : Int} (h0 : 0 ≤ need) (h : ¬ need ≤ (vs.length : Int) / 2) (h2 : (wayF xs (ansOf xs need vs)).2 = 0) : gnGo xs vs need.toNat = gnGo xs vs (need - 1).toNat := by
  obtain ⟨k, rfl⟩ : ∃ k : Nat, need = ((k + 1 : Nat) : Int) := ⟨need.toNat - 1, by omega⟩
  have e : (((k + 1 : Nat) : Int) - 1).toNat = k := by omega
  rw [Int.toNat_natCast, e, gnGo, if_neg h, if_neg (by simpa using h2)]


set_option maxHeartbeats 1000000 in
theorem answers_ok (p : Option Addr) (n c : Nat) (xs : List Question) (nd : Int) (vs : List (List Int)) (p3 : Option Addr) (n3 c3 : Nat) (w : World) (H : Sl Question.cells 3 w p n c xs) (Hv0 : SnInt64SS w p3 n3 c3 vs) (hr : ∀ v ∈ vs, v.length = xs.length) (hl : xs.length ≤ 10) : Ret Try.prog 119 [.agg #[.int .i64 nd, .slice p3 n3 c3], .slice p n c] w (fun v w' => Ext w w' ∧ ∃ q m d, v = .slice q m d ∧ Ow i64c 1 2 w' w.heap.size w'.heap.size q m d (ansOf xs nd vs)) := by
  refine ret_of_run (N := 38) Try.func119 rfl rfl rfl ?_
  have hn := H.len
  have hn6 := H.n64
  have hn3 := Hv0.len
  have E : Ext w w := Ext.refl w
  refine run_seq ?_
  refine run_region ?_
  refine obox rfl rfl rfl ?_
  intro b1 w1 e1 hb1 hz1 O1
  have E := E.trans e1
  replace O1 : Own w1 b1 [.int .i64 nd, .slice p3 n3 c3] 41 := O1
  refine ov (xassign rfl) rfl rfl rfl ?_
  refine ops_nil ?_
  refine run_seq ?_
  refine run_region ?_
  refine obuild (cs := []) (sz := 1) Try.underlying31 inf2 rfl rfl (by decide) rfl rfl (by simp [Value.cells]) rfl rfl rfl ?_
  intro b2 w2 e2 hb2 hz2 O2
  have E := E.trans e2
  replace O1 := O1.ext e2
  have G2 : Ow i64c 1 2 w2 b2 (b2 + 1) (some ⟨b2, 0, none⟩) 0 0 ([] : List Int) := Own.ow (by simpa [i64c] using O2) rfl (by omega) (Nat.le_refl _) (by omega) (by intro x hx; rfl)
  refine ov (xassign rfl) rfl rfl rfl ?_
  refine ops_nil ?_
  refine run_seq ?_
  refine run_seq ?_
  refine run_region ?_
  refine ov (xmove rfl) rfl rfl rfl ?_
  refine ov (xlen Try.underlying25 rfl) rfl rfl rfl ?_
  refine ov (xmove rfl) rfl rfl rfl ?_
  refine ops_nil ?_
  refine run_block ?_
  refine run_loop (ι := Nat × Option Addr × Nat × Nat × List Int × World) (fun x_ => match x_ with | (k, q_5, m_5, c_5, ys_5, wr) => (Ext w wr) ∧ (Own wr b1 ([.int .i64 nd, .slice p3 n3 c3]) 41) ∧ (Ow i64c 1 2 wr b2 wr.heap.size q_5 m_5 c_5 ys_5) ∧ (b2 ≤ wr.heap.size) ∧ (w2.heap.size ≤ wr.heap.size) ∧ (k ≤ n) ∧ (m_5 = k) ∧ (ys_5 = (List.range k).map (ansAt nd vs))) (fun x_ => match x_ with | (k, q_5, m_5, c_5, ys_5, wr) => [(2, .pointer (some ⟨b1, 0, none⟩)), (5, .slice q_5 m_5 c_5), (9, .int .i64 (n : Int)), (10, .int .i64 (k : Int))]) (fun x_ => match x_ with | (k, q_5, m_5, c_5, ys_5, wr) => wr) (fun x_ => match x_ with | (k, q_5, m_5, c_5, ys_5, wr) => n - k) ?_ (0, (some ⟨b2, 0, none⟩), 0, 0, [], w2) (⟨E, O1, G2.wide (by omega) (by omega), by omega, Nat.le_refl _, by omega, rfl, rfl⟩) ⟨rfl, rfl, rfl, rfl, trivial⟩ rfl
  intro i_ hI_ hback3
  obtain ⟨k, q_5, m_5, c_5, ys_5, wr⟩ := i_
  obtain ⟨E, O_b1, G_5, lo_5, lz_wr, hk, hm, hy⟩ := hI_
  try dsimp only
  have zr := E.size
  have lt_b1 := O_b1.lt
  have lg_5 := G_5.len
  refine run_seq ?_
  refine run_region ?_
  refine ov (xlss rfl rfl _ rfl) rfl rfl rfl ?_
  refine ods (fun c11 => ?_) (fun c11 => ?_)
  ·
    refine ops_nil ?_
    refine run_seq ?_
    refine run_cond_t rfl ?_
    refine run_skip ?_
    refine run_seq ?_
    refine run_block ?_
    refine run_seq ?_
    refine run_region ?_
    refine ov (xmove rfl) rfl rfl rfl ?_
    refine ov (xassign rfl) rfl rfl rfl ?_
    refine ops_nil ?_
    refine run_block ?_
    refine run_seq ?_
    refine run_draw (by kernel_rfl) (by kernel_rfl) ?_
    refine qv (v := .agg #[.int .i64 nd, .slice p3 n3 c3]) (fun w' x_ => xloadN Try.isAgg41 Try.sizeOf41 rfl ((O_b1.cells).ext x_) rfl) rfl rfl rfl ?_
    refine qv (fun w' x_ => xmove rfl) rfl rfl rfl ?_
    have t19 := fun (w' : World) (x_ : Ext wr w') => Ret.q (w := w') (tally_ok nd vs _ _ _ k (k : Int) 1 _ ((Hv0.ext E).ext x_).sn (fun v m => by rw [hr v m]; omega) rfl)
    refine qc (fun w' => xcall Try.call117 rfl) rfl rfl rfl t19 ?_
    clear t19
    refine qv (fun w' x_ => xfieldAddr fo41f0 rfl) rfl rfl rfl ?_
    refine qv (v := .int .i64 nd) (fun w' x_ => xload1 Try.isAgg2 rfl ((O_b1.cells).ext x_) rfl) rfl rfl rfl ?_
    refine qv (fun w' x_ => xgeq rfl rfl _ rfl) rfl rfl rfl ?_
    refine qds (fun c22 => ?_) (fun c22 => ?_)
    ·
      refine qv (fun w' x_ => xassign rfl) rfl rfl rfl ?_
      refine q_nil ?_
      intro w3 e3
      have z3 := e3.size
      have E := E.trans e3
      replace G_5 := G_5.ext e3
      replace O_b1 := O_b1.ext e3
      refine run_cond_t rfl ?_
      refine run_region ?_
      refine ov (xmove rfl) rfl rfl rfl ?_
      refine obuild (cs := [.int .i64 1]) (sz := 1) Try.underlying31 inf2 rfl rfl (by decide) rfl rfl (by simp [Value.cells]) rfl rfl rfl ?_
      intro b4 w4 e4 hb4 hz4 O4
      have E := E.trans e4
      replace G_5 := G_5.ext e4
      replace O_b1 := O_b1.ext e4
      refine oapp (bytes := 8) (nm := (m_5 + 1)) G_5 rfl rfl elem2 (Own.sl1 (y := (1 : Int)) O4) (by intro h; cases h) (by intro y hy; rfl) (by intro y hy u hu; rw [List.mem_singleton] at hy; subst hy; revert u; simp [Value.oneCell', i64c]) (by omega) (by omega) (by omega) (by omega) rfl rfl ?_
      intro p5 c5_ w5 m5 G5
      have hz5 := m5.size
      have E := m5.toExt E (by omega)
      try replace O_b1 := m5.own O_b1 (by omega)
      try replace O4 := m5.own O4 (by omega)
      refine ov (xassign rfl) rfl rfl rfl ?_
      refine ops_nil ?_
      refine run_inBlock ?_
      refine run_inBlock ?_
      refine run_region ?_
      refine ov (xadd rfl rfl (by unfold I64; omega)) rfl rfl rfl ?_
      refine ov (xmove rfl) rfl rfl rfl ?_
      refine ops_nil ?_
      refine run_sub ?_ (hback3 (k + 1, p5, (m_5 + 1), c5_, ys_5 ++ [1], w5) (⟨E, O_b1, G5.wide (by omega) (by omega), by omega, by omega, by omega, by omega, ansOf_push hy (by rw [ansAt, if_pos c22])⟩) (by first | omega | (dsimp only; omega)))
      exact ⟨rfl, rfl, rfl, rfl, trivial⟩
    ·
      refine qv (fun w' x_ => xassign rfl) rfl rfl rfl ?_
      refine q_nil ?_
      intro w3 e3
      have z3 := e3.size
      have E := E.trans e3
      replace G_5 := G_5.ext e3
      replace O_b1 := O_b1.ext e3
      refine run_cond_f rfl ?_
      refine run_seq ?_
      refine run_draw (by kernel_rfl) (by kernel_rfl) ?_
      refine qv (v := .agg #[.int .i64 nd, .slice p3 n3 c3]) (fun w' x_ => xloadN Try.isAgg41 Try.sizeOf41 rfl ((O_b1.cells).ext x_) rfl) rfl rfl rfl ?_
      refine qv (fun w' x_ => xmove rfl) rfl rfl rfl ?_
      have t29 := fun (w' : World) (x_ : Ext w3 w') => Ret.q (w := w') (tally_ok nd vs _ _ _ k (k : Int) 0 _ ((Hv0.ext E).ext x_).sn (fun v m => by rw [hr v m]; omega) rfl)
      refine qc (fun w' => xcall Try.call117 rfl) rfl rfl rfl t29 ?_
      clear t29
      refine qv (fun w' x_ => xfieldAddr fo41f0 rfl) rfl rfl rfl ?_
      refine qv (v := .int .i64 nd) (fun w' x_ => xload1 Try.isAgg2 rfl ((O_b1.cells).ext x_) rfl) rfl rfl rfl ?_
      refine qv (fun w' x_ => xgeq rfl rfl _ rfl) rfl rfl rfl ?_
      refine qds (fun c32 => ?_) (fun c32 => ?_)
      ·
        refine qv (fun w' x_ => xassign rfl) rfl rfl rfl ?_
        refine q_nil ?_
        intro w4 e4
        have z4 := e4.size
        have E := E.trans e4
        replace G_5 := G_5.ext e4
        replace O_b1 := O_b1.ext e4
        refine run_cond_t rfl ?_
        refine run_region ?_
        refine ov (xmove rfl) rfl rfl rfl ?_
        refine obuild (cs := [.int .i64 0]) (sz := 1) Try.underlying31 inf2 rfl rfl (by decide) rfl rfl (by simp [Value.cells]) rfl rfl rfl ?_
        intro b5 w5 e5 hb5 hz5 O5
        have E := E.trans e5
        replace G_5 := G_5.ext e5
        replace O_b1 := O_b1.ext e5
        refine oapp (bytes := 8) (nm := (m_5 + 1)) G_5 rfl rfl elem2 (Own.sl1 (y := (0 : Int)) O5) (by intro h; cases h) (by intro y hy; rfl) (by intro y hy u hu; rw [List.mem_singleton] at hy; subst hy; revert u; simp [Value.oneCell', i64c]) (by omega) (by omega) (by omega) (by omega) rfl rfl ?_
        intro p6 c6_ w6 m6 G6
        have hz6 := m6.size
        have E := m6.toExt E (by omega)
        try replace O_b1 := m6.own O_b1 (by omega)
        try replace O5 := m6.own O5 (by omega)
        refine ov (xassign rfl) rfl rfl rfl ?_
        refine ops_nil ?_
        refine run_inBlock ?_
        refine run_inBlock ?_
        refine run_region ?_
        refine ov (xadd rfl rfl (by unfold I64; omega)) rfl rfl rfl ?_
        refine ov (xmove rfl) rfl rfl rfl ?_
        refine ops_nil ?_
        refine run_sub ?_ (hback3 (k + 1, p6, (m_5 + 1), c6_, ys_5 ++ [0], w6) (⟨E, O_b1, G6.wide (by omega) (by omega), by omega, by omega, by omega, by omega, ansOf_push hy (by rw [ansAt, if_neg c22, if_pos c32])⟩) (by first | omega | (dsimp only; omega)))
        exact ⟨rfl, rfl, rfl, rfl, trivial⟩
      ·
        refine qv (fun w' x_ => xassign rfl) rfl rfl rfl ?_
        refine q_nil ?_
        intro w4 e4
        have z4 := e4.size
        have E := E.trans e4
        replace G_5 := G_5.ext e4
        replace O_b1 := O_b1.ext e4
        refine run_cond_f rfl ?_
        refine run_region ?_
        refine ov (xmove rfl) rfl rfl rfl ?_
        refine obuild (cs := [.int .i64 (-1)]) (sz := 1) Try.underlying31 inf2 rfl rfl (by decide) rfl rfl (by simp [Value.cells]) rfl rfl rfl ?_
        intro b5 w5 e5 hb5 hz5 O5
        have E := E.trans e5
        replace G_5 := G_5.ext e5
        replace O_b1 := O_b1.ext e5
        refine oapp (bytes := 8) (nm := (m_5 + 1)) G_5 rfl rfl elem2 (Own.sl1 (y := (-1 : Int)) O5) (by intro h; cases h) (by intro y hy; rfl) (by intro y hy u hu; rw [List.mem_singleton] at hy; subst hy; revert u; simp [Value.oneCell', i64c]) (by omega) (by omega) (by omega) (by omega) rfl rfl ?_
        intro p6 c6_ w6 m6 G6
        have hz6 := m6.size
        have E := m6.toExt E (by omega)
        try replace O_b1 := m6.own O_b1 (by omega)
        try replace O5 := m6.own O5 (by omega)
        refine ov (xassign rfl) rfl rfl rfl ?_
        refine ops_nil ?_
        refine run_inBlock ?_
        refine run_inBlock ?_
        refine run_region ?_
        refine ov (xadd rfl rfl (by unfold I64; omega)) rfl rfl rfl ?_
        refine ov (xmove rfl) rfl rfl rfl ?_
        refine ops_nil ?_
        refine run_sub ?_ (hback3 (k + 1, p6, (m_5 + 1), c6_, ys_5 ++ [-1], w6) (⟨E, O_b1, G6.wide (by omega) (by omega), by omega, by omega, by omega, by omega, ansOf_push hy (by rw [ansAt, if_neg c22, if_neg c32])⟩) (by first | omega | (dsimp only; omega)))
        exact ⟨rfl, rfl, rfl, rfl, trivial⟩
  ·
    refine ops_nil ?_
    refine run_seq ?_
    refine run_cond_f rfl ?_
    refine run_exit rfl ?_
    refine run_seq ?_
    refine run_region ?_
    refine ov (xmove rfl) rfl rfl rfl ?_
    refine ov (xassign rfl) rfl rfl rfl ?_
    refine ops_nil ?_
    refine run_ret Try.func119 (res1 rfl rfl) ?_
    obtain rfl : k = n := by omega
    exact ⟨_, rfl, E, _, _, _, rfl, by rw [ansOf, ← hn, ← hy]; exact G_5.wide (by omega) (by omega)⟩

set_option maxHeartbeats 1000000 in
theorem l27Answers_ok (p : Option Addr) (n c : Nat) (xs : List Question) (nd : Int) (vs : List (List Int)) (p3 : Option Addr) (n3 c3 : Nat) (need : Int) (w : World) (H : Sl Question.cells 3 w p n c xs) (Hv0 : SnInt64SS w p3 n3 c3 vs) (hr : ∀ v ∈ vs, v.length = xs.length) (hl : xs.length ≤ 10) : Ret Try.prog 118 [.slice p n c, .agg #[.int .i64 nd, .slice p3 n3 c3], .int .i64 need] w (fun v w' => Ext w w' ∧ ∃ q m d, v = .slice q m d ∧ Ow i64c 1 2 w' w.heap.size w'.heap.size q m d (ansOf xs need vs)) := by
  refine ret_of_run (N := 38) Try.func118 rfl rfl rfl ?_
  have hn := H.len
  have hn6 := H.n64
  have hn3 := Hv0.len
  have E : Ext w w := Ext.refl w
  refine run_seq ?_
  refine run_region ?_
  refine obox rfl rfl rfl ?_
  intro b1 w1 e1 hb1 hz1 O1
  have E := E.trans e1
  replace O1 : Own w1 b1 [.int .i64 nd, .slice p3 n3 c3] 41 := O1
  refine ov (xassign rfl) rfl rfl rfl ?_
  refine ops_nil ?_
  refine run_seq ?_
  refine run_region ?_
  refine obuild (cs := []) (sz := 1) Try.underlying31 inf2 rfl rfl (by decide) rfl rfl (by simp [Value.cells]) rfl rfl rfl ?_
  intro b2 w2 e2 hb2 hz2 O2
  have E := E.trans e2
  replace O1 := O1.ext e2
  have G2 : Ow i64c 1 2 w2 b2 (b2 + 1) (some ⟨b2, 0, none⟩) 0 0 ([] : List Int) := Own.ow (by simpa [i64c] using O2) rfl (by omega) (Nat.le_refl _) (by omega) (by intro x hx; rfl)
  refine ov (xassign rfl) rfl rfl rfl ?_
  refine ops_nil ?_
  refine run_seq ?_
  refine run_seq ?_
  refine run_region ?_
  refine ov (xassign rfl) rfl rfl rfl ?_
  refine ops_nil ?_
  refine run_block ?_
  refine run_loop (ι := Nat × Option Addr × Nat × Nat × List Int × World) (fun x_ => match x_ with | (k, q_7, m_7, c_7, ys_7, wr) => (Ext w wr) ∧ (Own wr b1 ([.int .i64 nd, .slice p3 n3 c3]) 41) ∧ (Ow i64c 1 2 wr b2 wr.heap.size q_7 m_7 c_7 ys_7) ∧ (b2 ≤ wr.heap.size) ∧ (w2.heap.size ≤ wr.heap.size) ∧ (k ≤ n) ∧ (m_7 = k) ∧ (ys_7 = (List.range k).map (ansAt need vs))) (fun x_ => match x_ with | (k, q_7, m_7, c_7, ys_7, wr) => [(0, .slice p n c), (2, .int .i64 need), (4, .pointer (some ⟨b1, 0, none⟩)), (7, .slice q_7 m_7 c_7), (8, .int .i64 (k : Int))]) (fun x_ => match x_ with | (k, q_7, m_7, c_7, ys_7, wr) => wr) (fun x_ => match x_ with | (k, q_7, m_7, c_7, ys_7, wr) => n - k) ?_ (0, (some ⟨b2, 0, none⟩), 0, 0, [], w2) (⟨E, O1, G2.wide (by omega) (by omega), by omega, Nat.le_refl _, by omega, rfl, rfl⟩) ⟨rfl, rfl, rfl, rfl, rfl, trivial⟩ rfl
  intro i_ hI_ hback3
  obtain ⟨k, q_7, m_7, c_7, ys_7, wr⟩ := i_
  obtain ⟨E, O_b1, G_7, lo_7, lz_wr, hk, hm, hy⟩ := hI_
  try dsimp only
  have zr := E.size
  have lt_b1 := O_b1.lt
  have lg_7 := G_7.len
  refine run_seq ?_
  refine run_seq ?_
  refine run_region ?_
  refine ov (xmove rfl) rfl rfl rfl ?_
  refine ov (xmove rfl) rfl rfl rfl ?_
  refine ov (xlen Try.underlying25 rfl) rfl rfl rfl ?_
  refine ov (xlss rfl rfl _ rfl) rfl rfl rfl ?_
  refine ods (fun c13 => ?_) (fun c13 => ?_)
  ·
    refine ops_nil ?_
    refine run_cond_t rfl ?_
    refine run_skip ?_
    refine run_seq ?_
    refine run_block ?_
    refine run_block ?_
    refine run_seq ?_
    refine run_region ?_
    refine ov (v := .agg #[.int .i64 nd, .slice p3 n3 c3]) (xloadN Try.isAgg41 Try.sizeOf41 rfl (O_b1.cells) rfl) rfl rfl rfl ?_
    refine ov (xmove rfl) rfl rfl rfl ?_
    refine oc (xcall Try.call115 rfl) rfl rfl rfl (l27Count_ok nd vs _ _ _ k (k : Int) 1 _ (Hv0.ext E).sn (fun v m => by rw [hr v m]; omega) rfl) ?_
    rintro _ w3 ⟨rfl, e3⟩
    have z3 := e3.size
    have E := E.trans e3
    replace G_7 := G_7.ext e3
    replace O_b1 := O_b1.ext e3
    refine ov (xmove rfl) rfl rfl rfl ?_
    refine ov (xgeq rfl rfl _ rfl) rfl rfl rfl ?_
    refine ods (fun c24 => ?_) (fun c24 => ?_)
    ·
      refine ov (xassign rfl) rfl rfl rfl ?_
      refine ops_nil ?_
      refine run_cond_t rfl ?_
      refine run_region ?_
      refine ov (xmove rfl) rfl rfl rfl ?_
      refine obuild (cs := [.int .i64 1]) (sz := 1) Try.underlying31 inf2 rfl rfl (by decide) rfl rfl (by simp [Value.cells]) rfl rfl rfl ?_
      intro b4 w4 e4 hb4 hz4 O4
      have E := E.trans e4
      replace G_7 := G_7.ext e4
      replace O_b1 := O_b1.ext e4
      refine oapp (bytes := 8) (nm := (m_7 + 1)) G_7 rfl rfl elem2 (Own.sl1 (y := (1 : Int)) O4) (by intro h; cases h) (by intro y hy; rfl) (by intro y hy u hu; rw [List.mem_singleton] at hy; subst hy; revert u; simp [Value.oneCell', i64c]) (by omega) (by omega) (by omega) (by omega) rfl rfl ?_
      intro p5 c5_ w5 m5 G5
      have hz5 := m5.size
      have E := m5.toExt E (by omega)
      try replace O_b1 := m5.own O_b1 (by omega)
      try replace O4 := m5.own O4 (by omega)
      refine ov (xassign rfl) rfl rfl rfl ?_
      refine ops_nil ?_
      refine run_inBlock ?_
      refine run_inBlock ?_
      refine run_region ?_
      refine ov (xmove rfl) rfl rfl rfl ?_
      refine ov (xadd rfl rfl (by unfold I64; omega)) rfl rfl rfl ?_
      refine ov (xassign rfl) rfl rfl rfl ?_
      refine ops_nil ?_
      refine run_sub ?_ (hback3 (k + 1, p5, (m_7 + 1), c5_, ys_7 ++ [1], w5) (⟨E, O_b1, G5.wide (by omega) (by omega), by omega, by omega, by omega, by omega, ansOf_push hy (by rw [ansAt, if_pos c24])⟩) (by first | omega | (dsimp only; omega)))
      exact ⟨rfl, rfl, rfl, rfl, rfl, trivial⟩
    ·
      refine ov (xassign rfl) rfl rfl rfl ?_
      refine ops_nil ?_
      refine run_cond_f rfl ?_
      refine run_seq ?_
      refine run_region ?_
      refine ov (v := .agg #[.int .i64 nd, .slice p3 n3 c3]) (xloadN Try.isAgg41 Try.sizeOf41 rfl (O_b1.cells) rfl) rfl rfl rfl ?_
      refine ov (xmove rfl) rfl rfl rfl ?_
      refine oc (xcall Try.call115 rfl) rfl rfl rfl (l27Count_ok nd vs _ _ _ k (k : Int) 0 _ (Hv0.ext E).sn (fun v m => by rw [hr v m]; omega) rfl) ?_
      rintro _ w4 ⟨rfl, e4⟩
      have z4 := e4.size
      have E := E.trans e4
      replace G_7 := G_7.ext e4
      replace O_b1 := O_b1.ext e4
      refine ov (xmove rfl) rfl rfl rfl ?_
      refine ov (xgeq rfl rfl _ rfl) rfl rfl rfl ?_
      refine ods (fun c33 => ?_) (fun c33 => ?_)
      ·
        refine ov (xassign rfl) rfl rfl rfl ?_
        refine ops_nil ?_
        refine run_cond_t rfl ?_
        refine run_region ?_
        refine ov (xmove rfl) rfl rfl rfl ?_
        refine obuild (cs := [.int .i64 0]) (sz := 1) Try.underlying31 inf2 rfl rfl (by decide) rfl rfl (by simp [Value.cells]) rfl rfl rfl ?_
        intro b5 w5 e5 hb5 hz5 O5
        have E := E.trans e5
        replace G_7 := G_7.ext e5
        replace O_b1 := O_b1.ext e5
        refine oapp (bytes := 8) (nm := (m_7 + 1)) G_7 rfl rfl elem2 (Own.sl1 (y := (0 : Int)) O5) (by intro h; cases h) (by intro y hy; rfl) (by intro y hy u hu; rw [List.mem_singleton] at hy; subst hy; revert u; simp [Value.oneCell', i64c]) (by omega) (by omega) (by omega) (by omega) rfl rfl ?_
        intro p6 c6_ w6 m6 G6
        have hz6 := m6.size
        have E := m6.toExt E (by omega)
        try replace O_b1 := m6.own O_b1 (by omega)
        try replace O5 := m6.own O5 (by omega)
        refine ov (xassign rfl) rfl rfl rfl ?_
        refine ops_nil ?_
        refine run_inBlock ?_
        refine run_inBlock ?_
        refine run_region ?_
        refine ov (xmove rfl) rfl rfl rfl ?_
        refine ov (xadd rfl rfl (by unfold I64; omega)) rfl rfl rfl ?_
        refine ov (xassign rfl) rfl rfl rfl ?_
        refine ops_nil ?_
        refine run_sub ?_ (hback3 (k + 1, p6, (m_7 + 1), c6_, ys_7 ++ [0], w6) (⟨E, O_b1, G6.wide (by omega) (by omega), by omega, by omega, by omega, by omega, ansOf_push hy (by rw [ansAt, if_neg c24, if_pos c33])⟩) (by first | omega | (dsimp only; omega)))
        exact ⟨rfl, rfl, rfl, rfl, rfl, trivial⟩
      ·
        refine ov (xassign rfl) rfl rfl rfl ?_
        refine ops_nil ?_
        refine run_cond_f rfl ?_
        refine run_region ?_
        refine ov (xmove rfl) rfl rfl rfl ?_
        refine obuild (cs := [.int .i64 (-1)]) (sz := 1) Try.underlying31 inf2 rfl rfl (by decide) rfl rfl (by simp [Value.cells]) rfl rfl rfl ?_
        intro b5 w5 e5 hb5 hz5 O5
        have E := E.trans e5
        replace G_7 := G_7.ext e5
        replace O_b1 := O_b1.ext e5
        refine oapp (bytes := 8) (nm := (m_7 + 1)) G_7 rfl rfl elem2 (Own.sl1 (y := (-1 : Int)) O5) (by intro h; cases h) (by intro y hy; rfl) (by intro y hy u hu; rw [List.mem_singleton] at hy; subst hy; revert u; simp [Value.oneCell', i64c]) (by omega) (by omega) (by omega) (by omega) rfl rfl ?_
        intro p6 c6_ w6 m6 G6
        have hz6 := m6.size
        have E := m6.toExt E (by omega)
        try replace O_b1 := m6.own O_b1 (by omega)
        try replace O5 := m6.own O5 (by omega)
        refine ov (xassign rfl) rfl rfl rfl ?_
        refine ops_nil ?_
        refine run_inBlock ?_
        refine run_inBlock ?_
        refine run_region ?_
        refine ov (xmove rfl) rfl rfl rfl ?_
        refine ov (xadd rfl rfl (by unfold I64; omega)) rfl rfl rfl ?_
        refine ov (xassign rfl) rfl rfl rfl ?_
        refine ops_nil ?_
        refine run_sub ?_ (hback3 (k + 1, p6, (m_7 + 1), c6_, ys_7 ++ [-1], w6) (⟨E, O_b1, G6.wide (by omega) (by omega), by omega, by omega, by omega, by omega, ansOf_push hy (by rw [ansAt, if_neg c24, if_neg c33])⟩) (by first | omega | (dsimp only; omega)))
        exact ⟨rfl, rfl, rfl, rfl, rfl, trivial⟩
  ·
    refine ops_nil ?_
    refine run_cond_f rfl ?_
    refine run_exit rfl ?_
    refine run_seq ?_
    refine run_region ?_
    refine ov (xmove rfl) rfl rfl rfl ?_
    refine ov (xassign rfl) rfl rfl rfl ?_
    refine ops_nil ?_
    refine run_ret Try.func118 (res1 rfl rfl) ?_
    obtain rfl : k = n := by omega
    exact ⟨_, rfl, E, _, _, _, rfl, by rw [ansOf, ← hn, ← hy]; exact G_7.wide (by omega) (by omega)⟩

set_option maxHeartbeats 400000 in
theorem AnswersOf_ok (p : Option Addr) (n c : Nat) (xs : List Question) (nd : Int) (vs : List (List Int)) (p3 : Option Addr) (n3 c3 : Nat) (w : World) (H : Sl Question.cells 3 w p n c xs) (hx : ∀ x ∈ xs, x.Label.size ≤ 9223372036854775807) (Hv0 : SnInt64SS w p3 n3 c3 vs) : Ret Try.prog 61 [.slice p n c, .agg #[.int .i64 nd, .slice p3 n3 c3]] w (fun v w' => Ext w w' ∧ ∃ q m d, v = .tuple #[.slice q m d, .int .i64 (answersOf xs nd vs).2] ∧ Ow i64c 1 2 w' w.heap.size w'.heap.size q m d (answersOf xs nd vs).1) := by
  refine ret_of_run (N := 13) Try.func61 rfl rfl rfl ?_
  have hn := H.len
  have hn6 := H.n64
  have hn3 := Hv0.len
  have hv6 := Hv0.n64
  have E : Ext w w := Ext.refl w
  refine run_seq ?_
  refine run_region ?_
  refine obox rfl rfl rfl ?_
  intro b1 w1 e1 hb1 hz1 O1
  have E := E.trans e1
  replace O1 : Own w1 b1 [.int .i64 nd, .slice p3 n3 c3] 41 := O1
  refine ov (xassign rfl) rfl rfl rfl ?_
  refine ov (xassign rfl) rfl rfl rfl ?_
  refine ops_nil ?_
  refine run_seq ?_
  refine run_seq ?_
  refine run_region ?_
  refine ov (xmove rfl) rfl rfl rfl ?_
  refine ov (v := .agg #[.int .i64 nd, .slice p3 n3 c3]) (xloadN Try.isAgg41 Try.sizeOf41 rfl (O1.cells) rfl) rfl rfl rfl ?_
  refine oc (xcall Try.call39 rfl) rfl rfl rfl (IsPoll_ok _ _ _ _ _ _ _ _ _ _ (H.ext E) (by assumption) (Hv0.ext E).sn) ?_
  rintro _ w2 ⟨rfl, e2⟩
  have z2 := e2.size
  have E := E.trans e2
  replace O1 := O1.ext e2
  refine obs (fun c8 => ?_) (fun c8 => ?_)
  ·
    have hff := isPoll_form c8
    have hfl := isForm_len hff
    have hfr := isPoll_row c8
    have hfv := isPoll_len c8
    have hfn := isPoll_need c8
    have hAn := areAns_ans xs nd vs
    have hAl := ansOf_length xs nd vs
    refine ov (xnot rfl) rfl rfl rfl ?_
    refine ops_nil ?_
    refine run_cond_f rfl ?_
    refine run_skip ?_
    refine run_seq ?_
    refine run_region ?_
    refine ov (v := .agg #[.int .i64 nd, .slice p3 n3 c3]) (xloadN Try.isAgg41 Try.sizeOf41 rfl (O1.cells) rfl) rfl rfl rfl ?_
    refine ov (xmove rfl) rfl rfl rfl ?_
    refine oc (xcall Try.call119 rfl) rfl rfl rfl (answers_ok _ _ _ _ _ _ _ _ _ _ (H.ext E) (Hv0.ext E).sn (by assumption) (by omega)) ?_
    rintro _ w3 ⟨e3, q12, m12, d12, rfl, G12⟩
    have z3 := e3.size
    have E := E.trans e3
    replace O1 := O1.ext e3
    refine ov (xassign rfl) rfl rfl rfl ?_
    refine ov (xassign rfl) rfl rfl rfl ?_
    refine ops_nil ?_
    refine run_ret Try.func61 (res2 rfl rfl rfl) ?_
    have he : answersOf xs nd vs = (ansOf xs nd vs, 0) := by simp [answersOf, c8]
    exact ⟨_, rfl, E, _, _, _, by rw [he], by rw [he]; exact G12.wide (by omega) (by omega)⟩
  ·
    refine ov (xnot rfl) rfl rfl rfl ?_
    refine ops_nil ?_
    refine run_cond_t rfl ?_
    refine run_seq ?_
    refine run_region ?_
    refine ov (xassign rfl) rfl rfl rfl ?_
    refine ov (xassign rfl) rfl rfl rfl ?_
    refine ops_nil ?_
    refine run_ret Try.func61 (res2 rfl rfl rfl) ?_
    have he : answersOf xs nd vs = ([], 1) := by simp [answersOf, c8]
    exact ⟨_, rfl, E, none, 0, 0, by rw [he], by rw [he]; exact Ow.none _ _ _ _ _ _⟩

set_option maxHeartbeats 400000 in
theorem sAnswersOf_ok (p : Option Addr) (n c : Nat) (xs : List Question) (nd : Int) (vs : List (List Int)) (p3 : Option Addr) (n3 c3 : Nat) (w : World) (H : Sl Question.cells 3 w p n c xs) (hx : ∀ x ∈ xs, x.Label.size ≤ 9223372036854775807) (Hv0 : SnInt64SS w p3 n3 c3 vs) : Ret Try.prog 60 [.slice p n c, .agg #[.int .i64 nd, .slice p3 n3 c3]] w (fun v w' => Ext w w' ∧ ∃ q m d, v = .tuple #[.slice q m d, .int .i64 (answersOf xs nd vs).2] ∧ Ow i64c 1 2 w' w.heap.size w'.heap.size q m d (answersOf xs nd vs).1) := by
  refine ret_of_run (N := 15) Try.func60 rfl rfl rfl ?_
  have hn := H.len
  have hn6 := H.n64
  have hn3 := Hv0.len
  have hv6 := Hv0.n64
  have E : Ext w w := Ext.refl w
  refine run_seq ?_
  refine run_region ?_
  refine obox rfl rfl rfl ?_
  intro b1 w1 e1 hb1 hz1 O1
  have E := E.trans e1
  replace O1 : Own w1 b1 [.int .i64 nd, .slice p3 n3 c3] 41 := O1
  refine ov (xassign rfl) rfl rfl rfl ?_
  refine ov (xassign rfl) rfl rfl rfl ?_
  refine ops_nil ?_
  refine run_seq ?_
  refine run_seq ?_
  refine run_region ?_
  refine ov (xmove rfl) rfl rfl rfl ?_
  refine ov (v := .agg #[.int .i64 nd, .slice p3 n3 c3]) (xloadN Try.isAgg41 Try.sizeOf41 rfl (O1.cells) rfl) rfl rfl rfl ?_
  refine oc (xcall Try.call37 rfl) rfl rfl rfl (sIsPoll_ok _ _ _ _ _ _ _ _ _ _ (H.ext E) (by assumption) (Hv0.ext E).sn) ?_
  rintro _ w2 ⟨rfl, e2⟩
  have z2 := e2.size
  have E := E.trans e2
  replace O1 := O1.ext e2
  refine obs (fun c8 => ?_) (fun c8 => ?_)
  ·
    have hff := isPoll_form c8
    have hfl := isForm_len hff
    have hfr := isPoll_row c8
    have hfv := isPoll_len c8
    have hfn := isPoll_need c8
    have hAn := areAns_ans xs nd vs
    have hAl := ansOf_length xs nd vs
    refine ov (xnot rfl) rfl rfl rfl ?_
    refine ops_nil ?_
    refine run_cond_f rfl ?_
    refine run_skip ?_
    refine run_seq ?_
    refine run_region ?_
    refine ov (xmove rfl) rfl rfl rfl ?_
    refine ov (v := .agg #[.int .i64 nd, .slice p3 n3 c3]) (xloadN Try.isAgg41 Try.sizeOf41 rfl (O1.cells) rfl) rfl rfl rfl ?_
    refine ov (xfieldAddr fo41f0 rfl) rfl rfl rfl ?_
    refine ov (v := .int .i64 nd) (xload1 Try.isAgg2 rfl (O1.cells) rfl) rfl rfl rfl ?_
    refine oc (xcall Try.call118 rfl) rfl rfl rfl (l27Answers_ok _ _ _ _ _ _ _ _ _ (nd) _ (H.ext E) (Hv0.ext E).sn (by assumption) (by omega)) ?_
    rintro _ w3 ⟨e3, q14, m14, d14, rfl, G14⟩
    have z3 := e3.size
    have E := E.trans e3
    replace O1 := O1.ext e3
    refine ov (xassign rfl) rfl rfl rfl ?_
    refine ov (xassign rfl) rfl rfl rfl ?_
    refine ops_nil ?_
    refine run_ret Try.func60 (res2 rfl rfl rfl) ?_
    have he : answersOf xs nd vs = (ansOf xs nd vs, 0) := by simp [answersOf, c8]
    exact ⟨_, rfl, E, _, _, _, by rw [he], by rw [he]; exact G14.wide (by omega) (by omega)⟩
  ·
    refine ov (xnot rfl) rfl rfl rfl ?_
    refine ops_nil ?_
    refine run_cond_t rfl ?_
    refine run_seq ?_
    refine run_region ?_
    refine ov (xassign rfl) rfl rfl rfl ?_
    refine ov (xassign rfl) rfl rfl rfl ?_
    refine ops_nil ?_
    refine run_ret Try.func60 (res2 rfl rfl rfl) ?_
    have he : answersOf xs nd vs = ([], 1) := by simp [answersOf, c8]
    exact ⟨_, rfl, E, none, 0, 0, by rw [he], by rw [he]; exact Ow.none _ _ _ _ _ _⟩

set_option maxHeartbeats 400000 in
theorem PollVerdict_ok (p : Option Addr) (n c : Nat) (xs : List Question) (nd : Int) (vs : List (List Int)) (p3 : Option Addr) (n3 c3 : Nat) (w : World) (H : Sl Question.cells 3 w p n c xs) (hx : ∀ x ∈ xs, x.Label.size ≤ 9223372036854775807) (Hv0 : SnInt64SS w p3 n3 c3 vs) : Ret Try.prog 71 [.slice p n c, .agg #[.int .i64 nd, .slice p3 n3 c3]] w (Pv w (.tuple #[.int .i64 (pollVerdict xs nd vs).1, .int .i64 (pollVerdict xs nd vs).2])) := by
  refine ret_of_run (N := 17) Try.func71 rfl rfl rfl ?_
  have hn := H.len
  have hn6 := H.n64
  have hn3 := Hv0.len
  have hv6 := Hv0.n64
  have E : Ext w w := Ext.refl w
  refine run_seq ?_
  refine run_region ?_
  refine obox rfl rfl rfl ?_
  intro b1 w1 e1 hb1 hz1 O1
  have E := E.trans e1
  replace O1 : Own w1 b1 [.int .i64 nd, .slice p3 n3 c3] 41 := O1
  refine ov (xassign rfl) rfl rfl rfl ?_
  refine ov (xassign rfl) rfl rfl rfl ?_
  refine ops_nil ?_
  refine run_seq ?_
  refine run_seq ?_
  refine run_region ?_
  refine ov (xmove rfl) rfl rfl rfl ?_
  refine ov (v := .agg #[.int .i64 nd, .slice p3 n3 c3]) (xloadN Try.isAgg41 Try.sizeOf41 rfl (O1.cells) rfl) rfl rfl rfl ?_
  refine oc (xcall Try.call39 rfl) rfl rfl rfl (IsPoll_ok _ _ _ _ _ _ _ _ _ _ (H.ext E) (by assumption) (Hv0.ext E).sn) ?_
  rintro _ w2 ⟨rfl, e2⟩
  have z2 := e2.size
  have E := E.trans e2
  replace O1 := O1.ext e2
  refine obs (fun c8 => ?_) (fun c8 => ?_)
  ·
    have hff := isPoll_form c8
    have hfl := isForm_len hff
    have hfr := isPoll_row c8
    have hfv := isPoll_len c8
    have hfn := isPoll_need c8
    have hAn := areAns_ans xs nd vs
    have hAl := ansOf_length xs nd vs
    refine ov (xnot rfl) rfl rfl rfl ?_
    refine ops_nil ?_
    refine run_cond_f rfl ?_
    refine run_skip ?_
    refine run_seq ?_
    refine run_region ?_
    refine ov (xmove rfl) rfl rfl rfl ?_
    refine ov (v := .agg #[.int .i64 nd, .slice p3 n3 c3]) (xloadN Try.isAgg41 Try.sizeOf41 rfl (O1.cells) rfl) rfl rfl rfl ?_
    refine ov (xmove rfl) rfl rfl rfl ?_
    refine oc (xcall Try.call119 rfl) rfl rfl rfl (answers_ok _ _ _ _ _ _ _ _ _ _ (H.ext E) (Hv0.ext E).sn (by assumption) (by omega)) ?_
    rintro _ w3 ⟨e3, q13, m13, d13, rfl, G13⟩
    have z3 := e3.size
    have E := E.trans e3
    replace O1 := O1.ext e3
    refine oc (xcall Try.call34 rfl) rfl rfl rfl (VerdictOf_ok _ _ _ _ _ _ _ _ _ (H.ext E) (by assumption) (G13.sl)) ?_
    rintro _ w4 ⟨rfl, e4⟩
    have z4 := e4.size
    have E := E.trans e4
    replace G13 := G13.ext e4
    replace O1 := O1.ext e4
    refine ov (xextract rfl rfl) rfl rfl rfl ?_
    refine ov (xextract rfl rfl) rfl rfl rfl ?_
    refine ov (xassign rfl) rfl rfl rfl ?_
    refine ov (xassign rfl) rfl rfl rfl ?_
    refine ops_nil ?_
    refine run_ret Try.func71 (res2 rfl rfl rfl) ?_
    exact ⟨_, rfl, by rw [pollVerdict, if_neg (by simp [c8])], E⟩
  ·
    refine ov (xnot rfl) rfl rfl rfl ?_
    refine ops_nil ?_
    refine run_cond_t rfl ?_
    refine run_seq ?_
    refine run_region ?_
    refine ov (xassign rfl) rfl rfl rfl ?_
    refine ov (xassign rfl) rfl rfl rfl ?_
    refine ops_nil ?_
    refine run_ret Try.func71 (res2 rfl rfl rfl) ?_
    exact ⟨_, rfl, by rw [pollVerdict_1 c8], E⟩

set_option maxHeartbeats 400000 in
theorem sPollVerdict_ok (p : Option Addr) (n c : Nat) (xs : List Question) (nd : Int) (vs : List (List Int)) (p3 : Option Addr) (n3 c3 : Nat) (w : World) (H : Sl Question.cells 3 w p n c xs) (hx : ∀ x ∈ xs, x.Label.size ≤ 9223372036854775807) (Hv0 : SnInt64SS w p3 n3 c3 vs) : Ret Try.prog 70 [.slice p n c, .agg #[.int .i64 nd, .slice p3 n3 c3]] w (Pv w (.tuple #[.int .i64 (pollVerdict xs nd vs).1, .int .i64 (pollVerdict xs nd vs).2])) := by
  refine ret_of_run (N := 25) Try.func70 rfl rfl rfl ?_
  have hn := H.len
  have hn6 := H.n64
  have hn3 := Hv0.len
  have hv6 := Hv0.n64
  have E : Ext w w := Ext.refl w
  refine run_seq ?_
  refine run_region ?_
  refine obox rfl rfl rfl ?_
  intro b1 w1 e1 hb1 hz1 O1
  have E := E.trans e1
  replace O1 : Own w1 b1 [.int .i64 nd, .slice p3 n3 c3] 41 := O1
  refine ov (xassign rfl) rfl rfl rfl ?_
  refine ov (xassign rfl) rfl rfl rfl ?_
  refine ops_nil ?_
  refine run_seq ?_
  refine run_seq ?_
  refine run_region ?_
  refine ov (xmove rfl) rfl rfl rfl ?_
  refine ov (v := .agg #[.int .i64 nd, .slice p3 n3 c3]) (xloadN Try.isAgg41 Try.sizeOf41 rfl (O1.cells) rfl) rfl rfl rfl ?_
  refine oc (xcall Try.call37 rfl) rfl rfl rfl (sIsPoll_ok _ _ _ _ _ _ _ _ _ _ (H.ext E) (by assumption) (Hv0.ext E).sn) ?_
  rintro _ w2 ⟨rfl, e2⟩
  have z2 := e2.size
  have E := E.trans e2
  replace O1 := O1.ext e2
  refine obs (fun c10 => ?_) (fun c10 => ?_)
  ·
    have hff := isPoll_form c10
    have hfl := isForm_len hff
    have hfr := isPoll_row c10
    have hfv := isPoll_len c10
    have hfn := isPoll_need c10
    have hAn := areAns_ans xs nd vs
    have hAl := ansOf_length xs nd vs
    refine ov (xnot rfl) rfl rfl rfl ?_
    refine ops_nil ?_
    refine run_cond_f rfl ?_
    refine run_skip ?_
    refine run_seq ?_
    refine run_region ?_
    refine ov (xmove rfl) rfl rfl rfl ?_
    refine ov (xmove rfl) rfl rfl rfl ?_
    refine ov (v := .agg #[.int .i64 nd, .slice p3 n3 c3]) (xloadN Try.isAgg41 Try.sizeOf41 rfl (O1.cells) rfl) rfl rfl rfl ?_
    refine ov (xfieldAddr fo41f0 rfl) rfl rfl rfl ?_
    refine ov (v := .int .i64 nd) (xload1 Try.isAgg2 rfl (O1.cells) rfl) rfl rfl rfl ?_
    refine oc (xcall Try.call118 rfl) rfl rfl rfl (l27Answers_ok _ _ _ _ _ _ _ _ _ (nd) _ (H.ext E) (Hv0.ext E).sn (by assumption) (by omega)) ?_
    rintro _ w3 ⟨e3, q18, m18, d18, rfl, G18⟩
    have z3 := e3.size
    have E := E.trans e3
    replace O1 := O1.ext e3
    refine oc (xcall Try.call99 rfl) rfl rfl rfl (l26Way_ok _ _ _ _ _ _ _ _ _ (H.ext E) (by assumption) (G18.sl) (by assumption) (by assumption)) ?_
    rintro _ w4 ⟨e4, q19, m19, d19, rfl, G19⟩
    have z4 := e4.size
    have E := E.trans e4
    replace G18 := G18.ext e4
    replace O1 := O1.ext e4
    refine ov (xmove rfl) rfl rfl rfl ?_
    refine ov (xextract rfl rfl) rfl rfl rfl ?_
    refine ov (xextract rfl rfl) rfl rfl rfl ?_
    refine ov (xassign rfl) rfl rfl rfl ?_
    refine ov (xassign rfl) rfl rfl rfl ?_
    refine ops_nil ?_
    refine run_seq ?_
    refine run_seq ?_
    refine run_region ?_
    refine ov (xmove rfl) rfl rfl rfl ?_
    refine ov (xeql rfl rfl _ rfl) rfl rfl rfl ?_
    refine ods (fun c23 => ?_) (fun c23 => ?_)
    ·
      refine ops_nil ?_
      refine run_cond_t rfl ?_
      refine run_seq ?_
      refine run_region ?_
      refine ov (xassign rfl) rfl rfl rfl ?_
      refine ov (xassign rfl) rfl rfl rfl ?_
      refine ops_nil ?_
      refine run_ret Try.func70 (res2 rfl rfl rfl) ?_
      exact ⟨_, rfl, by rw [pollVerdict_5 c10 c23], E⟩
    ·
      refine ops_nil ?_
      refine run_cond_f rfl ?_
      refine run_skip ?_
      refine run_seq ?_
      refine run_region ?_
      refine ov (xmove rfl) rfl rfl rfl ?_
      refine ov (xassign rfl) rfl rfl rfl ?_
      refine ov (xassign rfl) rfl rfl rfl ?_
      refine ops_nil ?_
      refine run_ret Try.func70 (res2 rfl rfl rfl) ?_
      exact ⟨_, rfl, by rw [pollVerdict_0 c10 c23], E⟩
  ·
    refine ov (xnot rfl) rfl rfl rfl ?_
    refine ops_nil ?_
    refine run_cond_t rfl ?_
    refine run_seq ?_
    refine run_region ?_
    refine ov (xassign rfl) rfl rfl rfl ?_
    refine ov (xassign rfl) rfl rfl rfl ?_
    refine ops_nil ?_
    refine run_ret Try.func70 (res2 rfl rfl rfl) ?_
    exact ⟨_, rfl, by rw [pollVerdict_1 c10], E⟩

set_option maxHeartbeats 400000 in
theorem HungOn_ok (p : Option Addr) (n c : Nat) (xs : List Question) (nd : Int) (vs : List (List Int)) (p3 : Option Addr) (n3 c3 : Nat) (w : World) (H : Sl Question.cells 3 w p n c xs) (hx : ∀ x ∈ xs, x.Label.size ≤ 9223372036854775807) (Hv0 : SnInt64SS w p3 n3 c3 vs) : Ret Try.prog 57 [.slice p n c, .agg #[.int .i64 nd, .slice p3 n3 c3]] w (Pv w (.tuple #[.int .i64 (hungOn xs nd vs).1, .int .i64 (hungOn xs nd vs).2])) := by
  refine ret_of_run (N := 28) Try.func57 rfl rfl rfl ?_
  have hn := H.len
  have hn6 := H.n64
  have hn3 := Hv0.len
  have hv6 := Hv0.n64
  have hwle := wayG_le xs (ansOf xs nd vs) xs.length 0
  have hwl2 : (wayF xs (ansOf xs nd vs)).2 ≤ 0 := hwle
  have hwg : (wayF xs (ansOf xs nd vs)).1.length ≤ xs.length := wayG_ge xs (ansOf xs nd vs) xs.length 0
  have E : Ext w w := Ext.refl w
  refine run_seq ?_
  refine run_region ?_
  refine obox rfl rfl rfl ?_
  intro b1 w1 e1 hb1 hz1 O1
  have E := E.trans e1
  replace O1 : Own w1 b1 [.int .i64 nd, .slice p3 n3 c3] 41 := O1
  refine ov (xassign rfl) rfl rfl rfl ?_
  refine ov (xassign rfl) rfl rfl rfl ?_
  refine ops_nil ?_
  refine run_seq ?_
  refine run_seq ?_
  refine run_region ?_
  refine ov (xmove rfl) rfl rfl rfl ?_
  refine ov (v := .agg #[.int .i64 nd, .slice p3 n3 c3]) (xloadN Try.isAgg41 Try.sizeOf41 rfl (O1.cells) rfl) rfl rfl rfl ?_
  refine oc (xcall Try.call39 rfl) rfl rfl rfl (IsPoll_ok _ _ _ _ _ _ _ _ _ _ (H.ext E) (by assumption) (Hv0.ext E).sn) ?_
  rintro _ w2 ⟨rfl, e2⟩
  have z2 := e2.size
  have E := E.trans e2
  replace O1 := O1.ext e2
  refine obs (fun c10 => ?_) (fun c10 => ?_)
  ·
    have hff := isPoll_form c10
    have hfl := isForm_len hff
    have hfr := isPoll_row c10
    have hfv := isPoll_len c10
    have hfn := isPoll_need c10
    have hAn := areAns_ans xs nd vs
    have hAl := ansOf_length xs nd vs
    refine ov (xnot rfl) rfl rfl rfl ?_
    refine ops_nil ?_
    refine run_cond_f rfl ?_
    refine run_skip ?_
    refine run_seq ?_
    refine run_region ?_
    refine ov (xmove rfl) rfl rfl rfl ?_
    refine ov (v := .agg #[.int .i64 nd, .slice p3 n3 c3]) (xloadN Try.isAgg41 Try.sizeOf41 rfl (O1.cells) rfl) rfl rfl rfl ?_
    refine ov (xmove rfl) rfl rfl rfl ?_
    refine oc (xcall Try.call119 rfl) rfl rfl rfl (answers_ok _ _ _ _ _ _ _ _ _ _ (H.ext E) (Hv0.ext E).sn (by assumption) (by omega)) ?_
    rintro _ w3 ⟨e3, q16, m16, d16, rfl, G16⟩
    have z3 := e3.size
    have E := E.trans e3
    replace O1 := O1.ext e3
    refine oc (xcall Try.call101 rfl) rfl rfl rfl (wayOf_ok _ _ _ _ _ _ _ _ _ (H.ext E) (by assumption) (G16.sl) (by assumption) (by assumption)) ?_
    rintro _ w4 ⟨e4, q17, m17, d17, rfl, G17⟩
    have z4 := e4.size
    have E := E.trans e4
    replace G16 := G16.ext e4
    replace O1 := O1.ext e4
    refine ov (xmove rfl) rfl rfl rfl ?_
    refine ov (xextract rfl rfl) rfl rfl rfl ?_
    refine ov (xextract rfl rfl) rfl rfl rfl ?_
    refine ov (xassign rfl) rfl rfl rfl ?_
    refine ov (xassign rfl) rfl rfl rfl ?_
    refine ops_nil ?_
    refine run_seq ?_
    refine run_seq ?_
    refine run_region ?_
    refine ov (xmove rfl) rfl rfl rfl ?_
    refine ov (xneq rfl rfl _ rfl) rfl rfl rfl ?_
    refine ods (fun c21 => ?_) (fun c21 => ?_)
    ·
      refine ops_nil ?_
      refine run_cond_t rfl ?_
      refine run_seq ?_
      refine run_region ?_
      refine ov (xassign rfl) rfl rfl rfl ?_
      refine ov (xassign rfl) rfl rfl rfl ?_
      refine ops_nil ?_
      refine run_ret Try.func57 (res2 rfl rfl rfl) ?_
      exact ⟨_, rfl, by rw [hungOn, if_neg (by simp [c10]), if_pos (by omega)], E⟩
    ·
      refine ops_nil ?_
      refine run_cond_f rfl ?_
      refine run_skip ?_
      refine run_seq ?_
      refine run_region ?_
      refine ov (xmove rfl) rfl rfl rfl ?_
      refine ov (xmove rfl) rfl rfl rfl ?_
      refine ov (xlen Try.underlying31 rfl) rfl rfl rfl ?_
      have hgl := G17.len
      have hne := wayF_ne hff hAl
      refine ov (xsub rfl rfl (by unfold I64; omega)) rfl rfl rfl ?_
      have h26 := (G17.sl).at (i := m17 - 1) (by omega)
      refine ov (xindexN (i := m17 - 1) Try.underlying31 Try.sizeOf2 rfl rfl (by omega) ((G17.sl).p (i := m17 - 1) (by omega)) (by have := (G17.sl).len; omega)) rfl rfl rfl ?_
      refine ov (v := .int .i64 (wayF xs (ansOf xs nd vs)).1[m17 - 1]) (xloadz Try.isAgg2 rfl (h26) rfl) rfl rfl rfl ?_
      refine ov (xassign rfl) rfl rfl rfl ?_
      refine ov (xassign rfl) rfl rfl rfl ?_
      refine ops_nil ?_
      refine run_ret Try.func57 (res2 rfl rfl rfl) ?_
      exact ⟨_, rfl, by rw [hungOn, if_neg (by simp [c10]), if_neg (by omega), lastI_at (by omega)]; simp only [hgl], E⟩
  ·
    refine ov (xnot rfl) rfl rfl rfl ?_
    refine ops_nil ?_
    refine run_cond_t rfl ?_
    refine run_seq ?_
    refine run_region ?_
    refine ov (xassign rfl) rfl rfl rfl ?_
    refine ov (xassign rfl) rfl rfl rfl ?_
    refine ops_nil ?_
    refine run_ret Try.func57 (res2 rfl rfl rfl) ?_
    exact ⟨_, rfl, by rw [hungOn, if_pos c10], E⟩

set_option maxHeartbeats 400000 in
theorem sHungOn_ok (p : Option Addr) (n c : Nat) (xs : List Question) (nd : Int) (vs : List (List Int)) (p3 : Option Addr) (n3 c3 : Nat) (w : World) (H : Sl Question.cells 3 w p n c xs) (hx : ∀ x ∈ xs, x.Label.size ≤ 9223372036854775807) (Hv0 : SnInt64SS w p3 n3 c3 vs) : Ret Try.prog 56 [.slice p n c, .agg #[.int .i64 nd, .slice p3 n3 c3]] w (Pv w (.tuple #[.int .i64 (hungOn xs nd vs).1, .int .i64 (hungOn xs nd vs).2])) := by
  refine ret_of_run (N := 30) Try.func56 rfl rfl rfl ?_
  have hn := H.len
  have hn6 := H.n64
  have hn3 := Hv0.len
  have hv6 := Hv0.n64
  have hwle := wayG_le xs (ansOf xs nd vs) xs.length 0
  have hwl2 : (wayF xs (ansOf xs nd vs)).2 ≤ 0 := hwle
  have hwg : (wayF xs (ansOf xs nd vs)).1.length ≤ xs.length := wayG_ge xs (ansOf xs nd vs) xs.length 0
  have E : Ext w w := Ext.refl w
  refine run_seq ?_
  refine run_region ?_
  refine obox rfl rfl rfl ?_
  intro b1 w1 e1 hb1 hz1 O1
  have E := E.trans e1
  replace O1 : Own w1 b1 [.int .i64 nd, .slice p3 n3 c3] 41 := O1
  refine ov (xassign rfl) rfl rfl rfl ?_
  refine ov (xassign rfl) rfl rfl rfl ?_
  refine ops_nil ?_
  refine run_seq ?_
  refine run_seq ?_
  refine run_region ?_
  refine ov (xmove rfl) rfl rfl rfl ?_
  refine ov (v := .agg #[.int .i64 nd, .slice p3 n3 c3]) (xloadN Try.isAgg41 Try.sizeOf41 rfl (O1.cells) rfl) rfl rfl rfl ?_
  refine oc (xcall Try.call37 rfl) rfl rfl rfl (sIsPoll_ok _ _ _ _ _ _ _ _ _ _ (H.ext E) (by assumption) (Hv0.ext E).sn) ?_
  rintro _ w2 ⟨rfl, e2⟩
  have z2 := e2.size
  have E := E.trans e2
  replace O1 := O1.ext e2
  refine obs (fun c10 => ?_) (fun c10 => ?_)
  ·
    have hff := isPoll_form c10
    have hfl := isForm_len hff
    have hfr := isPoll_row c10
    have hfv := isPoll_len c10
    have hfn := isPoll_need c10
    have hAn := areAns_ans xs nd vs
    have hAl := ansOf_length xs nd vs
    refine ov (xnot rfl) rfl rfl rfl ?_
    refine ops_nil ?_
    refine run_cond_f rfl ?_
    refine run_skip ?_
    refine run_seq ?_
    refine run_region ?_
    refine ov (xmove rfl) rfl rfl rfl ?_
    refine ov (xmove rfl) rfl rfl rfl ?_
    refine ov (v := .agg #[.int .i64 nd, .slice p3 n3 c3]) (xloadN Try.isAgg41 Try.sizeOf41 rfl (O1.cells) rfl) rfl rfl rfl ?_
    refine ov (xfieldAddr fo41f0 rfl) rfl rfl rfl ?_
    refine ov (v := .int .i64 nd) (xload1 Try.isAgg2 rfl (O1.cells) rfl) rfl rfl rfl ?_
    refine oc (xcall Try.call118 rfl) rfl rfl rfl (l27Answers_ok _ _ _ _ _ _ _ _ _ (nd) _ (H.ext E) (Hv0.ext E).sn (by assumption) (by omega)) ?_
    rintro _ w3 ⟨e3, q18, m18, d18, rfl, G18⟩
    have z3 := e3.size
    have E := E.trans e3
    replace O1 := O1.ext e3
    refine oc (xcall Try.call99 rfl) rfl rfl rfl (l26Way_ok _ _ _ _ _ _ _ _ _ (H.ext E) (by assumption) (G18.sl) (by assumption) (by assumption)) ?_
    rintro _ w4 ⟨e4, q19, m19, d19, rfl, G19⟩
    have z4 := e4.size
    have E := E.trans e4
    replace G18 := G18.ext e4
    replace O1 := O1.ext e4
    refine ov (xmove rfl) rfl rfl rfl ?_
    refine ov (xextract rfl rfl) rfl rfl rfl ?_
    refine ov (xextract rfl rfl) rfl rfl rfl ?_
    refine ov (xassign rfl) rfl rfl rfl ?_
    refine ov (xassign rfl) rfl rfl rfl ?_
    refine ops_nil ?_
    refine run_seq ?_
    refine run_seq ?_
    refine run_region ?_
    refine ov (xmove rfl) rfl rfl rfl ?_
    refine ov (xlss rfl rfl _ rfl) rfl rfl rfl ?_
    refine ods (fun c23 => ?_) (fun c23 => ?_)
    ·
      refine ops_nil ?_
      refine run_cond_t rfl ?_
      refine run_seq ?_
      refine run_region ?_
      refine ov (xassign rfl) rfl rfl rfl ?_
      refine ov (xassign rfl) rfl rfl rfl ?_
      refine ops_nil ?_
      refine run_ret Try.func56 (res2 rfl rfl rfl) ?_
      exact ⟨_, rfl, by rw [hungOn, if_neg (by simp [c10]), if_pos (by omega)], E⟩
    ·
      refine ops_nil ?_
      refine run_cond_f rfl ?_
      refine run_skip ?_
      refine run_seq ?_
      refine run_region ?_
      refine ov (xmove rfl) rfl rfl rfl ?_
      refine ov (xmove rfl) rfl rfl rfl ?_
      refine ov (xlen Try.underlying31 rfl) rfl rfl rfl ?_
      have hgl := G19.len
      have hne := wayF_ne hff hAl
      refine ov (xsub rfl rfl (by unfold I64; omega)) rfl rfl rfl ?_
      have h28 := (G19.sl).at (i := m19 - 1) (by omega)
      refine ov (xindexN (i := m19 - 1) Try.underlying31 Try.sizeOf2 rfl rfl (by omega) ((G19.sl).p (i := m19 - 1) (by omega)) (by have := (G19.sl).len; omega)) rfl rfl rfl ?_
      refine ov (v := .int .i64 (wayF xs (ansOf xs nd vs)).1[m19 - 1]) (xloadz Try.isAgg2 rfl (h28) rfl) rfl rfl rfl ?_
      refine ov (xassign rfl) rfl rfl rfl ?_
      refine ov (xassign rfl) rfl rfl rfl ?_
      refine ops_nil ?_
      refine run_ret Try.func56 (res2 rfl rfl rfl) ?_
      exact ⟨_, rfl, by rw [hungOn, if_neg (by simp [c10]), if_neg (by omega), lastI_at (by omega)]; simp only [hgl], E⟩
  ·
    refine ov (xnot rfl) rfl rfl rfl ?_
    refine ops_nil ?_
    refine run_cond_t rfl ?_
    refine run_seq ?_
    refine run_region ?_
    refine ov (xassign rfl) rfl rfl rfl ?_
    refine ov (xassign rfl) rfl rfl rfl ?_
    refine ops_nil ?_
    refine run_ret Try.func56 (res2 rfl rfl rfl) ?_
    exact ⟨_, rfl, by rw [hungOn, if_pos c10], E⟩

set_option maxHeartbeats 400000 in
theorem l27Code_ok (p : Option Addr) (n c : Nat) (xs : List Question) (nd : Int) (vs : List (List Int)) (p3 : Option Addr) (n3 c3 : Nat) (w : World) (H : Sl Question.cells 3 w p n c xs) (hx : ∀ x ∈ xs, x.Label.size ≤ 9223372036854775807) (Hv0 : SnInt64SS w p3 n3 c3 vs) (j q : Int) : Ret Try.prog 114 [.slice p n c, .agg #[.int .i64 nd, .slice p3 n3 c3], .int .i64 j, .int .i64 q] w (Pv w (.int .i64 (pollCode xs nd vs j q))) := by
  refine ret_of_run (N := 28) Try.func114 rfl rfl rfl ?_
  have hn := H.len
  have hn6 := H.n64
  have hn3 := Hv0.len
  have hv6 := Hv0.n64
  have E : Ext w w := Ext.refl w
  refine run_seq ?_
  refine run_region ?_
  refine obox rfl rfl rfl ?_
  intro b1 w1 e1 hb1 hz1 O1
  have E := E.trans e1
  replace O1 : Own w1 b1 [.int .i64 nd, .slice p3 n3 c3] 41 := O1
  refine ov (xassign rfl) rfl rfl rfl ?_
  refine ops_nil ?_
  refine run_seq ?_
  refine run_seq ?_
  refine run_region ?_
  refine ov (xmove rfl) rfl rfl rfl ?_
  refine ov (v := .agg #[.int .i64 nd, .slice p3 n3 c3]) (xloadN Try.isAgg41 Try.sizeOf41 rfl (O1.cells) rfl) rfl rfl rfl ?_
  refine oc (xcall Try.call37 rfl) rfl rfl rfl (sIsPoll_ok _ _ _ _ _ _ _ _ _ _ (H.ext E) (by assumption) (Hv0.ext E).sn) ?_
  rintro _ w2 ⟨rfl, e2⟩
  have z2 := e2.size
  have E := E.trans e2
  replace O1 := O1.ext e2
  refine obs (fun c11 => ?_) (fun c11 => ?_)
  ·
    refine ov (xnot rfl) rfl rfl rfl ?_
    refine ops_nil ?_
    refine run_cond_f rfl ?_
    refine run_skip ?_
    refine run_seq ?_
    refine run_seq ?_
    refine run_region ?_
    refine ov (xmove rfl) rfl rfl rfl ?_
    refine ov (xfieldAddr fo41f1 rfl) rfl rfl rfl ?_
    refine ov (v := .slice p3 n3 c3) (xload1 Try.isAgg36 rfl (O1.cells) rfl) rfl rfl rfl ?_
    refine ov (xlen Try.underlying36 rfl) rfl rfl rfl ?_
    refine ov (xsub rfl rfl (by unfold I64; omega)) rfl rfl rfl ?_
    refine oc (xcall Try.call88 rfl) rfl rfl rfl (l01In_ok (j) (0) (((n3 : Int) - 1)) _) ?_
    rintro _ w_ ⟨rfl, hw_⟩
    replace hw_ := hw_.symm
    subst hw_
    refine obs (fun c18 => ?_) (fun c18 => ?_)
    ·
      have h18 := inR_iff.1 c18
      refine ov (xnot rfl) rfl rfl rfl ?_
      refine ov (xmove rfl) rfl rfl rfl ?_
      refine ov (xmove rfl) rfl rfl rfl ?_
      refine ov (xmove rfl) rfl rfl rfl ?_
      refine ov (xlen Try.underlying25 rfl) rfl rfl rfl ?_
      refine ov (xsub rfl rfl (by unfold I64; omega)) rfl rfl rfl ?_
      refine oc (xcall Try.call88 rfl) rfl rfl rfl (l01In_ok (q) (0) (((n : Int) - 1)) _) ?_
      rintro _ w_ ⟨rfl, hw_⟩
      replace hw_ := hw_.symm
      subst hw_
      refine obs (fun c25 => ?_) (fun c25 => ?_)
      ·
        have h25 := inR_iff.1 c25
        refine ov (xnot rfl) rfl rfl rfl ?_
        refine ov (xpick_f rfl rfl) rfl rfl rfl ?_
        refine ops_nil ?_
        refine run_cond_f rfl ?_
        refine run_skip ?_
        refine run_seq ?_
        refine run_region ?_
        refine ov (xassign rfl) rfl rfl rfl ?_
        refine ops_nil ?_
        refine run_ret Try.func114 (res1 rfl rfl) ?_
        exact ⟨_, rfl, by rw [pollCode, if_neg (by simp [c11]), if_neg (by omega)], E⟩
      ·
        have h25 : ¬ (0 ≤ q ∧ q ≤ (n : Int) - 1) := fun h => by rw [inR_iff.2 h] at c25; cases c25
        refine ov (xnot rfl) rfl rfl rfl ?_
        refine ov (xpick_f rfl rfl) rfl rfl rfl ?_
        refine ops_nil ?_
        refine run_cond_t rfl ?_
        refine run_seq ?_
        refine run_region ?_
        refine ov (xassign rfl) rfl rfl rfl ?_
        refine ops_nil ?_
        refine run_ret Try.func114 (res1 rfl rfl) ?_
        exact ⟨_, rfl, by rw [pollCode, if_neg (by simp [c11]), if_pos (by omega)], E⟩
    ·
      have h18 : ¬ (0 ≤ j ∧ j ≤ (n3 : Int) - 1) := fun h => by rw [inR_iff.2 h] at c18; cases c18
      refine ov (xnot rfl) rfl rfl rfl ?_
      refine ov (xmove rfl) rfl rfl rfl ?_
      refine og rfl rfl rfl ?_
      refine og rfl rfl rfl ?_
      refine og rfl rfl rfl ?_
      refine og rfl rfl rfl ?_
      refine og rfl rfl rfl ?_
      refine og rfl rfl rfl ?_
      refine ov (xpick_t rfl rfl) rfl rfl rfl ?_
      refine ops_nil ?_
      refine run_cond_t rfl ?_
      refine run_seq ?_
      refine run_region ?_
      refine ov (xassign rfl) rfl rfl rfl ?_
      refine ops_nil ?_
      refine run_ret Try.func114 (res1 rfl rfl) ?_
      exact ⟨_, rfl, by rw [pollCode, if_neg (by simp [c11]), if_pos (by omega)], E⟩
  ·
    refine ov (xnot rfl) rfl rfl rfl ?_
    refine ops_nil ?_
    refine run_cond_t rfl ?_
    refine run_seq ?_
    refine run_region ?_
    refine ov (xassign rfl) rfl rfl rfl ?_
    refine ops_nil ?_
    refine run_ret Try.func114 (res1 rfl rfl) ?_
    exact ⟨_, rfl, by rw [pollCode, if_pos c11], E⟩

theorem pollCode_zero {xs : List Question} {nd : Int} {vs : List (List Int)} {j q : Int} (h : pollCode xs nd vs j q = 0) : isPoll xs nd vs = true ∧ 0 ≤ j ∧ j < vs.length ∧ 0 ≤ q ∧ q < xs.length := by
  unfold pollCode at h
  split at h
  · cases h
  · rename_i h1
    split at h
    · cases h
    · rename_i h2; exact ⟨by simpa using h1, by omega⟩
theorem tally_bad {xs : List Question} {nd : Int} {vs : List (List Int)} {q : Int} {n : Nat} (h : pollCode xs nd vs 0 q ≠ 0) (hn : n = xs.length) : (Value.tuple #[.int .i64 0, .int .i64 0, .int .i64 0, .int .i64 (pollCode xs nd vs 0 q)]) = .tuple #[.int .i64 (tallyOf xs nd vs q).1, .int .i64 (tallyOf xs nd vs q).2.1, .int .i64 (tallyOf xs nd vs q).2.2.1, .int .i64 (tallyOf xs nd vs q).2.2.2] := by
  unfold pollCode tallyOf at *
  by_cases h1 : isPoll xs nd vs = false
  · rw [if_pos h1, if_pos h1]
  · have h2 := isPoll_len (by simpa using h1 : isPoll xs nd vs = true)
    rw [if_neg h1] at h ⊢
    rw [if_neg h1]
    by_cases h3 : q < 0 ∨ (xs.length : Int) ≤ q
    · rw [if_pos h3, if_pos (by omega)]
    · rw [if_neg (by omega)] at h; exact absurd rfl h
theorem juror_bad {xs : List Question} {nd : Int} {vs : List (List Int)} {j : Int} (h : pollCode xs nd vs j 0 ≠ 0) : (Value.tuple #[.int .i64 0, .int .i64 (pollCode xs nd vs j 0)]) = .tuple #[.int .i64 (jurorVerdict xs nd vs j).1, .int .i64 (jurorVerdict xs nd vs j).2] := by
  unfold pollCode jurorVerdict at *
  by_cases h1 : isPoll xs nd vs = false
  · rw [if_pos h1, if_pos h1]
  · have h2 := isForm_len (isPoll_form (by simpa using h1 : isPoll xs nd vs = true))
    rw [if_neg h1] at h ⊢
    rw [if_neg h1]
    by_cases h3 : j < 0 ∨ (vs.length : Int) ≤ j
    · rw [if_pos h3, if_pos (by omega)]
    · rw [if_neg (by omega)] at h; exact absurd rfl h

set_option maxHeartbeats 400000 in
theorem TallyOf_ok (p : Option Addr) (n c : Nat) (xs : List Question) (nd : Int) (vs : List (List Int)) (p3 : Option Addr) (n3 c3 : Nat) (w : World) (H : Sl Question.cells 3 w p n c xs) (hx : ∀ x ∈ xs, x.Label.size ≤ 9223372036854775807) (Hv0 : SnInt64SS w p3 n3 c3 vs) (q : Int) : Ret Try.prog 51 [.slice p n c, .agg #[.int .i64 nd, .slice p3 n3 c3], .int .i64 q] w (Pv w (.tuple #[.int .i64 (tallyOf xs nd vs q).1, .int .i64 (tallyOf xs nd vs q).2.1, .int .i64 (tallyOf xs nd vs q).2.2.1, .int .i64 (tallyOf xs nd vs q).2.2.2])) := by
  refine ret_of_run (N := 30) Try.func51 rfl rfl rfl ?_
  have hn := H.len
  have hn6 := H.n64
  have hn3 := Hv0.len
  have hv6 := Hv0.n64
  have E : Ext w w := Ext.refl w
  refine run_seq ?_
  refine run_region ?_
  refine obox rfl rfl rfl ?_
  intro b1 w1 e1 hb1 hz1 O1
  have E := E.trans e1
  replace O1 : Own w1 b1 [.int .i64 nd, .slice p3 n3 c3] 41 := O1
  refine ov (xassign rfl) rfl rfl rfl ?_
  refine ov (xassign rfl) rfl rfl rfl ?_
  refine ov (xassign rfl) rfl rfl rfl ?_
  refine ov (xassign rfl) rfl rfl rfl ?_
  refine ops_nil ?_
  refine run_seq ?_
  refine run_seq ?_
  refine run_region ?_
  refine ov (xmove rfl) rfl rfl rfl ?_
  refine ov (v := .agg #[.int .i64 nd, .slice p3 n3 c3]) (xloadN Try.isAgg41 Try.sizeOf41 rfl (O1.cells) rfl) rfl rfl rfl ?_
  refine oc (xcall Try.call39 rfl) rfl rfl rfl (IsPoll_ok _ _ _ _ _ _ _ _ _ _ (H.ext E) (by assumption) (Hv0.ext E).sn) ?_
  rintro _ w2 ⟨rfl, e2⟩
  have z2 := e2.size
  have E := E.trans e2
  replace O1 := O1.ext e2
  refine obs (fun c13 => ?_) (fun c13 => ?_)
  ·
    have hff := isPoll_form c13
    have hfl := isForm_len hff
    have hfr := isPoll_row c13
    have hfv := isPoll_len c13
    have hfn := isPoll_need c13
    have hAn := areAns_ans xs nd vs
    have hAl := ansOf_length xs nd vs
    refine ov (xnot rfl) rfl rfl rfl ?_
    refine ops_nil ?_
    refine run_cond_f rfl ?_
    refine run_skip ?_
    refine run_seq ?_
    refine run_seq ?_
    refine run_region ?_
    refine ov (xmove rfl) rfl rfl rfl ?_
    refine ov (xmove rfl) rfl rfl rfl ?_
    refine ov (xlen Try.underlying25 rfl) rfl rfl rfl ?_
    refine oc (xcall Try.call116 rfl) rfl rfl rfl (at_ok (q) ((n : Int)) _) ?_
    rintro _ w_ ⟨rfl, hw_⟩
    replace hw_ := hw_.symm
    subst hw_
    refine obs (fun c18 => ?_) (fun c18 => ?_)
    ·
      have hat18 := c18
      simp only [Bool.and_eq_true, decide_eq_true_eq] at hat18
      refine ov (xnot rfl) rfl rfl rfl ?_
      refine ops_nil ?_
      refine run_cond_f rfl ?_
      refine run_skip ?_
      refine run_seq ?_
      refine run_region ?_
      refine ov (xmove rfl) rfl rfl rfl ?_
      refine ov (xassign rfl) rfl rfl rfl ?_
      refine ops_nil ?_
      refine run_seq ?_
      refine run_draw (by kernel_rfl) (by kernel_rfl) ?_
      refine qv (v := .agg #[.int .i64 nd, .slice p3 n3 c3]) (fun w' x_ => xloadN Try.isAgg41 Try.sizeOf41 rfl ((O1.cells).ext x_) rfl) rfl rfl rfl ?_
      refine qv (fun w' x_ => xmove rfl) rfl rfl rfl ?_
      have t23 := fun (w' : World) (x_ : Ext w2 w') => Ret.q (w := w') (tally_ok nd vs _ _ _ q.toNat q 1 _ ((Hv0.ext E).ext x_).sn (fun v m => by rw [hfr v m]; omega) (by omega))
      refine qc (fun w' => xcall Try.call117 rfl) rfl rfl rfl t23 ?_
      clear t23
      refine qv (v := .agg #[.int .i64 nd, .slice p3 n3 c3]) (fun w' x_ => xloadN Try.isAgg41 Try.sizeOf41 rfl ((O1.cells).ext x_) rfl) rfl rfl rfl ?_
      refine qv (fun w' x_ => xmove rfl) rfl rfl rfl ?_
      have t26 := fun (w' : World) (x_ : Ext w2 w') => Ret.q (w := w') (tally_ok nd vs _ _ _ q.toNat q 0 _ ((Hv0.ext E).ext x_).sn (fun v m => by rw [hfr v m]; omega) (by omega))
      refine qc (fun w' => xcall Try.call117 rfl) rfl rfl rfl t26 ?_
      clear t26
      refine qv (v := .agg #[.int .i64 nd, .slice p3 n3 c3]) (fun w' x_ => xloadN Try.isAgg41 Try.sizeOf41 rfl ((O1.cells).ext x_) rfl) rfl rfl rfl ?_
      refine qv (fun w' x_ => xmove rfl) rfl rfl rfl ?_
      have t29 := fun (w' : World) (x_ : Ext w2 w') => Ret.q (w := w') (tally_ok nd vs _ _ _ q.toNat q (-1) _ ((Hv0.ext E).ext x_).sn (fun v m => by rw [hfr v m]; omega) (by omega))
      refine qc (fun w' => xcall Try.call117 rfl) rfl rfl rfl t29 ?_
      clear t29
      refine qv (fun w' x_ => xassign rfl) rfl rfl rfl ?_
      refine qv (fun w' x_ => xassign rfl) rfl rfl rfl ?_
      refine qv (fun w' x_ => xassign rfl) rfl rfl rfl ?_
      refine qv (fun w' x_ => xassign rfl) rfl rfl rfl ?_
      refine q_nil ?_
      intro w3 e3
      have z3 := e3.size
      have E := E.trans e3
      replace O1 := O1.ext e3
      refine run_ret Try.func51 (res4 rfl rfl rfl rfl rfl) ?_
      exact ⟨_, rfl, by rw [tallyOf, if_neg (by simp [c13]), if_neg (by omega)], E⟩
    ·
      have hat18 := c18
      simp only [Bool.and_eq_false_iff, decide_eq_false_iff_not] at hat18
      refine ov (xnot rfl) rfl rfl rfl ?_
      refine ops_nil ?_
      refine run_cond_t rfl ?_
      refine run_seq ?_
      refine run_region ?_
      refine ov (xassign rfl) rfl rfl rfl ?_
      refine ov (xassign rfl) rfl rfl rfl ?_
      refine ov (xassign rfl) rfl rfl rfl ?_
      refine ov (xassign rfl) rfl rfl rfl ?_
      refine ops_nil ?_
      refine run_ret Try.func51 (res4 rfl rfl rfl rfl rfl) ?_
      exact ⟨_, rfl, by rw [tallyOf, if_neg (by simp [c13]), if_pos (by omega)], E⟩
  ·
    refine ov (xnot rfl) rfl rfl rfl ?_
    refine ops_nil ?_
    refine run_cond_t rfl ?_
    refine run_seq ?_
    refine run_region ?_
    refine ov (xassign rfl) rfl rfl rfl ?_
    refine ov (xassign rfl) rfl rfl rfl ?_
    refine ov (xassign rfl) rfl rfl rfl ?_
    refine ov (xassign rfl) rfl rfl rfl ?_
    refine ops_nil ?_
    refine run_ret Try.func51 (res4 rfl rfl rfl rfl rfl) ?_
    exact ⟨_, rfl, by rw [tallyOf, if_pos c13], E⟩

set_option maxHeartbeats 400000 in
theorem sTallyOf_ok (p : Option Addr) (n c : Nat) (xs : List Question) (nd : Int) (vs : List (List Int)) (p3 : Option Addr) (n3 c3 : Nat) (w : World) (H : Sl Question.cells 3 w p n c xs) (hx : ∀ x ∈ xs, x.Label.size ≤ 9223372036854775807) (Hv0 : SnInt64SS w p3 n3 c3 vs) (q : Int) : Ret Try.prog 50 [.slice p n c, .agg #[.int .i64 nd, .slice p3 n3 c3], .int .i64 q] w (Pv w (.tuple #[.int .i64 (tallyOf xs nd vs q).1, .int .i64 (tallyOf xs nd vs q).2.1, .int .i64 (tallyOf xs nd vs q).2.2.1, .int .i64 (tallyOf xs nd vs q).2.2.2])) := by
  refine ret_of_run (N := 29) Try.func50 rfl rfl rfl ?_
  have hn := H.len
  have hn6 := H.n64
  have hn3 := Hv0.len
  have hv6 := Hv0.n64
  have E : Ext w w := Ext.refl w
  refine run_seq ?_
  refine run_region ?_
  refine obox rfl rfl rfl ?_
  intro b1 w1 e1 hb1 hz1 O1
  have E := E.trans e1
  replace O1 : Own w1 b1 [.int .i64 nd, .slice p3 n3 c3] 41 := O1
  refine ov (xassign rfl) rfl rfl rfl ?_
  refine ov (xassign rfl) rfl rfl rfl ?_
  refine ov (xassign rfl) rfl rfl rfl ?_
  refine ov (xassign rfl) rfl rfl rfl ?_
  refine ops_nil ?_
  refine run_seq ?_
  refine run_region ?_
  refine ov (xmove rfl) rfl rfl rfl ?_
  refine ov (v := .agg #[.int .i64 nd, .slice p3 n3 c3]) (xloadN Try.isAgg41 Try.sizeOf41 rfl (O1.cells) rfl) rfl rfl rfl ?_
  refine ov (xmove rfl) rfl rfl rfl ?_
  refine oc (xcall Try.call114 rfl) rfl rfl rfl (l27Code_ok _ _ _ _ _ _ _ _ _ _ (H.ext E) (by assumption) (Hv0.ext E).sn (0) (q)) ?_
  rintro _ w2 ⟨rfl, e2⟩
  have z2 := e2.size
  have E := E.trans e2
  replace O1 := O1.ext e2
  refine ov (xassign rfl) rfl rfl rfl ?_
  refine ops_nil ?_
  refine run_seq ?_
  refine run_seq ?_
  refine run_region ?_
  refine ov (xmove rfl) rfl rfl rfl ?_
  refine ov (xneq rfl rfl _ rfl) rfl rfl rfl ?_
  refine ods (fun c17 => ?_) (fun c17 => ?_)
  ·
    refine ops_nil ?_
    refine run_cond_t rfl ?_
    refine run_seq ?_
    refine run_region ?_
    refine ov (xmove rfl) rfl rfl rfl ?_
    refine ov (xassign rfl) rfl rfl rfl ?_
    refine ov (xassign rfl) rfl rfl rfl ?_
    refine ov (xassign rfl) rfl rfl rfl ?_
    refine ov (xassign rfl) rfl rfl rfl ?_
    refine ops_nil ?_
    refine run_ret Try.func50 (res4 rfl rfl rfl rfl rfl) ?_
    exact ⟨_, rfl, tally_bad (by omega) hn, E⟩
  ·
    obtain ⟨c13, hj1, hj2, hq1, hq2⟩ := pollCode_zero (by omega : pollCode xs nd vs 0 q = 0)
    have hff := isPoll_form c13
    have hfl := isForm_len hff
    have hfr := isPoll_row c13
    have hfv := isPoll_len c13
    have hfn := isPoll_need c13
    have hAn := areAns_ans xs nd vs
    have hAl := ansOf_length xs nd vs
    refine ops_nil ?_
    refine run_cond_f rfl ?_
    refine run_skip ?_
    refine run_seq ?_
    refine run_region ?_
    refine ov (xmove rfl) rfl rfl rfl ?_
    refine ov (xassign rfl) rfl rfl rfl ?_
    refine ops_nil ?_
    refine run_seq ?_
    refine run_draw (by kernel_rfl) (by kernel_rfl) ?_
    refine qv (v := .agg #[.int .i64 nd, .slice p3 n3 c3]) (fun w' x_ => xloadN Try.isAgg41 Try.sizeOf41 rfl ((O1.cells).ext x_) rfl) rfl rfl rfl ?_
    refine qv (fun w' x_ => xmove rfl) rfl rfl rfl ?_
    have t22 := fun (w' : World) (x_ : Ext w2 w') => Ret.q (w := w') (l27Count_ok nd vs _ _ _ q.toNat q 1 _ ((Hv0.ext E).ext x_).sn (fun v m => by rw [hfr v m]; omega) (by omega))
    refine qc (fun w' => xcall Try.call115 rfl) rfl rfl rfl t22 ?_
    clear t22
    refine qv (v := .agg #[.int .i64 nd, .slice p3 n3 c3]) (fun w' x_ => xloadN Try.isAgg41 Try.sizeOf41 rfl ((O1.cells).ext x_) rfl) rfl rfl rfl ?_
    refine qv (fun w' x_ => xmove rfl) rfl rfl rfl ?_
    have t25 := fun (w' : World) (x_ : Ext w2 w') => Ret.q (w := w') (l27Count_ok nd vs _ _ _ q.toNat q 0 _ ((Hv0.ext E).ext x_).sn (fun v m => by rw [hfr v m]; omega) (by omega))
    refine qc (fun w' => xcall Try.call115 rfl) rfl rfl rfl t25 ?_
    clear t25
    refine qv (v := .agg #[.int .i64 nd, .slice p3 n3 c3]) (fun w' x_ => xloadN Try.isAgg41 Try.sizeOf41 rfl ((O1.cells).ext x_) rfl) rfl rfl rfl ?_
    refine qv (fun w' x_ => xmove rfl) rfl rfl rfl ?_
    have t28 := fun (w' : World) (x_ : Ext w2 w') => Ret.q (w := w') (l27Count_ok nd vs _ _ _ q.toNat q (-1) _ ((Hv0.ext E).ext x_).sn (fun v m => by rw [hfr v m]; omega) (by omega))
    refine qc (fun w' => xcall Try.call115 rfl) rfl rfl rfl t28 ?_
    clear t28
    refine qv (fun w' x_ => xassign rfl) rfl rfl rfl ?_
    refine qv (fun w' x_ => xassign rfl) rfl rfl rfl ?_
    refine qv (fun w' x_ => xassign rfl) rfl rfl rfl ?_
    refine qv (fun w' x_ => xassign rfl) rfl rfl rfl ?_
    refine q_nil ?_
    intro w3 e3
    have z3 := e3.size
    have E := E.trans e3
    replace O1 := O1.ext e3
    refine run_ret Try.func50 (res4 rfl rfl rfl rfl rfl) ?_
    exact ⟨_, rfl, by rw [tallyOf, if_neg (by simp [c13]), if_neg (by omega)], E⟩

set_option maxHeartbeats 400000 in
theorem JurorVerdict_ok (p : Option Addr) (n c : Nat) (xs : List Question) (nd : Int) (vs : List (List Int)) (p3 : Option Addr) (n3 c3 : Nat) (w : World) (H : Sl Question.cells 3 w p n c xs) (hx : ∀ x ∈ xs, x.Label.size ≤ 9223372036854775807) (Hv0 : SnInt64SS w p3 n3 c3 vs) (j : Int) : Ret Try.prog 55 [.slice p n c, .agg #[.int .i64 nd, .slice p3 n3 c3], .int .i64 j] w (Pv w (.tuple #[.int .i64 (jurorVerdict xs nd vs j).1, .int .i64 (jurorVerdict xs nd vs j).2])) := by
  refine ret_of_run (N := 27) Try.func55 rfl rfl rfl ?_
  have hn := H.len
  have hn6 := H.n64
  obtain ⟨hd, Hv⟩ := Hv0
  have hn3 := Hv.len
  have hv6 := Hv.n64
  have E : Ext w w := Ext.refl w
  refine run_seq ?_
  refine run_region ?_
  refine obox rfl rfl rfl ?_
  intro b1 w1 e1 hb1 hz1 O1
  have E := E.trans e1
  replace O1 : Own w1 b1 [.int .i64 nd, .slice p3 n3 c3] 41 := O1
  refine ov (xassign rfl) rfl rfl rfl ?_
  refine ov (xassign rfl) rfl rfl rfl ?_
  refine ops_nil ?_
  refine run_seq ?_
  refine run_seq ?_
  refine run_region ?_
  refine ov (xmove rfl) rfl rfl rfl ?_
  refine ov (v := .agg #[.int .i64 nd, .slice p3 n3 c3]) (xloadN Try.isAgg41 Try.sizeOf41 rfl (O1.cells) rfl) rfl rfl rfl ?_
  refine oc (xcall Try.call39 rfl) rfl rfl rfl (IsPoll_ok _ _ _ _ _ _ _ _ _ _ (H.ext E) (by assumption) (Hv.ext E).sn) ?_
  rintro _ w2 ⟨rfl, e2⟩
  have z2 := e2.size
  have E := E.trans e2
  replace O1 := O1.ext e2
  refine obs (fun c10 => ?_) (fun c10 => ?_)
  ·
    have hff := isPoll_form c10
    have hfl := isForm_len hff
    have hfr := isPoll_row c10
    have hfv := isPoll_len c10
    have hfn := isPoll_need c10
    have hAn := areAns_ans xs nd vs
    have hAl := ansOf_length xs nd vs
    refine ov (xnot rfl) rfl rfl rfl ?_
    refine ops_nil ?_
    refine run_cond_f rfl ?_
    refine run_skip ?_
    refine run_seq ?_
    refine run_seq ?_
    refine run_region ?_
    refine ov (xmove rfl) rfl rfl rfl ?_
    refine ov (xfieldAddr fo41f1 rfl) rfl rfl rfl ?_
    refine ov (v := .slice p3 n3 c3) (xload1 Try.isAgg36 rfl (O1.cells) rfl) rfl rfl rfl ?_
    refine ov (xlen Try.underlying36 rfl) rfl rfl rfl ?_
    refine oc (xcall Try.call116 rfl) rfl rfl rfl (at_ok (j) ((n3 : Int)) _) ?_
    rintro _ w_ ⟨rfl, hw_⟩
    replace hw_ := hw_.symm
    subst hw_
    refine obs (fun c16 => ?_) (fun c16 => ?_)
    ·
      have hat16 := c16
      simp only [Bool.and_eq_true, decide_eq_true_eq] at hat16
      refine ov (xnot rfl) rfl rfl rfl ?_
      refine ops_nil ?_
      refine run_cond_f rfl ?_
      refine run_skip ?_
      refine run_seq ?_
      refine run_region ?_
      refine ov (xmove rfl) rfl rfl rfl ?_
      refine ov (xfieldAddr fo41f1 rfl) rfl rfl rfl ?_
      refine ov (v := .slice p3 n3 c3) (xload1 Try.isAgg36 rfl (O1.cells) rfl) rfl rfl rfl ?_
      refine ov (xmove rfl) rfl rfl rfl ?_
      have h22 := (Hv.ext E).at (i := j.toNat) (by omega)
      refine ov (xindexN (i := j.toNat) Try.underlying36 Try.sizeOf31 rfl rfl (by omega) ((Hv.ext E).p (i := j.toNat) (by omega)) (by have := (Hv.ext E).len; omega)) rfl rfl rfl ?_
      refine ov (v := .slice (hd j.toNat).p (hd j.toNat).n (hd j.toNat).c) (xloadz Try.isAgg31 rfl (h22) rfl) rfl rfl rfl ?_
      refine oc (xcall Try.call34 rfl) rfl rfl rfl (VerdictOf_ok _ _ _ _ _ _ _ vs[j.toNat] _ (H.ext E) (by assumption) ((show Sl i64c 1 _ _ _ _ vs[j.toNat] from (Hv.inner (i := j.toNat) (by omega)).ext E))) ?_
      rintro _ w3 ⟨rfl, e3⟩
      have z3 := e3.size
      have E := E.trans e3
      replace O1 := O1.ext e3
      refine ov (xextract rfl rfl) rfl rfl rfl ?_
      refine ov (xextract rfl rfl) rfl rfl rfl ?_
      refine ov (xassign rfl) rfl rfl rfl ?_
      refine ov (xassign rfl) rfl rfl rfl ?_
      refine ops_nil ?_
      refine run_ret Try.func55 (res2 rfl rfl rfl) ?_
      exact ⟨_, rfl, by rw [jurorVerdict, if_neg (by simp [c10]), if_neg (by omega), getV_eq (by omega)], E⟩
    ·
      have hat16 := c16
      simp only [Bool.and_eq_false_iff, decide_eq_false_iff_not] at hat16
      refine ov (xnot rfl) rfl rfl rfl ?_
      refine ops_nil ?_
      refine run_cond_t rfl ?_
      refine run_seq ?_
      refine run_region ?_
      refine ov (xassign rfl) rfl rfl rfl ?_
      refine ov (xassign rfl) rfl rfl rfl ?_
      refine ops_nil ?_
      refine run_ret Try.func55 (res2 rfl rfl rfl) ?_
      exact ⟨_, rfl, by rw [jurorVerdict, if_neg (by simp [c10]), if_pos (by omega)], E⟩
  ·
    refine ov (xnot rfl) rfl rfl rfl ?_
    refine ops_nil ?_
    refine run_cond_t rfl ?_
    refine run_seq ?_
    refine run_region ?_
    refine ov (xassign rfl) rfl rfl rfl ?_
    refine ov (xassign rfl) rfl rfl rfl ?_
    refine ops_nil ?_
    refine run_ret Try.func55 (res2 rfl rfl rfl) ?_
    exact ⟨_, rfl, by rw [jurorVerdict, if_pos c10], E⟩

set_option maxHeartbeats 400000 in
theorem sJurorVerdict_ok (p : Option Addr) (n c : Nat) (xs : List Question) (nd : Int) (vs : List (List Int)) (p3 : Option Addr) (n3 c3 : Nat) (w : World) (H : Sl Question.cells 3 w p n c xs) (hx : ∀ x ∈ xs, x.Label.size ≤ 9223372036854775807) (Hv0 : SnInt64SS w p3 n3 c3 vs) (j : Int) : Ret Try.prog 54 [.slice p n c, .agg #[.int .i64 nd, .slice p3 n3 c3], .int .i64 j] w (Pv w (.tuple #[.int .i64 (jurorVerdict xs nd vs j).1, .int .i64 (jurorVerdict xs nd vs j).2])) := by
  refine ret_of_run (N := 25) Try.func54 rfl rfl rfl ?_
  have hn := H.len
  have hn6 := H.n64
  obtain ⟨hd, Hv⟩ := Hv0
  have hn3 := Hv.len
  have hv6 := Hv.n64
  have E : Ext w w := Ext.refl w
  refine run_seq ?_
  refine run_region ?_
  refine obox rfl rfl rfl ?_
  intro b1 w1 e1 hb1 hz1 O1
  have E := E.trans e1
  replace O1 : Own w1 b1 [.int .i64 nd, .slice p3 n3 c3] 41 := O1
  refine ov (xassign rfl) rfl rfl rfl ?_
  refine ov (xassign rfl) rfl rfl rfl ?_
  refine ops_nil ?_
  refine run_seq ?_
  refine run_region ?_
  refine ov (xmove rfl) rfl rfl rfl ?_
  refine ov (v := .agg #[.int .i64 nd, .slice p3 n3 c3]) (xloadN Try.isAgg41 Try.sizeOf41 rfl (O1.cells) rfl) rfl rfl rfl ?_
  refine ov (xmove rfl) rfl rfl rfl ?_
  refine oc (xcall Try.call114 rfl) rfl rfl rfl (l27Code_ok _ _ _ _ _ _ _ _ _ _ (H.ext E) (by assumption) (Hv.ext E).sn (j) (0)) ?_
  rintro _ w2 ⟨rfl, e2⟩
  have z2 := e2.size
  have E := E.trans e2
  replace O1 := O1.ext e2
  refine ov (xassign rfl) rfl rfl rfl ?_
  refine ops_nil ?_
  refine run_seq ?_
  refine run_seq ?_
  refine run_region ?_
  refine ov (xmove rfl) rfl rfl rfl ?_
  refine ov (xneq rfl rfl _ rfl) rfl rfl rfl ?_
  refine ods (fun c14 => ?_) (fun c14 => ?_)
  ·
    refine ops_nil ?_
    refine run_cond_t rfl ?_
    refine run_seq ?_
    refine run_region ?_
    refine ov (xmove rfl) rfl rfl rfl ?_
    refine ov (xassign rfl) rfl rfl rfl ?_
    refine ov (xassign rfl) rfl rfl rfl ?_
    refine ops_nil ?_
    refine run_ret Try.func54 (res2 rfl rfl rfl) ?_
    exact ⟨_, rfl, juror_bad (by omega), E⟩
  ·
    obtain ⟨c10, hj1, hj2, hq1, hq2⟩ := pollCode_zero (by omega : pollCode xs nd vs j 0 = 0)
    have hff := isPoll_form c10
    have hfl := isForm_len hff
    have hfr := isPoll_row c10
    have hfv := isPoll_len c10
    have hfn := isPoll_need c10
    have hAn := areAns_ans xs nd vs
    have hAl := ansOf_length xs nd vs
    refine ops_nil ?_
    refine run_cond_f rfl ?_
    refine run_skip ?_
    refine run_seq ?_
    refine run_region ?_
    refine ov (xmove rfl) rfl rfl rfl ?_
    refine ov (xfieldAddr fo41f1 rfl) rfl rfl rfl ?_
    refine ov (v := .slice p3 n3 c3) (xload1 Try.isAgg36 rfl (O1.cells) rfl) rfl rfl rfl ?_
    refine ov (xmove rfl) rfl rfl rfl ?_
    have h20 := (Hv.ext E).at (i := j.toNat) (by omega)
    refine ov (xindexN (i := j.toNat) Try.underlying36 Try.sizeOf31 rfl rfl (by omega) ((Hv.ext E).p (i := j.toNat) (by omega)) (by have := (Hv.ext E).len; omega)) rfl rfl rfl ?_
    refine ov (v := .slice (hd j.toNat).p (hd j.toNat).n (hd j.toNat).c) (xloadz Try.isAgg31 rfl (h20) rfl) rfl rfl rfl ?_
    refine oc (xcall Try.call32 rfl) rfl rfl rfl (sVerdictOf_ok _ _ _ _ _ _ _ vs[j.toNat] _ (H.ext E) (by assumption) ((show Sl i64c 1 _ _ _ _ vs[j.toNat] from (Hv.inner (i := j.toNat) (by omega)).ext E))) ?_
    rintro _ w3 ⟨rfl, e3⟩
    have z3 := e3.size
    have E := E.trans e3
    replace O1 := O1.ext e3
    refine ov (xextract rfl rfl) rfl rfl rfl ?_
    refine ov (xextract rfl rfl) rfl rfl rfl ?_
    refine ov (xassign rfl) rfl rfl rfl ?_
    refine ov (xassign rfl) rfl rfl rfl ?_
    refine ops_nil ?_
    refine run_ret Try.func54 (res2 rfl rfl rfl) ?_
    exact ⟨_, rfl, by rw [jurorVerdict, if_neg (by simp [c10]), if_neg (by omega), getV_eq (by omega)], E⟩

set_option maxHeartbeats 1000000 in
theorem GreatestNeed_ok (p : Option Addr) (n c : Nat) (xs : List Question) (nd : Int) (vs : List (List Int)) (p3 : Option Addr) (n3 c3 : Nat) (w : World) (H : Sl Question.cells 3 w p n c xs) (hx : ∀ x ∈ xs, x.Label.size ≤ 9223372036854775807) (Hv0 : SnInt64SS w p3 n3 c3 vs) : Ret Try.prog 59 [.slice p n c, .agg #[.int .i64 nd, .slice p3 n3 c3]] w (Pv w (.tuple #[.int .i64 (greatestNeed xs nd vs).1, .int .i64 (greatestNeed xs nd vs).2])) := by
  refine ret_of_run (N := 35) Try.func59 rfl rfl rfl ?_
  have hn := H.len
  have hn6 := H.n64
  have hn3 := Hv0.len
  have hv6 := Hv0.n64
  have E : Ext w w := Ext.refl w
  refine run_seq ?_
  refine run_region ?_
  refine obox rfl rfl rfl ?_
  intro b1 w1 e1 hb1 hz1 O1
  have E := E.trans e1
  replace O1 : Own w1 b1 [.int .i64 nd, .slice p3 n3 c3] 41 := O1
  refine ov (xassign rfl) rfl rfl rfl ?_
  refine ov (xassign rfl) rfl rfl rfl ?_
  refine ops_nil ?_
  refine run_seq ?_
  refine run_seq ?_
  refine run_region ?_
  refine ov (xmove rfl) rfl rfl rfl ?_
  refine ov (v := .agg #[.int .i64 nd, .slice p3 n3 c3]) (xloadN Try.isAgg41 Try.sizeOf41 rfl (O1.cells) rfl) rfl rfl rfl ?_
  refine oc (xcall Try.call39 rfl) rfl rfl rfl (IsPoll_ok _ _ _ _ _ _ _ _ _ _ (H.ext E) (by assumption) (Hv0.ext E).sn) ?_
  rintro _ w2 ⟨rfl, e2⟩
  have z2 := e2.size
  have E := E.trans e2
  replace O1 := O1.ext e2
  refine obs (fun c10 => ?_) (fun c10 => ?_)
  ·
    have hff := isPoll_form c10
    have hfl := isForm_len hff
    have hfr := isPoll_row c10
    have hfv := isPoll_len c10
    have hfn := isPoll_need c10
    have hAn := areAns_ans xs nd vs
    have hAl := ansOf_length xs nd vs
    refine ov (xnot rfl) rfl rfl rfl ?_
    refine ops_nil ?_
    refine run_cond_f rfl ?_
    refine run_skip ?_
    refine run_seq ?_
    refine run_seq ?_
    refine run_region ?_
    refine ov (xfieldAddr fo41f1 rfl) rfl rfl rfl ?_
    refine ov (v := .slice p3 n3 c3) (xload1 Try.isAgg36 rfl (O1.cells) rfl) rfl rfl rfl ?_
    refine ov (xlen Try.underlying36 rfl) rfl rfl rfl ?_
    refine ov (xfieldAddr fo41f0 rfl) rfl rfl rfl ?_
    refine ostore1 Try.sizeOf2 rfl rfl O1 (by simp) rfl rfl ?_
    intro w3 on3 O3
    have hz3 := on3.size
    have E := on3.ext E (by omega)
    replace O3 : Own w3 b1 [.int .i64 (n3 : Int), .slice p3 n3 c3] 41 := O3
    refine ops_nil ?_
    refine run_block ?_
    refine run_loop (ι := Int × World) (fun x_ => match x_ with | (need, wr) => (Ext w wr) ∧ (Own wr b1 ([.int .i64 need, .slice p3 n3 c3]) 41) ∧ (w3.heap.size ≤ wr.heap.size) ∧ (0 ≤ need) ∧ (need ≤ (n3 : Int)) ∧ (gnGo xs vs vs.length = gnGo xs vs need.toNat)) (fun x_ => match x_ with | (need, wr) => [(0, .slice p n c), (3, .pointer (some ⟨b1, 0, none⟩))]) (fun x_ => match x_ with | (need, wr) => wr) (fun x_ => match x_ with | (need, wr) => need.toNat) ?_ ((n3 : Int), w3) (⟨E, O3, Nat.le_refl _, by omega, by omega, by rw [← hn3]; rfl⟩) ⟨rfl, rfl, trivial⟩ rfl
    intro i_ hI_ hback4
    obtain ⟨need, wr⟩ := i_
    obtain ⟨E, O_b1, lz_wr, hnd0, hnd1, hgn⟩ := hI_
    try dsimp only
    have zr := E.size
    have lt_b1 := O_b1.lt
    refine run_seq ?_
    refine run_seq ?_
    refine run_region ?_
    refine ov (xmove rfl) rfl rfl rfl ?_
    refine ov (v := .agg #[.int .i64 need, .slice p3 n3 c3]) (xloadN Try.isAgg41 Try.sizeOf41 rfl (O_b1.cells) rfl) rfl rfl rfl ?_
    refine oc (xcall Try.call39 rfl) rfl rfl rfl (IsPoll_ok _ _ _ _ _ _ _ _ _ _ (H.ext E) (by assumption) (Hv0.ext E).sn) ?_
    rintro _ w4 ⟨rfl, e4⟩
    have z4 := e4.size
    have E := E.trans e4
    replace O_b1 := O_b1.ext e4
    refine obs (fun c18 => ?_) (fun c18 => ?_)
    ·
      have hnn := isPoll_need c18
      have hfr2 := isPoll_row c18
      have hAn2 := areAns_ans xs need vs
      refine ops_nil ?_
      refine run_cond_t rfl ?_
      refine run_skip ?_
      refine run_seq ?_
      refine run_block ?_
      refine run_seq ?_
      refine run_region ?_
      refine ov (xmove rfl) rfl rfl rfl ?_
      refine ov (v := .agg #[.int .i64 need, .slice p3 n3 c3]) (xloadN Try.isAgg41 Try.sizeOf41 rfl (O_b1.cells) rfl) rfl rfl rfl ?_
      refine ov (xmove rfl) rfl rfl rfl ?_
      refine oc (xcall Try.call119 rfl) rfl rfl rfl (answers_ok _ _ _ _ _ _ _ _ _ _ (H.ext E) (Hv0.ext E).sn (by assumption) (by omega)) ?_
      rintro _ w5 ⟨e5, q27, m27, d27, rfl, G27⟩
      have z5 := e5.size
      have E := E.trans e5
      replace O_b1 := O_b1.ext e5
      refine oc (xcall Try.call101 rfl) rfl rfl rfl (wayOf_ok _ _ _ _ _ _ _ _ _ (H.ext E) (by assumption) (G27.sl) (by assumption) (by assumption)) ?_
      rintro _ w6 ⟨e6, q28, m28, d28, rfl, G28⟩
      have z6 := e6.size
      have E := E.trans e6
      replace G27 := G27.ext e6
      replace O_b1 := O_b1.ext e6
      refine ov (xmove rfl) rfl rfl rfl ?_
      refine ov (xextract rfl rfl) rfl rfl rfl ?_
      refine ov (xextract rfl rfl) rfl rfl rfl ?_
      refine ov (xassign rfl) rfl rfl rfl ?_
      refine ov (xassign rfl) rfl rfl rfl ?_
      refine ops_nil ?_
      refine run_seq ?_
      refine run_region ?_
      refine ov (xmove rfl) rfl rfl rfl ?_
      refine ov (xneq rfl rfl _ rfl) rfl rfl rfl ?_
      refine ods (fun c32 => ?_) (fun c32 => ?_)
      ·
        refine ops_nil ?_
        refine run_cond_t rfl ?_
        refine run_seq ?_
        refine run_region ?_
        refine ov (xfieldAddr fo41f0 rfl) rfl rfl rfl ?_
        refine ov (v := .int .i64 need) (xload1 Try.isAgg2 rfl (O_b1.cells) rfl) rfl rfl rfl ?_
        refine ov (xassign rfl) rfl rfl rfl ?_
        refine ov (xassign rfl) rfl rfl rfl ?_
        refine ops_nil ?_
        refine run_ret Try.func59 (res2 rfl rfl rfl) ?_
        exact ⟨_, rfl, by rw [greatestNeed, if_neg (by simp [c10]), hgn, gnGo_hit (by omega) (by omega) (by omega)], E⟩
      ·
        refine ops_nil ?_
        refine run_cond_f rfl ?_
        refine run_skip ?_
        refine run_inBlock ?_
        refine run_region ?_
        refine ov (xfieldAddr fo41f0 rfl) rfl rfl rfl ?_
        refine ov (v := .int .i64 need) (xload1 Try.isAgg2 rfl (O_b1.cells) rfl) rfl rfl rfl ?_
        refine ov (xsub rfl rfl (by unfold I64; omega)) rfl rfl rfl ?_
        refine ov (xfieldAddr fo41f0 rfl) rfl rfl rfl ?_
        refine ostore1 Try.sizeOf2 rfl rfl O_b1 (by simp) rfl rfl ?_
        intro w7 on7 O7
        have hz7 := on7.size
        have E := on7.ext E (by omega)
        replace G27 := G27.only on7 (by omega)
        replace G28 := G28.only on7 (by omega)
        replace O7 : Own w7 b1 [.int .i64 (need - 1), .slice p3 n3 c3] 41 := O7
        refine ops_nil ?_
        refine run_sub ?_ (hback4 (need - 1, w7) (⟨E, O7, by omega, by omega, by omega, by rw [hgn]; exact gnGo_next (by omega) (by omega) (by omega)⟩) (by first | omega | (dsimp only; omega)))
        exact ⟨rfl, rfl, trivial⟩
    ·
      have hst : ¬ ((vs.length : Int) / 2 + 1 ≤ need ∧ need ≤ vs.length) := fun h => by rw [isPoll_any c10, inR_iff.2 h] at c18; cases c18
      refine ops_nil ?_
      refine run_cond_f rfl ?_
      refine run_exit rfl ?_
      refine run_seq ?_
      refine run_region ?_
      refine ov (xassign rfl) rfl rfl rfl ?_
      refine ov (xassign rfl) rfl rfl rfl ?_
      refine ops_nil ?_
      refine run_ret Try.func59 (res2 rfl rfl rfl) ?_
      exact ⟨_, rfl, by rw [greatestNeed, if_neg (by simp [c10]), hgn, gnGo_stop (by omega)], E⟩
  ·
    refine ov (xnot rfl) rfl rfl rfl ?_
    refine ops_nil ?_
    refine run_cond_t rfl ?_
    refine run_seq ?_
    refine run_region ?_
    refine ov (xassign rfl) rfl rfl rfl ?_
    refine ov (xassign rfl) rfl rfl rfl ?_
    refine ops_nil ?_
    refine run_ret Try.func59 (res2 rfl rfl rfl) ?_
    exact ⟨_, rfl, by rw [greatestNeed, if_pos c10], E⟩

set_option maxHeartbeats 1000000 in
theorem sGreatestNeed_ok (p : Option Addr) (n c : Nat) (xs : List Question) (nd : Int) (vs : List (List Int)) (p3 : Option Addr) (n3 c3 : Nat) (w : World) (H : Sl Question.cells 3 w p n c xs) (hx : ∀ x ∈ xs, x.Label.size ≤ 9223372036854775807) (Hv0 : SnInt64SS w p3 n3 c3 vs) : Ret Try.prog 58 [.slice p n c, .agg #[.int .i64 nd, .slice p3 n3 c3]] w (Pv w (.tuple #[.int .i64 (greatestNeed xs nd vs).1, .int .i64 (greatestNeed xs nd vs).2])) := by
  refine ret_of_run (N := 36) Try.func58 rfl rfl rfl ?_
  have hn := H.len
  have hn6 := H.n64
  have hn3 := Hv0.len
  have hv6 := Hv0.n64
  have E : Ext w w := Ext.refl w
  refine run_seq ?_
  refine run_region ?_
  refine obox rfl rfl rfl ?_
  intro b1 w1 e1 hb1 hz1 O1
  have E := E.trans e1
  replace O1 : Own w1 b1 [.int .i64 nd, .slice p3 n3 c3] 41 := O1
  refine ov (xassign rfl) rfl rfl rfl ?_
  refine ov (xassign rfl) rfl rfl rfl ?_
  refine ops_nil ?_
  refine run_seq ?_
  refine run_seq ?_
  refine run_region ?_
  refine ov (xmove rfl) rfl rfl rfl ?_
  refine ov (v := .agg #[.int .i64 nd, .slice p3 n3 c3]) (xloadN Try.isAgg41 Try.sizeOf41 rfl (O1.cells) rfl) rfl rfl rfl ?_
  refine oc (xcall Try.call37 rfl) rfl rfl rfl (sIsPoll_ok _ _ _ _ _ _ _ _ _ _ (H.ext E) (by assumption) (Hv0.ext E).sn) ?_
  rintro _ w2 ⟨rfl, e2⟩
  have z2 := e2.size
  have E := E.trans e2
  replace O1 := O1.ext e2
  refine obs (fun c12 => ?_) (fun c12 => ?_)
  ·
    have hff := isPoll_form c12
    have hfl := isForm_len hff
    have hfr := isPoll_row c12
    have hfv := isPoll_len c12
    have hfn := isPoll_need c12
    have hAn := areAns_ans xs nd vs
    have hAl := ansOf_length xs nd vs
    refine ov (xnot rfl) rfl rfl rfl ?_
    refine ops_nil ?_
    refine run_cond_f rfl ?_
    refine run_skip ?_
    refine run_seq ?_
    refine run_region ?_
    refine ov (xfieldAddr fo41f1 rfl) rfl rfl rfl ?_
    refine ov (v := .slice p3 n3 c3) (xload1 Try.isAgg36 rfl (O1.cells) rfl) rfl rfl rfl ?_
    refine ov (xlen Try.underlying36 rfl) rfl rfl rfl ?_
    refine ov (xassign rfl) rfl rfl rfl ?_
    refine ops_nil ?_
    refine run_seq ?_
    refine run_seq ?_
    refine run_region ?_
    refine ov (xmove rfl) rfl rfl rfl ?_
    refine ov (xassign rfl) rfl rfl rfl ?_
    refine ops_nil ?_
    refine run_block ?_
    refine run_loop (ι := Int × World) (fun x_ => match x_ with | (need, wr) => (Ext w wr) ∧ (Own wr b1 ([.int .i64 nd, .slice p3 n3 c3]) 41) ∧ (w2.heap.size ≤ wr.heap.size) ∧ (0 ≤ need) ∧ (need ≤ (n3 : Int)) ∧ (gnGo xs vs vs.length = gnGo xs vs need.toNat)) (fun x_ => match x_ with | (need, wr) => [(0, .slice p n c), (3, .pointer (some ⟨b1, 0, none⟩)), (6, .int .i64 (n3 : Int)), (7, .int .i64 need)]) (fun x_ => match x_ with | (need, wr) => wr) (fun x_ => match x_ with | (need, wr) => need.toNat) ?_ ((n3 : Int), w2) (⟨E, O1, Nat.le_refl _, by omega, by omega, by rw [← hn3]; rfl⟩) ⟨rfl, rfl, rfl, rfl, trivial⟩ rfl
    intro i_ hI_ hback5
    obtain ⟨need, wr⟩ := i_
    obtain ⟨E, O_b1, lz_wr, hnd0, hnd1, hgn⟩ := hI_
    try dsimp only
    have zr := E.size
    have lt_b1 := O_b1.lt
    refine run_seq ?_
    refine run_seq ?_
    refine run_region ?_
    refine ov (xmove rfl) rfl rfl rfl ?_
    refine ov (xmove rfl) rfl rfl rfl ?_
    refine ov (v := .int .i64 ((n3 : Int) / 2)) (xquo rfl rfl (by omega) (by omega) (by unfold I64; omega)) rfl rfl rfl ?_
    refine ov (xgtr rfl rfl _ rfl) rfl rfl rfl ?_
    refine ods (fun c21 => ?_) (fun c21 => ?_)
    ·
      have hAn2 := areAns_ans xs need vs
      have hwle := wayG_le xs (ansOf xs need vs) xs.length 0
      have hwl2 : (wayF xs (ansOf xs need vs)).2 ≤ 0 := hwle
      refine ops_nil ?_
      refine run_cond_t rfl ?_
      refine run_skip ?_
      refine run_seq ?_
      refine run_block ?_
      refine run_seq ?_
      refine run_region ?_
      refine ov (xmove rfl) rfl rfl rfl ?_
      refine ov (xmove rfl) rfl rfl rfl ?_
      refine ov (v := .agg #[.int .i64 nd, .slice p3 n3 c3]) (xloadN Try.isAgg41 Try.sizeOf41 rfl (O_b1.cells) rfl) rfl rfl rfl ?_
      refine ov (xmove rfl) rfl rfl rfl ?_
      refine oc (xcall Try.call118 rfl) rfl rfl rfl (l27Answers_ok _ _ _ _ _ _ _ _ _ (need) _ (H.ext E) (Hv0.ext E).sn (by assumption) (by omega)) ?_
      rintro _ w3 ⟨e3, q29, m29, d29, rfl, G29⟩
      have z3 := e3.size
      have E := E.trans e3
      replace O_b1 := O_b1.ext e3
      refine oc (xcall Try.call99 rfl) rfl rfl rfl (l26Way_ok _ _ _ _ _ _ _ _ _ (H.ext E) (by assumption) (G29.sl) (by assumption) (by assumption)) ?_
      rintro _ w4 ⟨e4, q30, m30, d30, rfl, G30⟩
      have z4 := e4.size
      have E := E.trans e4
      replace G29 := G29.ext e4
      replace O_b1 := O_b1.ext e4
      refine ov (xmove rfl) rfl rfl rfl ?_
      refine ov (xextract rfl rfl) rfl rfl rfl ?_
      refine ov (xextract rfl rfl) rfl rfl rfl ?_
      refine ov (xassign rfl) rfl rfl rfl ?_
      refine ov (xassign rfl) rfl rfl rfl ?_
      refine ops_nil ?_
      refine run_seq ?_
      refine run_region ?_
      refine ov (xmove rfl) rfl rfl rfl ?_
      refine ov (xlss rfl rfl _ rfl) rfl rfl rfl ?_
      refine ods (fun c34 => ?_) (fun c34 => ?_)
      ·
        refine ops_nil ?_
        refine run_cond_t rfl ?_
        refine run_seq ?_
        refine run_region ?_
        refine ov (xmove rfl) rfl rfl rfl ?_
        refine ov (xassign rfl) rfl rfl rfl ?_
        refine ov (xassign rfl) rfl rfl rfl ?_
        refine ops_nil ?_
        refine run_ret Try.func58 (res2 rfl rfl rfl) ?_
        exact ⟨_, rfl, by rw [greatestNeed, if_neg (by simp [c12]), hgn, gnGo_hit (by omega) (by omega) (by omega)], E⟩
      ·
        refine ops_nil ?_
        refine run_cond_f rfl ?_
        refine run_skip ?_
        refine run_inBlock ?_
        refine run_region ?_
        refine ov (xmove rfl) rfl rfl rfl ?_
        refine ov (xsub rfl rfl (by unfold I64; omega)) rfl rfl rfl ?_
        refine ov (xassign rfl) rfl rfl rfl ?_
        refine ops_nil ?_
        refine run_sub ?_ (hback5 (need - 1, w4) (⟨E, O_b1, by omega, by omega, by omega, by rw [hgn]; exact gnGo_next (by omega) (by omega) (by omega)⟩) (by first | omega | (dsimp only; omega)))
        exact ⟨rfl, rfl, rfl, rfl, trivial⟩
    ·
      refine ops_nil ?_
      refine run_cond_f rfl ?_
      refine run_exit rfl ?_
      refine run_seq ?_
      refine run_region ?_
      refine ov (xassign rfl) rfl rfl rfl ?_
      refine ov (xassign rfl) rfl rfl rfl ?_
      refine ops_nil ?_
      refine run_ret Try.func58 (res2 rfl rfl rfl) ?_
      exact ⟨_, rfl, by rw [greatestNeed, if_neg (by simp [c12]), hgn, gnGo_stop (by omega)], E⟩
  ·
    refine ov (xnot rfl) rfl rfl rfl ?_
    refine ops_nil ?_
    refine run_cond_t rfl ?_
    refine run_seq ?_
    refine run_region ?_
    refine ov (xassign rfl) rfl rfl rfl ?_
    refine ov (xassign rfl) rfl rfl rfl ?_
    refine ops_nil ?_
    refine run_ret Try.func58 (res2 rfl rfl rfl) ?_
    exact ⟨_, rfl, by rw [greatestNeed, if_pos c12], E⟩
end Go.Proofs.Ytinpkihmkfiidaa
