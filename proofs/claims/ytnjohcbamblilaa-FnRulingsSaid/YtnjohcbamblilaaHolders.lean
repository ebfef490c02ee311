/-
  Holders and changed seals. No condition beyond those written in each theorem.
-/
import Derived.Test.YtnjohcbamblilaaHeld
namespace Go.Proofs.Ytnjohcbamblilaa
open Go.RowKit
set_option linter.unusedVariables false
set_option linter.unusedSimpArgs false
set_option linter.unusedSectionVars false
set_option maxRecDepth 4000

def hs (x : Exhibit) (k : Nat) : List ByteArray := (List.range k).map (hold x)
theorem hs_succ (x : Exhibit) (k : Nat) : hs x (k + 1) = hs x k ++ [hold x k] := by simp [hs, List.range_succ]
theorem hs_add {x : Exhibit} {k : Nat} {ys : List ByteArray} (h : ys = hs x (k + 1)) (hk : k < x.Chain.length) : ys ++ [x.Chain[k].To] = hs x (k + 1 + 1) := by rw [h, hs_succ x (k + 1), hold_succ hk]
theorem hs_one (x : Exhibit) : hs x 1 = [x.Found] := by simp [hs, hold]
def holdersOf (x : Exhibit) : List ByteArray × Int := if isExhibit x = false then ([], 1) else if brk x ≠ x.Chain.length then ([], 5) else (hs x (x.Chain.length + 1), 0)
theorem holdersOf_len (x : Exhibit) : (holdersOf x).1.length ≤ 13 := by
  unfold holdersOf; split
  · simp
  · rename_i h
    have := isExhibit_len (by simpa using h : isExhibit x = true)
    split
    · simp
    · simp only [hs, List.length_map, List.length_range]; omega

set_option maxHeartbeats 400000 in
theorem changes_ok (p : Option Addr) (n c : Nat) (x : Exhibit) (w : World) (H : Sl Handing.cells 4 w p n c x.Chain) (hc : n ≤ 1000000) : Ret Try.prog 110 [.agg #[.string x.Code, .string x.Found, .int .i64 x.Day, .int .i64 x.Seal, .slice p n c]] w (fun v w' => Ext w w' ∧ ∃ q_0 m_0 d_0, v = .slice q_0 m_0 d_0 ∧ Ow i64c 1 2 w' w.heap.size w'.heap.size q_0 m_0 d_0 (chgGo x.Seal 0 x.Chain)) := by
  refine ret_of_run (N := 30) Try.func110 rfl rfl rfl ?_
  have hn := H.len
  have hn6 := H.n64
  have E : Ext w w := Ext.refl w
  refine run_seq ?_
  refine run_region ?_
  refine obox rfl rfl rfl ?_
  intro b1 w1 e1 hb1 hz1 O1
  have E := E.trans e1
  replace O1 : Own w1 b1 [.string x.Code, .string x.Found, .int .i64 x.Day, .int .i64 x.Seal, .slice p n c] 49 := O1
  refine ov (xassign rfl) rfl rfl rfl ?_
  refine ops_nil ?_
  refine run_seq ?_
  refine run_region ?_
  refine obuild (cs := []) (sz := 1) Try.underlying55 inf2 rfl rfl (by decide) rfl rfl (by simp [Value.cells]) rfl rfl rfl ?_
  intro b2 w2 e2 hb2 hz2 O2
  have E := E.trans e2
  replace O1 := O1.ext e2
  have G2 : Ow i64c 1 2 w2 b2 (b2 + 1) (some ⟨b2, 0, none⟩) 0 0 ([] : List Int) := Own.ow (by simpa [i64c] using O2) rfl (by omega) (Nat.le_refl _) (by omega) (by intro x hx; rfl)
  refine ov (xassign rfl) rfl rfl rfl ?_
  refine ops_nil ?_
  refine run_seq ?_
  refine run_region ?_
  refine ov (xfieldAddr fo49f3 rfl) rfl rfl rfl ?_
  refine ov (v := .int .i64 x.Seal) (xload1 Try.isAgg2 rfl (O1.cells) rfl) rfl rfl rfl ?_
  refine ov (xassign rfl) rfl rfl rfl ?_
  refine ops_nil ?_
  refine run_seq ?_
  refine run_seq ?_
  refine run_region ?_
  refine ov (xfieldAddr fo49f4 rfl) rfl rfl rfl ?_
  refine ov (v := .slice p n c) (xload1 Try.isAgg47 rfl (O1.cells) rfl) rfl rfl rfl ?_
  refine ov (xlen Try.underlying47 rfl) rfl rfl rfl ?_
  refine ov (xmove rfl) rfl rfl rfl ?_
  refine ops_nil ?_
  refine run_block ?_
  refine run_loop (ι := Nat × Int × Option Addr × Nat × Nat × List Int × World) (fun x_ => match x_ with | (k, sv, q_3, m_3, c_3, ys_3, wr) => (Ext w wr) ∧ (Own wr b1 ([.string x.Code, .string x.Found, .int .i64 x.Day, .int .i64 x.Seal, .slice p n c]) 49) ∧ (Ow i64c 1 2 wr b2 wr.heap.size q_3 m_3 c_3 ys_3) ∧ (b2 ≤ wr.heap.size) ∧ (w2.heap.size ≤ wr.heap.size) ∧ (k ≤ n) ∧ (m_3 ≤ k) ∧ (chgGo x.Seal 0 x.Chain = ys_3 ++ chgGo sv k (x.Chain.drop k))) (fun x_ => match x_ with | (k, sv, q_3, m_3, c_3, ys_3, wr) => [(3, .slice q_3 m_3 c_3), (4, .int .i64 sv), (11, .slice p n c), (12, .int .i64 (n : Int)), (13, .int .i64 (k : Int))]) (fun x_ => match x_ with | (k, sv, q_3, m_3, c_3, ys_3, wr) => wr) (fun x_ => match x_ with | (k, sv, q_3, m_3, c_3, ys_3, wr) => n - k) ?_ (0, x.Seal, (some ⟨b2, 0, none⟩), 0, 0, [], w2) (⟨E, O1, G2.wide (by omega) (by omega), by omega, Nat.le_refl _, by omega, by omega, by rfl⟩) ⟨rfl, rfl, rfl, rfl, rfl, trivial⟩ rfl
  intro i_ hI_ hback4
  obtain ⟨k, sv, q_3, m_3, c_3, ys_3, wr⟩ := i_
  obtain ⟨E, O_b1, G_3, lo_3, lz_wr, hk, hm, hg⟩ := hI_
  try dsimp only
  have zr := E.size
  have lt_b1 := O_b1.lt
  have lg_3 := G_3.len
  refine run_seq ?_
  refine run_region ?_
  refine ov (xlss rfl rfl _ rfl) rfl rfl rfl ?_
  refine ods (fun c14 => ?_) (fun c14 => ?_)
  ·
    refine ops_nil ?_
    refine run_seq ?_
    refine run_cond_t rfl ?_
    refine run_skip ?_
    refine run_seq ?_
    refine run_block ?_
    refine run_seq ?_
    refine run_region ?_
    refine ov (xmove rfl) rfl rfl rfl ?_
    have h16 := (H.ext E).at (i := k) (by omega)
    refine ov (xindexN (i := k) Try.underlying47 Try.sizeOf77 rfl rfl rfl ((H.ext E).p (i := k) (by omega)) (by have := (H.ext E).len; omega)) rfl rfl rfl ?_
    refine ov (v := .agg #[.int .i64 x.Chain[k].Day, .string x.Chain[k].From, .string x.Chain[k].To, .int .i64 x.Chain[k].Seal]) (xloadN Try.isAgg77 Try.sizeOf77 rfl (h16) rfl) rfl rfl rfl ?_
    refine oalloc Try.zeroValue77 rfl rfl ?_
    intro b3 w3 e3 hb3 hz3 O3
    have E := E.trans e3
    replace G_3 := G_3.ext e3
    replace O_b1 := O_b1.ext e3
    replace O3 : Own w3 b3 [.int .i64 0, .string ⟨#[]⟩, .string ⟨#[]⟩, .int .i64 0] 77 := O3
    refine ov (xassign rfl) rfl rfl rfl ?_
    refine ostoreN (vs := _) Try.sizeOf77 rfl rfl O3 rfl (by simp) (by simp [Value.oneCell']) rfl ?_
    intro w4 on4 O4
    have hz4 := on4.size
    have E := on4.ext E (by omega)
    replace G_3 := G_3.only on4 (by omega)
    replace O_b1 := on4.own O_b1 (by omega)
    replace O4 : Own w4 b3 [.int .i64 x.Chain[k].Day, .string x.Chain[k].From, .string x.Chain[k].To, .int .i64 x.Chain[k].Seal] 77 := O4
    refine ops_nil ?_
    refine run_seq ?_
    refine run_seq ?_
    refine run_region ?_
    refine ov (xfieldAddr fo77f3 rfl) rfl rfl rfl ?_
    refine ov (v := .int .i64 x.Chain[k].Seal) (xload1 Try.isAgg2 rfl (O4.cells) rfl) rfl rfl rfl ?_
    refine ov (xmove rfl) rfl rfl rfl ?_
    refine ov (xneq rfl rfl _ rfl) rfl rfl rfl ?_
    refine ods (fun c21 => ?_) (fun c21 => ?_)
    ·
      refine ops_nil ?_
      refine run_cond_t rfl ?_
      refine run_region ?_
      refine ov (xmove rfl) rfl rfl rfl ?_
      refine ov (xmove rfl) rfl rfl rfl ?_
      refine obuild (cs := [.int .i64 (k : Int)]) (sz := 1) Try.underlying55 inf2 rfl rfl (by decide) rfl rfl (by simp [Value.cells]) rfl rfl rfl ?_
      intro b5 w5 e5 hb5 hz5 O5
      have E := E.trans e5
      replace G_3 := G_3.ext e5
      replace O_b1 := O_b1.ext e5
      replace O4 := O4.ext e5
      refine oapp (bytes := 8) (nm := (m_3 + 1)) G_3 rfl rfl elem2 (Own.sl1 (y := (k : Int)) O5) (by intro h; cases h) (by intro y hy; rfl) (by intro y hy u hu; rw [List.mem_singleton] at hy; subst hy; revert u; simp [Value.oneCell', i64c]) (by omega) (by omega) (by omega) (by omega) rfl rfl ?_
      intro p6 c6_ w6 m6 G6
      have hz6 := m6.size
      have E := m6.toExt E (by omega)
      try replace O_b1 := m6.own O_b1 (by omega)
      try replace O4 := m6.own O4 (by omega)
      try replace O5 := m6.own O5 (by omega)
      refine ov (xassign rfl) rfl rfl rfl ?_
      refine ops_nil ?_
      refine run_region ?_
      refine ov (xfieldAddr fo77f3 rfl) rfl rfl rfl ?_
      refine ov (v := .int .i64 x.Chain[k].Seal) (xload1 Try.isAgg2 rfl (O4.cells) rfl) rfl rfl rfl ?_
      refine ov (xassign rfl) rfl rfl rfl ?_
      refine ops_nil ?_
      refine run_inBlock ?_
      refine run_region ?_
      refine ov (xadd rfl rfl (by unfold I64; omega)) rfl rfl rfl ?_
      refine ov (xmove rfl) rfl rfl rfl ?_
      refine ops_nil ?_
      refine run_sub ?_ (hback4 (k + 1, x.Chain[k].Seal, p6, (m_3 + 1), c6_, ys_3 ++ [(k : Int)], w6) (⟨E, O_b1, G6.wide (by omega) (by omega), by omega, by omega, by omega, by omega, by rw [hg, List.drop_eq_getElem_cons (by omega), chgGo, if_pos c21]; simp⟩) (by first | omega | (dsimp only; omega)))
      exact ⟨rfl, rfl, rfl, rfl, rfl, trivial⟩
    ·
      refine ops_nil ?_
      refine run_cond_f rfl ?_
      refine run_skip ?_
      refine run_region ?_
      refine ov (xfieldAddr fo77f3 rfl) rfl rfl rfl ?_
      refine ov (v := .int .i64 x.Chain[k].Seal) (xload1 Try.isAgg2 rfl (O4.cells) rfl) rfl rfl rfl ?_
      refine ov (xassign rfl) rfl rfl rfl ?_
      refine ops_nil ?_
      refine run_inBlock ?_
      refine run_region ?_
      refine ov (xadd rfl rfl (by unfold I64; omega)) rfl rfl rfl ?_
      refine ov (xmove rfl) rfl rfl rfl ?_
      refine ops_nil ?_
      refine run_sub ?_ (hback4 (k + 1, x.Chain[k].Seal, q_3, m_3, c_3, ys_3, w4) (⟨E, O_b1, G_3.wide (by omega) (by omega), by omega, by omega, by omega, by omega, by rw [hg, List.drop_eq_getElem_cons (by omega), chgGo, if_neg c21]⟩) (by first | omega | (dsimp only; omega)))
      exact ⟨rfl, rfl, rfl, rfl, rfl, trivial⟩
  ·
    refine ops_nil ?_
    refine run_seq ?_
    refine run_cond_f rfl ?_
    refine run_exit rfl ?_
    refine run_seq ?_
    refine run_region ?_
    refine ov (xmove rfl) rfl rfl rfl ?_
    refine ov (xassign rfl) rfl rfl rfl ?_
    refine ops_nil ?_
    refine run_ret Try.func110 (res1 rfl rfl) ?_
    obtain rfl : k = n := by omega
    exact ⟨_, rfl, E, _, _, _, rfl, by rw [hg, List.drop_eq_nil_of_le (by omega), chgGo, List.append_nil]; exact G_3.wide (by omega) (by omega)⟩

set_option maxHeartbeats 400000 in
theorem sSealChanges_ok (p : Option Addr) (n c : Nat) (x : Exhibit) (w : World) (H : Sl Handing.cells 4 w p n c x.Chain) (hx : exSmall x) : Ret Try.prog 38 [.agg #[.string x.Code, .string x.Found, .int .i64 x.Day, .int .i64 x.Seal, .slice p n c]] w (fun v w' => Ext w w' ∧ ∃ q_0 m_0 d_0, v = .tuple #[.slice q_0 m_0 d_0, .int .i64 (sealChanges x).2] ∧ Ow i64c 1 2 w' w.heap.size w'.heap.size q_0 m_0 d_0 (sealChanges x).1) := by
  refine ret_of_run (N := 39) Try.func38 rfl rfl rfl ?_
  have hn := H.len
  have hn6 := H.n64
  have E : Ext w w := Ext.refl w
  refine run_seq ?_
  refine run_region ?_
  refine obox rfl rfl rfl ?_
  intro b1 w1 e1 hb1 hz1 O1
  have E := E.trans e1
  replace O1 : Own w1 b1 [.string x.Code, .string x.Found, .int .i64 x.Day, .int .i64 x.Seal, .slice p n c] 49 := O1
  refine ov (xassign rfl) rfl rfl rfl ?_
  refine ov (xassign rfl) rfl rfl rfl ?_
  refine ops_nil ?_
  refine run_seq ?_
  refine run_seq ?_
  refine run_region ?_
  refine ov (v := .agg #[.string x.Code, .string x.Found, .int .i64 x.Day, .int .i64 x.Seal, .slice p n c]) (xloadN Try.isAgg49 Try.sizeOf49 rfl (O1.cells) rfl) rfl rfl rfl ?_
  refine oc (xcall Try.call101 rfl) rfl rfl rfl (sIsExhibit_ok _ _ _ _ _ (H.ext E) (by assumption)) ?_
  rintro _ w2 ⟨rfl, e2⟩
  have z2 := e2.size
  have E := E.trans e2
  replace O1 := O1.ext e2
  refine obs (fun c8 => ?_) (fun c8 => ?_)
  ·
    have hl := isExhibit_len c8
    refine ov (xnot rfl) rfl rfl rfl ?_
    refine ops_nil ?_
    refine run_cond_f rfl ?_
    refine run_skip ?_
    refine run_seq ?_
    refine run_region ?_
    refine obuild (cs := []) (sz := 1) Try.underlying55 inf2 rfl rfl (by decide) rfl rfl (by simp [Value.cells]) rfl rfl rfl ?_
    intro b3 w3 e3 hb3 hz3 O3
    have E := E.trans e3
    replace O1 := O1.ext e3
    have G3 : Ow i64c 1 2 w3 b3 (b3 + 1) (some ⟨b3, 0, none⟩) 0 0 ([] : List Int) := Own.ow (by simpa [i64c] using O3) rfl (by omega) (Nat.le_refl _) (by omega) (by intro x hx; rfl)
    refine ov (xassign rfl) rfl rfl rfl ?_
    refine ops_nil ?_
    refine run_seq ?_
    refine run_region ?_
    refine ov (xfieldAddr fo49f3 rfl) rfl rfl rfl ?_
    refine ov (v := .int .i64 x.Seal) (xload1 Try.isAgg2 rfl (O1.cells) rfl) rfl rfl rfl ?_
    refine ov (xassign rfl) rfl rfl rfl ?_
    refine ops_nil ?_
    refine run_seq ?_
    refine run_seq ?_
    refine run_region ?_
    refine ov (xassign rfl) rfl rfl rfl ?_
    refine ops_nil ?_
    refine run_block ?_
    refine run_loop (ι := Nat × Int × Option Addr × Nat × Nat × List Int × World) (fun x_ => match x_ with | (k, sv, q_4, m_4, c_4, ys_4, wr) => (Ext w wr) ∧ (Own wr b1 ([.string x.Code, .string x.Found, .int .i64 x.Day, .int .i64 x.Seal, .slice p n c]) 49) ∧ (Ow i64c 1 2 wr b3 wr.heap.size q_4 m_4 c_4 ys_4) ∧ (b3 ≤ wr.heap.size) ∧ (w3.heap.size ≤ wr.heap.size) ∧ (k ≤ n) ∧ (m_4 ≤ k) ∧ (chgGo x.Seal 0 x.Chain = ys_4 ++ chgGo sv k (x.Chain.drop k))) (fun x_ => match x_ with | (k, sv, q_4, m_4, c_4, ys_4, wr) => [(1, .pointer (some ⟨b1, 0, none⟩)), (4, .slice q_4 m_4 c_4), (5, .int .i64 sv), (6, .int .i64 (k : Int))]) (fun x_ => match x_ with | (k, sv, q_4, m_4, c_4, ys_4, wr) => wr) (fun x_ => match x_ with | (k, sv, q_4, m_4, c_4, ys_4, wr) => n - k) ?_ (0, x.Seal, (some ⟨b3, 0, none⟩), 0, 0, [], w3) (⟨E, O1, G3.wide (by omega) (by omega), by omega, Nat.le_refl _, by omega, by omega, by rfl⟩) ⟨rfl, rfl, rfl, rfl, trivial⟩ rfl
    intro i_ hI_ hback6
    obtain ⟨k, sv, q_4, m_4, c_4, ys_4, wr⟩ := i_
    obtain ⟨E, O_b1, G_4, lo_4, lz_wr, hk, hm, hg⟩ := hI_
    try dsimp only
    have zr := E.size
    have lt_b1 := O_b1.lt
    have lg_4 := G_4.len
    refine run_seq ?_
    refine run_seq ?_
    refine run_region ?_
    refine ov (xmove rfl) rfl rfl rfl ?_
    refine ov (xfieldAddr fo49f4 rfl) rfl rfl rfl ?_
    refine ov (v := .slice p n c) (xload1 Try.isAgg47 rfl (O_b1.cells) rfl) rfl rfl rfl ?_
    refine ov (xlen Try.underlying47 rfl) rfl rfl rfl ?_
    refine ov (xlss rfl rfl _ rfl) rfl rfl rfl ?_
    refine ods (fun c17 => ?_) (fun c17 => ?_)
    ·
      refine ops_nil ?_
      refine run_cond_t rfl ?_
      refine run_skip ?_
      refine run_seq ?_
      refine run_block ?_
      refine run_seq ?_
      refine run_seq ?_
      refine run_region ?_
      refine ov (xfieldAddr fo49f4 rfl) rfl rfl rfl ?_
      refine ov (v := .slice p n c) (xload1 Try.isAgg47 rfl (O_b1.cells) rfl) rfl rfl rfl ?_
      refine ov (xmove rfl) rfl rfl rfl ?_
      have h23 := (H.ext E).at (i := k) (by omega)
      refine ov (xindexN (i := k) Try.underlying47 Try.sizeOf77 rfl rfl rfl ((H.ext E).p (i := k) (by omega)) (by have := (H.ext E).len; omega)) rfl rfl rfl ?_
      refine ov (xfieldAddr fo77f3 rfl) rfl rfl rfl ?_
      refine ov (v := .int .i64 x.Chain[k].Seal) (xload1 Try.isAgg2 rfl (h23) rfl) rfl rfl rfl ?_
      refine ov (xmove rfl) rfl rfl rfl ?_
      refine ov (xneq rfl rfl _ rfl) rfl rfl rfl ?_
      refine ods (fun c27 => ?_) (fun c27 => ?_)
      ·
        refine ops_nil ?_
        refine run_cond_t rfl ?_
        refine run_region ?_
        refine ov (xmove rfl) rfl rfl rfl ?_
        refine ov (xmove rfl) rfl rfl rfl ?_
        refine obuild (cs := [.int .i64 (k : Int)]) (sz := 1) Try.underlying55 inf2 rfl rfl (by decide) rfl rfl (by simp [Value.cells]) rfl rfl rfl ?_
        intro b4 w4 e4 hb4 hz4 O4
        have E := E.trans e4
        replace G_4 := G_4.ext e4
        replace O_b1 := O_b1.ext e4
        refine oapp (bytes := 8) (nm := (m_4 + 1)) G_4 rfl rfl elem2 (Own.sl1 (y := (k : Int)) O4) (by intro h; cases h) (by intro y hy; rfl) (by intro y hy u hu; rw [List.mem_singleton] at hy; subst hy; revert u; simp [Value.oneCell', i64c]) (by omega) (by omega) (by omega) (by omega) rfl rfl ?_
        intro p5 c5_ w5 m5 G5
        have hz5 := m5.size
        have E := m5.toExt E (by omega)
        try replace O_b1 := m5.own O_b1 (by omega)
        try replace O4 := m5.own O4 (by omega)
        refine ov (xassign rfl) rfl rfl rfl ?_
        refine ops_nil ?_
        refine run_region ?_
        refine ov (xfieldAddr fo49f4 rfl) rfl rfl rfl ?_
        refine ov (v := .slice p n c) (xload1 Try.isAgg47 rfl (O_b1.cells) rfl) rfl rfl rfl ?_
        refine ov (xmove rfl) rfl rfl rfl ?_
        have h35 := (H.ext E).at (i := k) (by omega)
        refine ov (xindexN (i := k) Try.underlying47 Try.sizeOf77 rfl rfl rfl ((H.ext E).p (i := k) (by omega)) (by have := (H.ext E).len; omega)) rfl rfl rfl ?_
        refine ov (xfieldAddr fo77f3 rfl) rfl rfl rfl ?_
        refine ov (v := .int .i64 x.Chain[k].Seal) (xload1 Try.isAgg2 rfl (h35) rfl) rfl rfl rfl ?_
        refine ov (xassign rfl) rfl rfl rfl ?_
        refine ops_nil ?_
        refine run_inBlock ?_
        refine run_region ?_
        refine ov (xmove rfl) rfl rfl rfl ?_
        refine ov (xadd rfl rfl (by unfold I64; omega)) rfl rfl rfl ?_
        refine ov (xassign rfl) rfl rfl rfl ?_
        refine ops_nil ?_
        refine run_sub ?_ (hback6 (k + 1, x.Chain[k].Seal, p5, (m_4 + 1), c5_, ys_4 ++ [(k : Int)], w5) (⟨E, O_b1, G5.wide (by omega) (by omega), by omega, by omega, by omega, by omega, by rw [hg, List.drop_eq_getElem_cons (by omega), chgGo, if_pos c27]; simp⟩) (by first | omega | (dsimp only; omega)))
        exact ⟨rfl, rfl, rfl, rfl, trivial⟩
      ·
        refine ops_nil ?_
        refine run_cond_f rfl ?_
        refine run_skip ?_
        refine run_region ?_
        refine ov (xfieldAddr fo49f4 rfl) rfl rfl rfl ?_
        refine ov (v := .slice p n c) (xload1 Try.isAgg47 rfl (O_b1.cells) rfl) rfl rfl rfl ?_
        refine ov (xmove rfl) rfl rfl rfl ?_
        have h35 := (H.ext E).at (i := k) (by omega)
        refine ov (xindexN (i := k) Try.underlying47 Try.sizeOf77 rfl rfl rfl ((H.ext E).p (i := k) (by omega)) (by have := (H.ext E).len; omega)) rfl rfl rfl ?_
        refine ov (xfieldAddr fo77f3 rfl) rfl rfl rfl ?_
        refine ov (v := .int .i64 x.Chain[k].Seal) (xload1 Try.isAgg2 rfl (h35) rfl) rfl rfl rfl ?_
        refine ov (xassign rfl) rfl rfl rfl ?_
        refine ops_nil ?_
        refine run_inBlock ?_
        refine run_region ?_
        refine ov (xmove rfl) rfl rfl rfl ?_
        refine ov (xadd rfl rfl (by unfold I64; omega)) rfl rfl rfl ?_
        refine ov (xassign rfl) rfl rfl rfl ?_
        refine ops_nil ?_
        refine run_sub ?_ (hback6 (k + 1, x.Chain[k].Seal, q_4, m_4, c_4, ys_4, wr) (⟨E, O_b1, G_4.wide (by omega) (by omega), by omega, by omega, by omega, by omega, by rw [hg, List.drop_eq_getElem_cons (by omega), chgGo, if_neg c27]⟩) (by first | omega | (dsimp only; omega)))
        exact ⟨rfl, rfl, rfl, rfl, trivial⟩
    ·
      refine ops_nil ?_
      refine run_cond_f rfl ?_
      refine run_exit rfl ?_
      refine run_seq ?_
      refine run_region ?_
      refine ov (xmove rfl) rfl rfl rfl ?_
      refine ov (xassign rfl) rfl rfl rfl ?_
      refine ov (xassign rfl) rfl rfl rfl ?_
      refine ops_nil ?_
      refine run_ret Try.func38 (res2 rfl rfl rfl) ?_
      have he : sealChanges x = (ys_4, 0) := by simp [sealChanges, c8, hg, List.drop_eq_nil_of_le (by omega : x.Chain.length ≤ k), chgGo]
      exact ⟨_, rfl, E, _, _, _, by rw [he], by rw [he]; exact G_4.wide (by omega) (by omega)⟩
  ·
    refine ov (xnot rfl) rfl rfl rfl ?_
    refine ops_nil ?_
    refine run_cond_t rfl ?_
    refine run_seq ?_
    refine run_region ?_
    refine ov (xassign rfl) rfl rfl rfl ?_
    refine ov (xassign rfl) rfl rfl rfl ?_
    refine ops_nil ?_
    refine run_ret Try.func38 (res2 rfl rfl rfl) ?_
    have he : sealChanges x = ([], 1) := by unfold sealChanges; simp_all
    exact ⟨_, rfl, E, none, 0, 0, by rw [he], by rw [he]; exact Ow.none _ _ _ _ _ _⟩

set_option maxHeartbeats 400000 in
theorem SealChanges_ok (p : Option Addr) (n c : Nat) (x : Exhibit) (w : World) (H : Sl Handing.cells 4 w p n c x.Chain) (hx : exSmall x) : Ret Try.prog 39 [.agg #[.string x.Code, .string x.Found, .int .i64 x.Day, .int .i64 x.Seal, .slice p n c]] w (fun v w' => Ext w w' ∧ ∃ q_0 m_0 d_0, v = .tuple #[.slice q_0 m_0 d_0, .int .i64 (sealChanges x).2] ∧ Ow i64c 1 2 w' w.heap.size w'.heap.size q_0 m_0 d_0 (sealChanges x).1) := by
  refine ret_of_run (N := 9) Try.func39 rfl rfl rfl ?_
  have hn := H.len
  have hn6 := H.n64
  have E : Ext w w := Ext.refl w
  refine run_seq ?_
  refine run_region ?_
  refine obox rfl rfl rfl ?_
  intro b1 w1 e1 hb1 hz1 O1
  have E := E.trans e1
  replace O1 : Own w1 b1 [.string x.Code, .string x.Found, .int .i64 x.Day, .int .i64 x.Seal, .slice p n c] 49 := O1
  refine ov (xassign rfl) rfl rfl rfl ?_
  refine ov (xassign rfl) rfl rfl rfl ?_
  refine ops_nil ?_
  refine run_seq ?_
  refine run_seq ?_
  refine run_region ?_
  refine ov (v := .agg #[.string x.Code, .string x.Found, .int .i64 x.Day, .int .i64 x.Seal, .slice p n c]) (xloadN Try.isAgg49 Try.sizeOf49 rfl (O1.cells) rfl) rfl rfl rfl ?_
  refine oc (xcall Try.call66 rfl) rfl rfl rfl (IsExhibit_ok _ _ _ _ _ (H.ext E) (by assumption)) ?_
  rintro _ w2 ⟨rfl, e2⟩
  have z2 := e2.size
  have E := E.trans e2
  replace O1 := O1.ext e2
  refine obs (fun c5 => ?_) (fun c5 => ?_)
  ·
    have hl := isExhibit_len c5
    refine ov (xnot rfl) rfl rfl rfl ?_
    refine ops_nil ?_
    refine run_cond_f rfl ?_
    refine run_skip ?_
    refine run_seq ?_
    refine run_region ?_
    refine ov (v := .agg #[.string x.Code, .string x.Found, .int .i64 x.Day, .int .i64 x.Seal, .slice p n c]) (xloadN Try.isAgg49 Try.sizeOf49 rfl (O1.cells) rfl) rfl rfl rfl ?_
    refine oc (xcall Try.call110 rfl) rfl rfl rfl (changes_ok _ _ _ x _ (H.ext E) (by omega)) ?_
    rintro _ w3 ⟨e3, q8, m8, d8, rfl, G8⟩
    have z3 := e3.size
    have E := E.trans e3
    replace O1 := O1.ext e3
    refine ov (xassign rfl) rfl rfl rfl ?_
    refine ov (xassign rfl) rfl rfl rfl ?_
    refine ops_nil ?_
    refine run_ret Try.func39 (res2 rfl rfl rfl) ?_
    have he : sealChanges x = (chgGo x.Seal 0 x.Chain, 0) := by simp [sealChanges, c5]
    exact ⟨_, rfl, E, _, _, _, by rw [he], by rw [he]; exact G8.wide (by omega) (by omega)⟩
  ·
    refine ov (xnot rfl) rfl rfl rfl ?_
    refine ops_nil ?_
    refine run_cond_t rfl ?_
    refine run_seq ?_
    refine run_region ?_
    refine ov (xassign rfl) rfl rfl rfl ?_
    refine ov (xassign rfl) rfl rfl rfl ?_
    refine ops_nil ?_
    refine run_ret Try.func39 (res2 rfl rfl rfl) ?_
    have he : sealChanges x = ([], 1) := by simp [sealChanges, c5]
    exact ⟨_, rfl, E, none, 0, 0, by rw [he], by rw [he]; exact Ow.none _ _ _ _ _ _⟩

set_option maxHeartbeats 400000 in
theorem HoldersOf_ok (p : Option Addr) (n c : Nat) (x : Exhibit) (w : World) (H : Sl Handing.cells 4 w p n c x.Chain) (hx : exSmall x) : Ret Try.prog 46 [.agg #[.string x.Code, .string x.Found, .int .i64 x.Day, .int .i64 x.Seal, .slice p n c]] w (fun v w' => Ext w w' ∧ ∃ q_0 m_0 d_0, v = .tuple #[.slice q_0 m_0 d_0, .int .i64 (holdersOf x).2] ∧ Ow strc 1 9 w' w.heap.size w'.heap.size q_0 m_0 d_0 (holdersOf x).1) := by
  refine ret_of_run (N := 28) Try.func46 rfl rfl rfl ?_
  have hn := H.len
  have hn6 := H.n64
  have hb := brk_le x
  have hz := brkZ_or x
  have E : Ext w w := Ext.refl w
  refine run_seq ?_
  refine run_region ?_
  refine obox rfl rfl rfl ?_
  intro b1 w1 e1 hb1 hz1 O1
  have E := E.trans e1
  replace O1 : Own w1 b1 [.string x.Code, .string x.Found, .int .i64 x.Day, .int .i64 x.Seal, .slice p n c] 49 := O1
  refine ov (xassign rfl) rfl rfl rfl ?_
  refine ov (xassign rfl) rfl rfl rfl ?_
  refine ops_nil ?_
  refine run_seq ?_
  refine run_seq ?_
  refine run_region ?_
  refine ov (v := .agg #[.string x.Code, .string x.Found, .int .i64 x.Day, .int .i64 x.Seal, .slice p n c]) (xloadN Try.isAgg49 Try.sizeOf49 rfl (O1.cells) rfl) rfl rfl rfl ?_
  refine oc (xcall Try.call66 rfl) rfl rfl rfl (IsExhibit_ok _ _ _ _ _ (H.ext E) (by assumption)) ?_
  rintro _ w2 ⟨rfl, e2⟩
  have z2 := e2.size
  have E := E.trans e2
  replace O1 := O1.ext e2
  refine obs (fun c7 => ?_) (fun c7 => ?_)
  ·
    have hl := isExhibit_len c7
    refine ov (xnot rfl) rfl rfl rfl ?_
    refine ops_nil ?_
    refine run_cond_f rfl ?_
    refine run_skip ?_
    refine run_seq ?_
    refine run_seq ?_
    refine run_region ?_
    refine ov (v := .agg #[.string x.Code, .string x.Found, .int .i64 x.Day, .int .i64 x.Seal, .slice p n c]) (xloadN Try.isAgg49 Try.sizeOf49 rfl (O1.cells) rfl) rfl rfl rfl ?_
    refine oc (xcall Try.call109 rfl) rfl rfl rfl (unbroken_ok _ _ _ _ _ (H.ext E)) ?_
    rintro _ w3 ⟨rfl, e3⟩
    have z3 := e3.size
    have E := E.trans e3
    replace O1 := O1.ext e3
    refine obs (fun c10 => ?_) (fun c10 => ?_)
    ·
      refine ov (xnot rfl) rfl rfl rfl ?_
      refine ops_nil ?_
      refine run_cond_f rfl ?_
      refine run_skip ?_
      refine run_seq ?_
      refine run_region ?_
      refine obuild (cs := []) (sz := 1) Try.underlying66 inf9 rfl rfl (by decide) rfl rfl (by simp [Value.cells]) rfl rfl rfl ?_
      intro b4 w4 e4 hb4 hz4 O4
      have E := E.trans e4
      replace O1 := O1.ext e4
      have G4 : Ow strc 1 9 w4 b4 (b4 + 1) (some ⟨b4, 0, none⟩) 0 0 ([] : List ByteArray) := Own.ow (by simpa [strc] using O4) rfl (by omega) (Nat.le_refl _) (by omega) (by intro x hx; rfl)
      refine ov (xassign rfl) rfl rfl rfl ?_
      refine ops_nil ?_
      refine run_seq ?_
      refine run_seq ?_
      refine run_region ?_
      refine ov (xfieldAddr fo49f4 rfl) rfl rfl rfl ?_
      refine ov (v := .slice p n c) (xload1 Try.isAgg47 rfl (O1.cells) rfl) rfl rfl rfl ?_
      refine ov (xlen Try.underlying47 rfl) rfl rfl rfl ?_
      refine ov (xadd rfl rfl (by unfold I64; omega)) rfl rfl rfl ?_
      refine ov (xmove rfl) rfl rfl rfl ?_
      refine ops_nil ?_
      refine run_block ?_
      refine run_loop (ι := Nat × Option Addr × Nat × Nat × List ByteArray × World) (fun x_ => match x_ with | (k, q_4, m_4, c_4, ys_4, wr) => (Ext w wr) ∧ (Own wr b1 ([.string x.Code, .string x.Found, .int .i64 x.Day, .int .i64 x.Seal, .slice p n c]) 49) ∧ (Ow strc 1 9 wr b4 wr.heap.size q_4 m_4 c_4 ys_4) ∧ (b4 ≤ wr.heap.size) ∧ (w4.heap.size ≤ wr.heap.size) ∧ (k ≤ n + 1) ∧ (m_4 = k) ∧ (ys_4 = hs x k)) (fun x_ => match x_ with | (k, q_4, m_4, c_4, ys_4, wr) => [(1, .pointer (some ⟨b1, 0, none⟩)), (4, .slice q_4 m_4 c_4), (16, .int .i64 ((n : Int) + 1)), (17, .int .i64 (k : Int))]) (fun x_ => match x_ with | (k, q_4, m_4, c_4, ys_4, wr) => wr) (fun x_ => match x_ with | (k, q_4, m_4, c_4, ys_4, wr) => n + 1 - k) ?_ (0, (some ⟨b4, 0, none⟩), 0, 0, [], w4) (⟨E, O1, G4.wide (by omega) (by omega), by omega, Nat.le_refl _, by omega, by omega, by rfl⟩) ⟨rfl, rfl, rfl, rfl, trivial⟩ rfl
      intro i_ hI_ hback7
      obtain ⟨k, q_4, m_4, c_4, ys_4, wr⟩ := i_
      obtain ⟨E, O_b1, G_4, lo_4, lz_wr, hk, hm, hg⟩ := hI_
      try dsimp only
      have zr := E.size
      have lt_b1 := O_b1.lt
      have lg_4 := G_4.len
      refine run_seq ?_
      refine run_region ?_
      refine ov (xlss rfl rfl _ rfl) rfl rfl rfl ?_
      refine ods (fun c18 => ?_) (fun c18 => ?_)
      ·
        refine ops_nil ?_
        refine run_seq ?_
        refine run_cond_t rfl ?_
        refine run_skip ?_
        refine run_seq ?_
        refine run_block ?_
        refine run_seq ?_
        refine run_region ?_
        refine ov (xmove rfl) rfl rfl rfl ?_
        refine ov (xassign rfl) rfl rfl rfl ?_
        refine ops_nil ?_
        refine run_region ?_
        refine ov (xmove rfl) rfl rfl rfl ?_
        refine ov (v := .agg #[.string x.Code, .string x.Found, .int .i64 x.Day, .int .i64 x.Seal, .slice p n c]) (xloadN Try.isAgg49 Try.sizeOf49 rfl (O_b1.cells) rfl) rfl rfl rfl ?_
        refine ov (xmove rfl) rfl rfl rfl ?_
        refine oc (xcall Try.call107 rfl) rfl rfl rfl (holder_ok _ _ _ _ _ (H.ext E) k (by omega)) ?_
        rintro _ w5 ⟨rfl, e5⟩
        have z5 := e5.size
        have E := E.trans e5
        replace G_4 := G_4.ext e5
        replace O_b1 := O_b1.ext e5
        refine obuild (cs := [.string (hold x k)]) (sz := 1) Try.underlying66 inf9 rfl rfl (by decide) rfl rfl (by simp [Value.cells]) rfl rfl rfl ?_
        intro b6 w6 e6 hb6 hz6 O6
        have E := E.trans e6
        replace G_4 := G_4.ext e6
        replace O_b1 := O_b1.ext e6
        refine oapp (bytes := 16) (nm := (m_4 + 1)) G_4 rfl rfl elem9 (Own.sl1 (y := (hold x k)) O6) (by intro h; cases h) (by intro y hy; rfl) (by intro y hy u hu; rw [List.mem_singleton] at hy; subst hy; revert u; simp [Value.oneCell', strc]) (by omega) (by omega) (by omega) (by omega) rfl rfl ?_
        intro p7 c7_ w7 m7 G7
        have hz7 := m7.size
        have E := m7.toExt E (by omega)
        try replace O_b1 := m7.own O_b1 (by omega)
        try replace O6 := m7.own O6 (by omega)
        refine ov (xassign rfl) rfl rfl rfl ?_
        refine ops_nil ?_
        refine run_inBlock ?_
        refine run_region ?_
        refine ov (xadd rfl rfl (by unfold I64; omega)) rfl rfl rfl ?_
        refine ov (xmove rfl) rfl rfl rfl ?_
        refine ops_nil ?_
        refine run_sub ?_ (hback7 (k + 1, p7, (m_4 + 1), c7_, ys_4 ++ [hold x k], w7) (⟨E, O_b1, G7.wide (by omega) (by omega), by omega, by omega, by omega, by omega, by rw [hg, ← hs_succ]⟩) (by first | omega | (dsimp only; omega)))
        exact ⟨rfl, rfl, rfl, rfl, trivial⟩
      ·
        refine ops_nil ?_
        refine run_seq ?_
        refine run_cond_f rfl ?_
        refine run_exit rfl ?_
        refine run_seq ?_
        refine run_region ?_
        refine ov (xmove rfl) rfl rfl rfl ?_
        refine ov (xassign rfl) rfl rfl rfl ?_
        refine ov (xassign rfl) rfl rfl rfl ?_
        refine ops_nil ?_
        refine run_ret Try.func46 (res2 rfl rfl rfl) ?_
        have he : holdersOf x = (ys_4, 0) := by unfold holdersOf; (repeat' split) <;> first | rfl | (exfalso; omega) | (exfalso; simp_all; done) | (rw [hg]; congr 2; omega)
        exact ⟨_, rfl, E, _, _, _, by rw [he], by rw [he]; exact G_4.wide (by omega) (by omega)⟩
    ·
      refine ov (xnot rfl) rfl rfl rfl ?_
      refine ops_nil ?_
      refine run_cond_t rfl ?_
      refine run_seq ?_
      refine run_region ?_
      refine ov (xassign rfl) rfl rfl rfl ?_
      refine ov (xassign rfl) rfl rfl rfl ?_
      refine ops_nil ?_
      refine run_ret Try.func46 (res2 rfl rfl rfl) ?_
      have he : holdersOf x = ([], 5) := by unfold holdersOf; (repeat' split) <;> first | rfl | (exfalso; omega) | (exfalso; simp_all; done) | (rw [hg]; congr 2; omega)
      exact ⟨_, rfl, E, none, 0, 0, by rw [he], by rw [he]; exact Ow.none _ _ _ _ _ _⟩
  ·
    refine ov (xnot rfl) rfl rfl rfl ?_
    refine ops_nil ?_
    refine run_cond_t rfl ?_
    refine run_seq ?_
    refine run_region ?_
    refine ov (xassign rfl) rfl rfl rfl ?_
    refine ov (xassign rfl) rfl rfl rfl ?_
    refine ops_nil ?_
    refine run_ret Try.func46 (res2 rfl rfl rfl) ?_
    have he : holdersOf x = ([], 1) := by unfold holdersOf; (repeat' split) <;> first | rfl | (exfalso; omega) | (exfalso; simp_all; done) | (rw [hg]; congr 2; omega)
    exact ⟨_, rfl, E, none, 0, 0, by rw [he], by rw [he]; exact Ow.none _ _ _ _ _ _⟩

set_option maxHeartbeats 400000 in
theorem sHoldersOf_ok (p : Option Addr) (n c : Nat) (x : Exhibit) (w : World) (H : Sl Handing.cells 4 w p n c x.Chain) (hx : exSmall x) : Ret Try.prog 47 [.agg #[.string x.Code, .string x.Found, .int .i64 x.Day, .int .i64 x.Seal, .slice p n c]] w (fun v w' => Ext w w' ∧ ∃ q_0 m_0 d_0, v = .tuple #[.slice q_0 m_0 d_0, .int .i64 (holdersOf x).2] ∧ Ow strc 1 9 w' w.heap.size w'.heap.size q_0 m_0 d_0 (holdersOf x).1) := by
  refine ret_of_run (N := 32) Try.func47 rfl rfl rfl ?_
  have hn := H.len
  have hn6 := H.n64
  have hb := brk_le x
  have hz := brkZ_or x
  have E : Ext w w := Ext.refl w
  refine run_seq ?_
  refine run_region ?_
  refine obox rfl rfl rfl ?_
  intro b1 w1 e1 hb1 hz1 O1
  have E := E.trans e1
  replace O1 : Own w1 b1 [.string x.Code, .string x.Found, .int .i64 x.Day, .int .i64 x.Seal, .slice p n c] 49 := O1
  refine ov (xassign rfl) rfl rfl rfl ?_
  refine ov (xassign rfl) rfl rfl rfl ?_
  refine ops_nil ?_
  refine run_seq ?_
  refine run_seq ?_
  refine run_region ?_
  refine ov (v := .agg #[.string x.Code, .string x.Found, .int .i64 x.Day, .int .i64 x.Seal, .slice p n c]) (xloadN Try.isAgg49 Try.sizeOf49 rfl (O1.cells) rfl) rfl rfl rfl ?_
  refine oc (xcall Try.call101 rfl) rfl rfl rfl (sIsExhibit_ok _ _ _ _ _ (H.ext E) (by assumption)) ?_
  rintro _ w2 ⟨rfl, e2⟩
  have z2 := e2.size
  have E := E.trans e2
  replace O1 := O1.ext e2
  refine obs (fun c7 => ?_) (fun c7 => ?_)
  ·
    have hl := isExhibit_len c7
    refine ov (xnot rfl) rfl rfl rfl ?_
    refine ops_nil ?_
    refine run_cond_f rfl ?_
    refine run_skip ?_
    refine run_seq ?_
    refine run_seq ?_
    refine run_region ?_
    refine ov (v := .agg #[.string x.Code, .string x.Found, .int .i64 x.Day, .int .i64 x.Seal, .slice p n c]) (xloadN Try.isAgg49 Try.sizeOf49 rfl (O1.cells) rfl) rfl rfl rfl ?_
    refine oc (xcall Try.call103 rfl) rfl rfl rfl (l23Break_ok _ _ _ _ _ (H.ext E)) ?_
    rintro _ w3 ⟨rfl, e3⟩
    have z3 := e3.size
    have E := E.trans e3
    replace O1 := O1.ext e3
    refine ov (xgeq rfl rfl _ rfl) rfl rfl rfl ?_
    refine ods (fun c11 => ?_) (fun c11 => ?_)
    ·
      refine ops_nil ?_
      refine run_cond_t rfl ?_
      refine run_seq ?_
      refine run_region ?_
      refine ov (xassign rfl) rfl rfl rfl ?_
      refine ov (xassign rfl) rfl rfl rfl ?_
      refine ops_nil ?_
      refine run_ret Try.func47 (res2 rfl rfl rfl) ?_
      have he : holdersOf x = ([], 5) := by unfold holdersOf; (repeat' split) <;> first | rfl | (exfalso; omega) | (exfalso; simp_all; done) | (rw [hg]; congr 2; omega)
      exact ⟨_, rfl, E, none, 0, 0, by rw [he], by rw [he]; exact Ow.none _ _ _ _ _ _⟩
    ·
      refine ops_nil ?_
      refine run_cond_f rfl ?_
      refine run_skip ?_
      refine run_seq ?_
      refine run_region ?_
      refine ov (xfieldAddr fo49f1 rfl) rfl rfl rfl ?_
      refine ov (v := .string x.Found) (xload1 Try.isAgg9 rfl (O1.cells) rfl) rfl rfl rfl ?_
      refine obuild (cs := [.string x.Found]) (sz := 1) Try.underlying66 inf9 rfl rfl (by decide) rfl rfl (by simp [Value.cells]) rfl rfl rfl ?_
      intro b4 w4 e4 hb4 hz4 O4
      have E := E.trans e4
      replace O1 := O1.ext e4
      have G4 : Ow strc 1 9 w4 b4 (b4 + 1) (some ⟨b4, 0, none⟩) 1 1 [x.Found] := Own.ow (by simpa [strc] using O4) rfl (by omega) (Nat.le_refl _) (by omega) (by intro x hx; rfl)
      refine ov (xassign rfl) rfl rfl rfl ?_
      refine ops_nil ?_
      refine run_seq ?_
      refine run_seq ?_
      refine run_region ?_
      refine ov (xassign rfl) rfl rfl rfl ?_
      refine ops_nil ?_
      refine run_block ?_
      refine run_loop (ι := Nat × Option Addr × Nat × Nat × List ByteArray × World) (fun x_ => match x_ with | (k, q_4, m_4, c_4, ys_4, wr) => (Ext w wr) ∧ (Own wr b1 ([.string x.Code, .string x.Found, .int .i64 x.Day, .int .i64 x.Seal, .slice p n c]) 49) ∧ (Ow strc 1 9 wr b4 wr.heap.size q_4 m_4 c_4 ys_4) ∧ (b4 ≤ wr.heap.size) ∧ (w4.heap.size ≤ wr.heap.size) ∧ (k ≤ n) ∧ (m_4 = k + 1) ∧ (ys_4 = hs x (k + 1))) (fun x_ => match x_ with | (k, q_4, m_4, c_4, ys_4, wr) => [(1, .pointer (some ⟨b1, 0, none⟩)), (4, .slice q_4 m_4 c_4), (5, .int .i64 (k : Int))]) (fun x_ => match x_ with | (k, q_4, m_4, c_4, ys_4, wr) => wr) (fun x_ => match x_ with | (k, q_4, m_4, c_4, ys_4, wr) => n + 1 - k) ?_ (0, (some ⟨b4, 0, none⟩), 1, 1, [x.Found], w4) (⟨E, O1, G4.wide (by omega) (by omega), by omega, Nat.le_refl _, by omega, by omega, (hs_one x).symm⟩) ⟨rfl, rfl, rfl, trivial⟩ rfl
      intro i_ hI_ hback7
      obtain ⟨k, q_4, m_4, c_4, ys_4, wr⟩ := i_
      obtain ⟨E, O_b1, G_4, lo_4, lz_wr, hk, hm, hg⟩ := hI_
      try dsimp only
      have zr := E.size
      have lt_b1 := O_b1.lt
      have lg_4 := G_4.len
      refine run_seq ?_
      refine run_seq ?_
      refine run_region ?_
      refine ov (xmove rfl) rfl rfl rfl ?_
      refine ov (xfieldAddr fo49f4 rfl) rfl rfl rfl ?_
      refine ov (v := .slice p n c) (xload1 Try.isAgg47 rfl (O_b1.cells) rfl) rfl rfl rfl ?_
      refine ov (xlen Try.underlying47 rfl) rfl rfl rfl ?_
      refine ov (xlss rfl rfl _ rfl) rfl rfl rfl ?_
      refine ods (fun c19 => ?_) (fun c19 => ?_)
      ·
        refine ops_nil ?_
        refine run_cond_t rfl ?_
        refine run_skip ?_
        refine run_seq ?_
        refine run_block ?_
        refine run_region ?_
        refine ov (xmove rfl) rfl rfl rfl ?_
        refine ov (xfieldAddr fo49f4 rfl) rfl rfl rfl ?_
        refine ov (v := .slice p n c) (xload1 Try.isAgg47 rfl (O_b1.cells) rfl) rfl rfl rfl ?_
        refine ov (xmove rfl) rfl rfl rfl ?_
        have h26 := (H.ext E).at (i := k) (by omega)
        refine ov (xindexN (i := k) Try.underlying47 Try.sizeOf77 rfl rfl rfl ((H.ext E).p (i := k) (by omega)) (by have := (H.ext E).len; omega)) rfl rfl rfl ?_
        refine ov (xfieldAddr fo77f2 rfl) rfl rfl rfl ?_
        refine ov (v := .string x.Chain[k].To) (xload1 Try.isAgg9 rfl (h26) rfl) rfl rfl rfl ?_
        refine obuild (cs := [.string x.Chain[k].To]) (sz := 1) Try.underlying66 inf9 rfl rfl (by decide) rfl rfl (by simp [Value.cells]) rfl rfl rfl ?_
        intro b5 w5 e5 hb5 hz5 O5
        have E := E.trans e5
        replace G_4 := G_4.ext e5
        replace O_b1 := O_b1.ext e5
        refine oapp (bytes := 16) (nm := (m_4 + 1)) G_4 rfl rfl elem9 (Own.sl1 (y := x.Chain[k].To) O5) (by intro h; cases h) (by intro y hy; rfl) (by intro y hy u hu; rw [List.mem_singleton] at hy; subst hy; revert u; simp [Value.oneCell', strc]) (by omega) (by omega) (by omega) (by omega) rfl rfl ?_
        intro p6 c6_ w6 m6 G6
        have hz6 := m6.size
        have E := m6.toExt E (by omega)
        try replace O_b1 := m6.own O_b1 (by omega)
        try replace O5 := m6.own O5 (by omega)
        refine ov (xassign rfl) rfl rfl rfl ?_
        refine ops_nil ?_
        refine run_inBlock ?_
        refine run_region ?_
        refine ov (xmove rfl) rfl rfl rfl ?_
        refine ov (xadd rfl rfl (by unfold I64; omega)) rfl rfl rfl ?_
        refine ov (xassign rfl) rfl rfl rfl ?_
        refine ops_nil ?_
        refine run_sub ?_ (hback7 (k + 1, p6, (m_4 + 1), c6_, ys_4 ++ [x.Chain[k].To], w6) (⟨E, O_b1, G6.wide (by omega) (by omega), by omega, by omega, by omega, by omega, hs_add hg (by omega)⟩) (by first | omega | (dsimp only; omega)))
        exact ⟨rfl, rfl, rfl, trivial⟩
      ·
        refine ops_nil ?_
        refine run_cond_f rfl ?_
        refine run_exit rfl ?_
        refine run_seq ?_
        refine run_region ?_
        refine ov (xmove rfl) rfl rfl rfl ?_
        refine ov (xassign rfl) rfl rfl rfl ?_
        refine ov (xassign rfl) rfl rfl rfl ?_
        refine ops_nil ?_
        refine run_ret Try.func47 (res2 rfl rfl rfl) ?_
        have he : holdersOf x = (ys_4, 0) := by unfold holdersOf; (repeat' split) <;> first | rfl | (exfalso; omega) | (exfalso; simp_all; done) | (rw [hg]; congr 2; omega)
        exact ⟨_, rfl, E, _, _, _, by rw [he], by rw [he]; exact G_4.wide (by omega) (by omega)⟩
  ·
    refine ov (xnot rfl) rfl rfl rfl ?_
    refine ops_nil ?_
    refine run_cond_t rfl ?_
    refine run_seq ?_
    refine run_region ?_
    refine ov (xassign rfl) rfl rfl rfl ?_
    refine ov (xassign rfl) rfl rfl rfl ?_
    refine ops_nil ?_
    refine run_ret Try.func47 (res2 rfl rfl rfl) ?_
    have he : holdersOf x = ([], 1) := by unfold holdersOf; (repeat' split) <;> first | rfl | (exfalso; omega) | (exfalso; simp_all; done) | (rw [hg]; congr 2; omega)
    exact ⟨_, rfl, E, none, 0, 0, by rw [he], by rw [he]; exact Ow.none _ _ _ _ _ _⟩
end Go.Proofs.Ytnjohcbamblilaa
