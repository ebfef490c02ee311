/-
  The verdicts with which ways end: the walk. No condition beyond those written in each theorem.
-/
import Derived.Test.YtinpkihmkfiidaaUseF
namespace Go.Proofs.Ytinpkihmkfiidaa
open Go.RowKit
set_option linter.unusedVariables false
set_option linter.unusedSimpArgs false
set_option linter.unusedSectionVars false
set_option maxRecDepth 4000

set_option maxHeartbeats 1000000 in
theorem sVerdictsOf_ok (p : Option Addr) (n c : Nat) (xs : List Question) (w : World) (H : Sl Question.cells 3 w p n c xs) (hx : ∀ x ∈ xs, x.Label.size ≤ 9223372036854775807) : Ret Try.prog 81 [.slice p n c] w (fun v w' => Ext w w' ∧ ∃ q m d, v = .tuple #[.slice q m d, .int .i64 (verdictsOf xs).2] ∧ Ow i64c 1 2 w' w.heap.size w'.heap.size q m d (verdictsOf xs).1) := by
  refine ret_of_run (N := 36) Try.func81 rfl rfl rfl ?_
  have hn := H.len
  have hn6 := H.n64
  have E : Ext w w := Ext.refl w
  refine run_seq ?_
  refine run_region ?_
  refine ov (xassign rfl) rfl rfl rfl ?_
  refine ov (xassign rfl) rfl rfl rfl ?_
  refine ops_nil ?_
  refine run_seq ?_
  refine run_seq ?_
  refine run_region ?_
  refine ov (xmove rfl) rfl rfl rfl ?_
  refine oc (xcall Try.call26 rfl) rfl rfl rfl (sIsForm_ok _ _ _ _ _ (H.ext E) (by assumption)) ?_
  rintro _ w1 ⟨rfl, e1⟩
  have z1 := e1.size
  have E := E.trans e1
  refine obs (fun c10 => ?_) (fun c10 => ?_)
  ·
    have hl := isForm_len c10
    refine ov (xnot rfl) rfl rfl rfl ?_
    refine ops_nil ?_
    refine run_cond_f rfl ?_
    refine run_skip ?_
    refine run_seq ?_
    refine run_region ?_
    refine obuild (cs := []) (sz := 1) Try.underlying31 inf2 rfl rfl (by decide) rfl rfl (by simp [Value.cells]) rfl rfl rfl ?_
    intro b2 w2 e2 hb2 hz2 O2
    have E := E.trans e2
    have G2 : Ow i64c 1 2 w2 b2 (b2 + 1) (some ⟨b2, 0, none⟩) 0 0 ([] : List Int) := Own.ow (by simpa [i64c] using O2) rfl (by omega) (Nat.le_refl _) (by omega) (by intro x hx; rfl)
    refine ov (xassign rfl) rfl rfl rfl ?_
    refine ops_nil ?_
    refine run_seq ?_
    refine run_region ?_
    refine ov (xmove rfl) rfl rfl rfl ?_
    refine ov (xmove rfl) rfl rfl rfl ?_
    refine oc (xcall Try.call97 rfl) rfl rfl rfl (l26None_ok _ _ _ _ _ (H.ext E) (by assumption) (by omega)) ?_
    rintro _ w3 ⟨e3, q15, m15, d15, rfl, G15⟩
    have z3 := e3.size
    have E := E.trans e3
    replace G2 := G2.ext e3
    refine oc (xcall Try.call96 rfl) rfl rfl rfl (l26All_ok hx c10 xs.length (by omega) w.heap.size _ _ _ (noneA xs) _ (by omega) (H.ext E) (areAns_none xs) (.inl (by omega)) (G15.wide (by omega) (by omega))) ?_
    rintro _ w4 ⟨e4, q16, m16, d16, ys16, rfl, G16, hv16, I16⟩
    have z4 := e4.size
    have E := E.trans e4
    replace G2 := G2.ext e4
    replace G15 := G15.ext e4
    have lG16 := G16.len
    have hl22 := allG_2048 xs (by omega : xs.length ≤ 10) (noneA xs)
    rw [← hv16, List.length_map] at hl22
    refine ov (xassign rfl) rfl rfl rfl ?_
    refine ops_nil ?_
    refine run_seq ?_
    refine run_seq ?_
    refine run_region ?_
    refine ov (xassign rfl) rfl rfl rfl ?_
    refine ops_nil ?_
    refine run_block ?_
    refine run_loop (ι := Nat × Option Addr × Nat × Nat × List Int × World) (fun x_ => match x_ with | (k, q_4, m_4, c_4, ys_4, wr) => (Ext w wr) ∧ (In1 innInt64SS i64c 1 2 wr w.heap.size wr.heap.size ys16) ∧ (Ow (xc cellsInt64SS) 1 31 wr w3.heap.size w4.heap.size q16 m16 d16 ys16) ∧ (Ow i64c 1 2 wr b2 wr.heap.size q_4 m_4 c_4 ys_4) ∧ (b2 ≤ wr.heap.size) ∧ (w4.heap.size ≤ wr.heap.size) ∧ (k ≤ m16) ∧ (m_4 ≤ k) ∧ (insAll [] (((allA xs).take k).map fun a => (wayF xs a).2) = ys_4)) (fun x_ => match x_ with | (k, q_4, m_4, c_4, ys_4, wr) => [(0, .slice p n c), (4, .slice q_4 m_4 c_4), (5, .slice q16 m16 d16), (6, .int .i64 (k : Int))]) (fun x_ => match x_ with | (k, q_4, m_4, c_4, ys_4, wr) => wr) (fun x_ => match x_ with | (k, q_4, m_4, c_4, ys_4, wr) => m16 - k) ?_ (0, (some ⟨b2, 0, none⟩), 0, 0, [], w4) (⟨E, I16.wide (by omega) (by omega), G16, G2.wide (by omega) (by omega), by omega, Nat.le_refl _, by omega, by omega, rfl⟩) ⟨rfl, rfl, rfl, rfl, trivial⟩ rfl
    intro i_ hI_ hback6
    obtain ⟨k, q_4, m_4, c_4, ys_4, wr⟩ := i_
    obtain ⟨E, I16, G16, G_4, lo_4, lz_wr, hk, hmk, hy⟩ := hI_
    try dsimp only
    have zr := E.size
    have lg_4 := G_4.len
    refine run_seq ?_
    refine run_seq ?_
    refine run_region ?_
    refine ov (xmove rfl) rfl rfl rfl ?_
    refine ov (xmove rfl) rfl rfl rfl ?_
    refine ov (xlen Try.underlying36 rfl) rfl rfl rfl ?_
    refine ov (xlss rfl rfl _ rfl) rfl rfl rfl ?_
    refine ods (fun c20 => ?_) (fun c20 => ?_)
    ·
      have hkl : k < ys16.length := by omega
      have hkm : ys16[k].v ∈ allA xs := by rw [allA, ← hv16]; exact List.mem_map.2 ⟨_, List.getElem_mem hkl, rfl⟩
      have hkA := (allA_tidy c10 hkm).1
      have hka2 : k < (allA xs).length := by rw [allA, ← hv16, List.length_map]; exact hkl
      have hka : (allA xs)[k] = ys16[k].v := by simp only [allA, ← hv16, List.getElem_map]
      have hil := insI_len ys_4 (wayF xs ys16[k].v).2
      refine ops_nil ?_
      refine run_cond_t rfl ?_
      refine run_skip ?_
      refine run_seq ?_
      refine run_block ?_
      refine run_seq ?_
      refine run_region ?_
      refine ov (xmove rfl) rfl rfl rfl ?_
      refine ov (xmove rfl) rfl rfl rfl ?_
      refine ov (xmove rfl) rfl rfl rfl ?_
      have h27 := (G16.sl).at (i := k) (by omega)
      refine ov (xindexN (i := k) Try.underlying36 Try.sizeOf31 rfl rfl rfl ((G16.sl).p (i := k) (by omega)) (by have := (G16.sl).len; omega)) rfl rfl rfl ?_
      refine ov (v := .slice ys16[k].h.p ys16[k].h.n ys16[k].h.c) (xloadz Try.isAgg31 rfl (h27) rfl) rfl rfl rfl ?_
      refine oc (xcall Try.call99 rfl) rfl rfl rfl (l26Way_ok _ _ _ _ _ _ _ ys16[k].v _ (H.ext E) (by assumption) ((I16.i ys16[k] (List.getElem_mem hkl)).sl) (by assumption) (by assumption)) ?_
      rintro _ w5 ⟨e5, q29, m29, d29, rfl, G29⟩
      have z5 := e5.size
      have E := E.trans e5
      replace G_4 := G_4.ext e5
      replace I16 := I16.ext e5
      replace G16 := G16.ext e5
      refine ov (xmove rfl) rfl rfl rfl ?_
      refine ov (xextract rfl rfl) rfl rfl rfl ?_
      refine ov (xextract rfl rfl) rfl rfl rfl ?_
      refine ov (xassign rfl) rfl rfl rfl ?_
      refine ov (xassign rfl) rfl rfl rfl ?_
      refine ops_nil ?_
      refine run_region ?_
      refine ov (xmove rfl) rfl rfl rfl ?_
      refine ov (xmove rfl) rfl rfl rfl ?_
      refine oc (xcall Try.call132 rfl) rfl rfl rfl (l07Insert_ok _ _ _ _ ((wayF xs ys16[k].v).2) _ _ _ G_4 (by omega) (by omega) (by omega)) ?_
      rintro _ w6 ⟨e6, q34, m34, d34, rfl, G34⟩
      have z6 := e6.size
      have E := E.trans e6
      replace G_4 := G_4.ext e6
      replace I16 := I16.ext e6
      replace G16 := G16.ext e6
      replace G29 := G29.ext e6
      have lG34 := G34.len
      refine ov (xassign rfl) rfl rfl rfl ?_
      refine ops_nil ?_
      refine run_inBlock ?_
      refine run_region ?_
      refine ov (xmove rfl) rfl rfl rfl ?_
      refine ov (xadd rfl rfl (by unfold I64; omega)) rfl rfl rfl ?_
      refine ov (xassign rfl) rfl rfl rfl ?_
      refine ops_nil ?_
      refine run_sub ?_ (hback6 (k + 1, q34, m34, d34, (insI ys_4 (wayF xs ys16[k].v).2), w6) (⟨E, I16.wide (by omega) (by omega), G16, G34.wide (by omega) (by omega), by omega, by omega, by omega, by omega, by rw [ins_step hka2 hy, hka]⟩) (by first | omega | (dsimp only; omega)))
      exact ⟨rfl, rfl, rfl, rfl, trivial⟩
    ·
      refine ops_nil ?_
      refine run_cond_f rfl ?_
      refine run_exit rfl ?_
      refine run_seq ?_
      refine run_region ?_
      refine ov (xmove rfl) rfl rfl rfl ?_
      refine ov (xassign rfl) rfl rfl rfl ?_
      refine ov (xassign rfl) rfl rfl rfl ?_
      refine ops_nil ?_
      refine run_ret Try.func81 (res2 rfl rfl rfl) ?_
      have hkk : (allA xs).take k = allA xs := List.take_of_length_le (by rw [allA, ← hv16, List.length_map]; omega)
      have he : verdictsOf xs = (ys_4, 0) := by rw [verdictsOf, if_neg (by simp [c10]), ← verdicts_eq c10, ← hkk, hy]
      exact ⟨_, rfl, E, _, _, _, by rw [he], by rw [he]; exact G_4.wide (by omega) (by omega)⟩
  ·
    refine ov (xnot rfl) rfl rfl rfl ?_
    refine ops_nil ?_
    refine run_cond_t rfl ?_
    refine run_seq ?_
    refine run_region ?_
    refine ov (xassign rfl) rfl rfl rfl ?_
    refine ov (xassign rfl) rfl rfl rfl ?_
    refine ops_nil ?_
    refine run_ret Try.func81 (res2 rfl rfl rfl) ?_
    have he : verdictsOf xs = ([], 1) := by rw [verdictsOf, if_pos c10]
    exact ⟨_, rfl, E, none, 0, 0, by rw [he], by rw [he]; exact Ow.none _ _ _ _ _ _⟩
end Go.Proofs.Ytinpkihmkfiidaa
