/-
  The number of all ways. No condition beyond those written in each theorem.
-/
import Derived.Test.YtinpkihmkfiidaaAllG
import Derived.Test.YtinpkihmkfiidaaRowF
import Derived.Test.YtinpkihmkfiidaaTail
namespace Go.Proofs.Ytinpkihmkfiidaa
open Go.RowKit
set_option linter.unusedVariables false
set_option linter.unusedSimpArgs false
set_option linter.unusedSectionVars false
set_option maxRecDepth 4000

set_option maxHeartbeats 400000 in
theorem l26None_ok (p : Option Addr) (n c : Nat) (xs : List Question) (w : World) (H : Sl Question.cells 3 w p n c xs) (hx : ∀ x ∈ xs, x.Label.size ≤ 9223372036854775807) (hl : xs.length ≤ 10) : Ret Try.prog 97 [.slice p n c] w (fun v w' => Ext w w' ∧ ∃ q m d, v = .slice q m d ∧ Ow i64c 1 2 w' w.heap.size w'.heap.size q m d (noneA xs)) := by
  refine ret_of_run (N := 14) Try.func97 rfl rfl rfl ?_
  have hn := H.len
  have hn6 := H.n64
  have E : Ext w w := Ext.refl w
  refine run_seq ?_
  refine run_region ?_
  refine ov (xassign rfl) rfl rfl rfl ?_
  refine ops_nil ?_
  refine run_seq ?_
  refine run_region ?_
  refine obuild (cs := []) (sz := 1) Try.underlying31 inf2 rfl rfl (by decide) rfl rfl (by simp [Value.cells]) rfl rfl rfl ?_
  intro b1 w1 e1 hb1 hz1 O1
  have E := E.trans e1
  have G1 : Ow i64c 1 2 w1 b1 (b1 + 1) (some ⟨b1, 0, none⟩) 0 0 ([] : List Int) := Own.ow (by simpa [i64c] using O1) rfl (by omega) (Nat.le_refl _) (by omega) (by intro x hx; rfl)
  refine ov (xassign rfl) rfl rfl rfl ?_
  refine ops_nil ?_
  refine run_seq ?_
  refine run_seq ?_
  refine run_region ?_
  refine ov (xmove rfl) rfl rfl rfl ?_
  refine ov (xlen Try.underlying25 rfl) rfl rfl rfl ?_
  refine ov (xmove rfl) rfl rfl rfl ?_
  refine ops_nil ?_
  refine run_block ?_
  refine run_loop (ι := Nat × Option Addr × Nat × Nat × List Int × World) (fun x_ => match x_ with | (k, q_3, m_3, c_3, ys_3, wr) => (Ext w wr) ∧ (Ow i64c 1 2 wr b1 wr.heap.size q_3 m_3 c_3 ys_3) ∧ (b1 ≤ wr.heap.size) ∧ (w1.heap.size ≤ wr.heap.size) ∧ (k ≤ n) ∧ (m_3 = k) ∧ (ys_3 = List.replicate k (-1))) (fun x_ => match x_ with | (k, q_3, m_3, c_3, ys_3, wr) => [(3, .slice q_3 m_3 c_3), (6, .int .i64 (n : Int)), (7, .int .i64 (k : Int))]) (fun x_ => match x_ with | (k, q_3, m_3, c_3, ys_3, wr) => wr) (fun x_ => match x_ with | (k, q_3, m_3, c_3, ys_3, wr) => n - k) ?_ (0, (some ⟨b1, 0, none⟩), 0, 0, [], w1) (⟨E, G1.wide (by omega) (by omega), by omega, Nat.le_refl _, by omega, rfl, rfl⟩) ⟨rfl, rfl, rfl, trivial⟩ rfl
  intro i_ hI_ hback3
  obtain ⟨k, q_3, m_3, c_3, ys_3, wr⟩ := i_
  obtain ⟨E, G_3, lo_3, lz_wr, hk, hm, hy⟩ := hI_
  try dsimp only
  have zr := E.size
  have lg_3 := G_3.len
  refine run_seq ?_
  refine run_region ?_
  refine ov (xlss rfl rfl _ rfl) rfl rfl rfl ?_
  refine ods (fun c8 => ?_) (fun c8 => ?_)
  ·
    refine ops_nil ?_
    refine run_seq ?_
    refine run_cond_t rfl ?_
    refine run_skip ?_
    refine run_seq ?_
    refine run_block ?_
    refine run_region ?_
    refine ov (xmove rfl) rfl rfl rfl ?_
    refine obuild (cs := [.int .i64 (-1)]) (sz := 1) Try.underlying31 inf2 rfl rfl (by decide) rfl rfl (by simp [Value.cells]) rfl rfl rfl ?_
    intro b2 w2 e2 hb2 hz2 O2
    have E := E.trans e2
    replace G_3 := G_3.ext e2
    refine oapp (bytes := 8) (nm := (m_3 + 1)) G_3 rfl rfl elem2 (Own.sl1 (y := (-1 : Int)) O2) (by intro h; cases h) (by intro y hy; rfl) (by intro y hy u hu; rw [List.mem_singleton] at hy; subst hy; revert u; simp [Value.oneCell', i64c]) (by omega) (by omega) (by omega) (by omega) rfl rfl ?_
    intro p3 c3_ w3 m3 G3
    have hz3 := m3.size
    have E := m3.toExt E (by omega)
    try replace O2 := m3.own O2 (by omega)
    refine ov (xassign rfl) rfl rfl rfl ?_
    refine ops_nil ?_
    refine run_inBlock ?_
    refine run_region ?_
    refine ov (xadd rfl rfl (by unfold I64; omega)) rfl rfl rfl ?_
    refine ov (xmove rfl) rfl rfl rfl ?_
    refine ops_nil ?_
    refine run_sub ?_ (hback3 (k + 1, p3, (m_3 + 1), c3_, ys_3 ++ [-1], w3) (⟨E, G3.wide (by omega) (by omega), by omega, by omega, by omega, by omega, by rw [hy, List.replicate_succ']⟩) (by first | omega | (dsimp only; omega)))
    exact ⟨rfl, rfl, rfl, trivial⟩
  ·
    refine ops_nil ?_
    refine run_seq ?_
    refine run_cond_f rfl ?_
    refine run_exit rfl ?_
    refine run_seq ?_
    refine run_region ?_
    refine ov (xmove rfl) rfl rfl rfl ?_
    refine ov (xassign rfl) rfl rfl rfl ?_
    refine ops_nil ?_
    refine run_ret Try.func97 (res1 rfl rfl) ?_
    obtain rfl : k = n := by omega
    exact ⟨_, rfl, E, _, _, _, rfl, by rw [noneA, ← hn, ← hy]; exact G_3.wide (by omega) (by omega)⟩

theorem lastQ_get {xs : List Question} {az : List Int} (hf : isForm xs = true) (hl : az.length = xs.length) (h : ¬ (wayF xs az).2 < 0) {m : Nat} (hm : m = (wayF xs az).1.length) :
    (∀ hi : m - 1 < (wayF xs az).1.length, (wayF xs az).1[m - 1] = ((lastQ (wayF xs az).1 : Nat) : Int)) ∧ lastQ (wayF xs az).1 < xs.length ∧ 1 ≤ m := by
  subst hm
  obtain ⟨l, v, hv, e, hz, hq⟩ := wayF_last hf hl h
  rw [hq]
  rw [e]
  exact ⟨fun hi => by simp, hv, by simp⟩
theorem lastQ_fuel {xs : List Question} {az : List Int} (hf : isForm xs = true) (hl : az.length = xs.length) (h : ¬ (wayF xs az).2 < 0) {g : Nat} (hq : xs.length ≤ lastQ (wayF xs az).1 + (g + 1)) {a : Int} (ha : 0 ≤ a) :
    xs.length ≤ lastQ (wayF xs (az.set (lastQ (wayF xs az).1) a)).1 + g ∨ (wayF xs (az.set (lastQ (wayF xs az).1) a)).2 < 0 := by
  by_cases h' : (wayF xs (az.set (lastQ (wayF xs az).1) a)).2 < 0
  · exact .inr h'
  · have := lastQ_step hf hl h ha rfl h'
    exact .inl (by omega)
theorem allG_f {xs : List Question} {g : Nat} {az : List Int} (h : ¬ (wayF xs az).2 < 0) : allG xs (g + 2) az = allG xs (g + 1) (az.set (lastQ (wayF xs az).1) 0) ++ allG xs (g + 1) (az.set (lastQ (wayF xs az).1) 1) := by
  rw [allG, if_neg h]
theorem allG_2048 (xs : List Question) {g : Nat} (hg : g ≤ 10) (az : List Int) : (allG xs (g + 1) az).length ≤ 2048 :=
  Nat.le_trans (allG_len xs (g + 1) az) (Nat.pow_le_pow_right (n := 2) (by omega) (by omega : g + 1 ≤ 11))
/-- what has come together when a answers have been tried -/
def allTo (xs : List Question) (g : Nat) (az : List Int) (a : Int) : List (List Int) := if a = 0 then [] else if a = 1 then allG xs (g + 1) (az.set (lastQ (wayF xs az).1) 0) else allG xs (g + 1) (az.set (lastQ (wayF xs az).1) 0) ++ allG xs (g + 1) (az.set (lastQ (wayF xs az).1) 1)
theorem allTo_step {xs : List Question} {g : Nat} {az : List Int} {a : Int} (h0 : 0 ≤ a) (h1 : a ≤ 1) : allTo xs g az a ++ allG xs (g + 1) (az.set (lastQ (wayF xs az).1) a) = allTo xs g az (a + 1) := by
  rcases (by omega : a = 0 ∨ a = 1) with rfl | rfl <;> simp [allTo]
theorem allTo_len (xs : List Question) {g : Nat} (hg : g ≤ 10) (az : List Int) (a : Int) : (allTo xs g az a).length ≤ 4096 := by
  have h1 := allG_2048 xs hg (az.set (lastQ (wayF xs az).1) 0)
  have h2 := allG_2048 xs hg (az.set (lastQ (wayF xs az).1) 1)
  unfold allTo; split
  · simp
  · split
    · omega
    · rw [List.length_append]; omega

set_option maxHeartbeats 2000000 in
theorem l26All_step (f : Nat) (hfu : f ≤ 10) (p : Option Addr) (n c : Nat) (xs : List Question) (hx : ∀ x ∈ xs, x.Label.size ≤ 9223372036854775807) (hf : isForm xs = true) (ih : ∀ g, f = g + 1 → ∀ (lo : Nat) (p2 : Option Addr) (n2 c2 : Nat) (az : List Int) (w : World), lo ≤ w.heap.size → Sl Question.cells 3 w p n c xs → areAns xs az = true → (xs.length ≤ lastQ (wayF xs az).1 + g ∨ (wayF xs az).2 < 0) → Ow i64c 1 2 w lo w.heap.size p2 n2 c2 az → Ret Try.prog 96 [.slice p n c, .slice p2 n2 c2] w (fun v w' => Ext w w' ∧ ∃ q m d ys, v = .slice q m d ∧ Ow (xc cellsInt64SS) 1 31 w' w.heap.size w'.heap.size q m d ys ∧ ys.map X.v = allG xs (g + 1) az ∧ In1 innInt64SS i64c 1 2 w' lo w'.heap.size ys)) (lo : Nat) (p2 : Option Addr) (n2 c2 : Nat) (az : List Int) (w : World) (hlo : lo ≤ w.heap.size) (H : Sl Question.cells 3 w p n c xs) (hA : areAns xs az = true) (hq : xs.length ≤ lastQ (wayF xs az).1 + f ∨ (wayF xs az).2 < 0) (K : Ow i64c 1 2 w lo w.heap.size p2 n2 c2 az) : Ret Try.prog 96 [.slice p n c, .slice p2 n2 c2] w (fun v w' => Ext w w' ∧ ∃ q m d ys, v = .slice q m d ∧ Ow (xc cellsInt64SS) 1 31 w' w.heap.size w'.heap.size q m d ys ∧ ys.map X.v = allG xs (f + 1) az ∧ In1 innInt64SS i64c 1 2 w' lo w'.heap.size ys) := by
  refine ret_of_run (N := 42) Try.func96 rfl rfl rfl ?_
  have hn := H.len
  have hn6 := H.n64
  have hn2 := K.len
  have hl := isForm_len hf
  have hal := areAns_len hA
  have hwg : (wayF xs az).1.length ≤ xs.length := wayG_ge xs az xs.length 0
  have E : Ext w w := Ext.refl w
  refine run_seq ?_
  refine run_region ?_
  refine ov (xassign rfl) rfl rfl rfl ?_
  refine ops_nil ?_
  refine run_seq ?_
  refine run_region ?_
  refine ov (xmove rfl) rfl rfl rfl ?_
  refine ov (xmove rfl) rfl rfl rfl ?_
  refine oc (xcall Try.call99 rfl) rfl rfl rfl (l26Way_ok _ _ _ _ _ _ _ _ _ (H.ext E) (by assumption) (K.sl.ext E) (by assumption) (by assumption)) ?_
  rintro _ w1 ⟨e1, q13, m13, d13, rfl, G13⟩
  have z1 := e1.size
  have E := E.trans e1
  refine ov (xmove rfl) rfl rfl rfl ?_
  refine ov (xextract rfl rfl) rfl rfl rfl ?_
  refine ov (xextract rfl rfl) rfl rfl rfl ?_
  refine ov (xassign rfl) rfl rfl rfl ?_
  refine ov (xassign rfl) rfl rfl rfl ?_
  refine ops_nil ?_
  refine run_seq ?_
  refine run_seq ?_
  refine run_region ?_
  refine ov (xmove rfl) rfl rfl rfl ?_
  refine ov (xlss rfl rfl _ rfl) rfl rfl rfl ?_
  refine ods (fun c17 => ?_) (fun c17 => ?_)
  ·
    refine ops_nil ?_
    refine run_cond_t rfl ?_
    refine run_seq ?_
    refine run_region ?_
    refine ov (xmove rfl) rfl rfl rfl ?_
    refine obuild (cs := [.slice p2 n2 c2]) (sz := 1) Try.underlying36 inf31 rfl rfl (by decide) rfl rfl (by simp [Value.cells]) rfl rfl rfl ?_
    intro b2 w2 e2 hb2 hz2 O2
    have E := E.trans e2
    replace G13 := G13.ext e2
    have G2 : Ow (xc cellsInt64SS) 1 31 w2 b2 (b2 + 1) (some ⟨b2, 0, none⟩) 1 1 [(⟨az, ⟨p2, n2, c2⟩⟩ : X (List Int))] := Own.ow (by simpa [xc, cellsInt64SS] using O2) rfl (by omega) (Nat.le_refl _) (by omega) (by intro x hx; rfl)
    refine ov (xassign rfl) rfl rfl rfl ?_
    refine ops_nil ?_
    refine run_ret Try.func96 (res1 rfl rfl) ?_
    have K1 := (K.ext E).wide (lo' := lo) (hi' := w2.heap.size) (by omega) (by omega)
    exact ⟨_, rfl, E, _, _, _, _, rfl, G2.wide (by omega) (by omega), by rw [allG, if_pos c17]; rfl, ⟨fun x m => by rw [List.mem_singleton] at m; subst m; exact K1⟩⟩
  ·
    obtain ⟨g, rfl⟩ : ∃ g, f = g + 1 := by
      rcases hq with h | h
      · obtain ⟨l_, v_, hv_, e_, hz_, hq_⟩ := wayF_last hf hal c17
        exact ⟨f - 1, by omega⟩
      · exact absurd h c17
    have ihg := ih g rfl
    have hqg : xs.length ≤ lastQ (wayF xs az).1 + (g + 1) := by
      rcases hq with h | h
      · exact h
      · exact absurd h c17
    obtain ⟨hlq1, hlq2, hlq3⟩ := lastQ_get hf hal c17 G13.len
    have hgl13 := G13.len
    refine ops_nil ?_
    refine run_cond_f rfl ?_
    refine run_skip ?_
    refine run_seq ?_
    refine run_region ?_
    refine obuild (cs := []) (sz := 1) Try.underlying36 inf31 rfl rfl (by decide) rfl rfl (by simp [Value.cells]) rfl rfl rfl ?_
    intro b2 w2 e2 hb2 hz2 O2
    have E := E.trans e2
    replace G13 := G13.ext e2
    have G2 : Ow (xc cellsInt64SS) 1 31 w2 b2 (b2 + 1) (some ⟨b2, 0, none⟩) 0 0 ([] : List (X (List Int))) := Own.ow (by simpa [xc, cellsInt64SS] using O2) rfl (by omega) (Nat.le_refl _) (by omega) (by intro x hx; rfl)
    refine ov (xassign rfl) rfl rfl rfl ?_
    refine ops_nil ?_
    refine run_seq ?_
    refine run_seq ?_
    refine run_region ?_
    refine ov (xassign rfl) rfl rfl rfl ?_
    refine ops_nil ?_
    refine run_block ?_
    refine run_loop (ι := Int × Option Addr × Nat × Nat × List (X (List Int)) × World) (fun x_ => match x_ with | (aa, q_7, m_7, c_7, ys_7, wr) => (Ext w wr) ∧ (In1 innInt64SS i64c 1 2 wr lo wr.heap.size ys_7) ∧ (Ow i64c 1 2 wr w.heap.size w1.heap.size q13 m13 d13 (wayF xs az).1) ∧ (Ow (xc cellsInt64SS) 1 31 wr b2 wr.heap.size q_7 m_7 c_7 ys_7) ∧ (b2 ≤ wr.heap.size) ∧ (w2.heap.size ≤ wr.heap.size) ∧ (0 ≤ aa) ∧ (aa ≤ 2) ∧ (ys_7.map X.v = allTo xs g az aa)) (fun x_ => match x_ with | (aa, q_7, m_7, c_7, ys_7, wr) => [(0, .slice p n c), (1, .slice p2 n2 c2), (5, .slice q13 m13 d13), (7, .slice q_7 m_7 c_7), (8, .int .i64 aa)]) (fun x_ => match x_ with | (aa, q_7, m_7, c_7, ys_7, wr) => wr) (fun x_ => match x_ with | (aa, q_7, m_7, c_7, ys_7, wr) => (2 - aa).toNat) ?_ (0, (some ⟨b2, 0, none⟩), 0, 0, [], w2) (⟨E, In1.nil, G13, G2.wide (by omega) (by omega), by omega, Nat.le_refl _, by omega, by omega, by simp [allTo]⟩) ⟨rfl, rfl, rfl, rfl, rfl, trivial⟩ rfl
    intro i_ hI_ hback6
    obtain ⟨aa, q_7, m_7, c_7, ys_7, wr⟩ := i_
    obtain ⟨E, I7, G13, G_7, lo_7, lz_wr, ha0, ha1, hy⟩ := hI_
    try dsimp only
    have zr := E.size
    have lg_7 := G_7.len
    refine run_seq ?_
    refine run_seq ?_
    refine run_region ?_
    refine ov (xmove rfl) rfl rfl rfl ?_
    refine ov (xleq rfl rfl _ rfl) rfl rfl rfl ?_
    refine ods (fun c22 => ?_) (fun c22 => ?_)
    ·
      refine ops_nil ?_
      refine run_cond_t rfl ?_
      refine run_skip ?_
      refine run_seq ?_
      refine run_block ?_
      refine run_seq ?_
      refine run_region ?_
      refine ov (xmove rfl) rfl rfl rfl ?_
      refine oc (xcall Try.call121 rfl) rfl rfl rfl (l01Own_ok _ _ _ _ _ (K.sl.ext E) K.sl.nil (by omega)) ?_
      rintro _ w3 ⟨e3, q26, c26_, rfl, G26⟩
      have z3 := e3.size
      have E := E.trans e3
      replace G_7 := G_7.ext e3
      replace I7 := I7.ext e3
      replace G13 := G13.ext e3
      refine ov (xassign rfl) rfl rfl rfl ?_
      refine ops_nil ?_
      refine run_seq ?_
      refine run_region ?_
      refine ov (xmove rfl) rfl rfl rfl ?_
      refine ov (xmove rfl) rfl rfl rfl ?_
      refine ov (xmove rfl) rfl rfl rfl ?_
      refine ov (xlen Try.underlying31 rfl) rfl rfl rfl ?_
      refine ov (xsub rfl rfl (by unfold I64; omega)) rfl rfl rfl ?_
      have h32 := (G13.sl).at (i := m13 - 1) (by omega)
      refine ov (xindexN (i := m13 - 1) Try.underlying31 Try.sizeOf2 rfl rfl (by omega) ((G13.sl).p (i := m13 - 1) (by omega)) (by have := (G13.sl).len; omega)) rfl rfl rfl ?_
      refine ov (v := .int .i64 (wayF xs az).1[m13 - 1]) (xloadz Try.isAgg2 rfl (h32) rfl) rfl rfl rfl ?_
      refine ov (xmove rfl) rfl rfl rfl ?_
      have hlq4 := hlq1 (by omega)
      have h35 := (G26.sl).at (i := lastQ (wayF xs az).1) (by omega)
      refine ov (xindexN (i := lastQ (wayF xs az).1) Try.underlying31 Try.sizeOf2 rfl rfl (by omega) ((G26.sl).p (i := lastQ (wayF xs az).1) (by omega)) (by have := (G26.sl).len; omega)) rfl rfl rfl ?_
      refine ostoreOw1 (i := lastQ (wayF xs az).1) (y := (aa)) Try.sizeOf2 G26 (by omega) rfl rfl rfl rfl rfl ?_
      intro w4 m4 g4
      have z4 := m4.size
      have E := m4.toExt E (by omega)
      replace G_7 := G_7.off m4 (by omega)
      replace I7 := I7.off m4 (by omega)
      replace G13 := G13.off m4 (by omega)
      replace G26 := g4
      refine ops_nil ?_
      refine run_region ?_
      refine ov (xmove rfl) rfl rfl rfl ?_
      refine ov (xmove rfl) rfl rfl rfl ?_
      refine ov (xmove rfl) rfl rfl rfl ?_
      refine oc (xcall Try.call96 rfl) rfl rfl rfl (ihg lo _ _ _ (az.set (lastQ (wayF xs az).1) aa) _ (by omega) (H.ext E) (areAns_set hA (by omega)) (lastQ_fuel hf hal c17 (by omega) (by omega)) (G26.wide (by omega) (by omega))) ?_
      rintro _ w5 ⟨e5, q39, m39, d39, ys39, rfl, G39, hv39, I39⟩
      have z5 := e5.size
      have E := E.trans e5
      replace G_7 := G_7.ext e5
      replace I7 := I7.ext e5
      replace G13 := G13.ext e5
      replace G26 := G26.ext e5
      have hl39 := allG_2048 xs (by omega : g ≤ 10) (az.set (lastQ (wayF xs az).1) aa)
      rw [← hv39, List.length_map, ← G39.len] at hl39
      have hl7 := allTo_len xs (by omega : g ≤ 10) az aa
      rw [← hy, List.length_map, ← lg_7] at hl7
      refine oapp1 (bytes := 24) (nm := (m_7 + m39)) G_7 rfl rfl elem31 (G39.sl) (ow_nil G39) (by intro y hy; rfl) (by intro y hy u hu; simp only [xc, cellsInt64SS, List.mem_singleton] at hu; subst hu; rfl) (by omega) (by omega) (by omega) rfl rfl rfl ?_
      intro p6 c6_ w6 m6 mn6 G6
      have hz6 := m6.size
      have E := m6.toExt E (by omega)
      have J7 := (I7.offT G_7 (by decide) mn6).wide (lo' := lo) (hi' := w6.heap.size) (by omega) (by omega)
      have J39 := (I39.offT G_7 (by decide) mn6).wide (lo' := lo) (hi' := w6.heap.size) (by omega) (by omega)
      have JJ := J7.app J39
      replace G13 := G13.off m6 (by omega)
      refine ov (xassign rfl) rfl rfl rfl ?_
      refine ops_nil ?_
      refine run_inBlock ?_
      refine run_region ?_
      refine ov (xmove rfl) rfl rfl rfl ?_
      refine ov (xadd rfl rfl (by unfold I64; omega)) rfl rfl rfl ?_
      refine ov (xassign rfl) rfl rfl rfl ?_
      refine ops_nil ?_
      refine run_sub ?_ (hback6 (aa + 1, p6, (m_7 + m39), c6_, ys_7 ++ ys39, w6) (⟨E, JJ, G13, G6.wide (by omega) (by omega), by omega, by omega, by omega, by omega, by rw [List.map_append, hy, hv39]; exact allTo_step (by omega) (by omega)⟩) (by first | omega | (dsimp only; omega)))
      exact ⟨rfl, rfl, rfl, rfl, rfl, trivial⟩
    ·
      refine ops_nil ?_
      refine run_cond_f rfl ?_
      refine run_exit rfl ?_
      refine run_seq ?_
      refine run_region ?_
      refine ov (xmove rfl) rfl rfl rfl ?_
      refine ov (xassign rfl) rfl rfl rfl ?_
      refine ops_nil ?_
      refine run_ret Try.func96 (res1 rfl rfl) ?_
      obtain rfl : aa = 2 := by omega
      exact ⟨_, rfl, E, _, _, _, _, rfl, G_7.wide (by omega) (by omega), by rw [hy, allG_f c17]; rfl, I7.wide (by omega) (by omega)⟩

theorem l26All_ok {p : Option Addr} {n c : Nat} {xs : List Question} (hx : ∀ x ∈ xs, x.Label.size ≤ 9223372036854775807) (hf : isForm xs = true) : ∀ (f : Nat), f ≤ 10 → ∀ (lo : Nat) (p2 : Option Addr) (n2 c2 : Nat) (az : List Int) (w : World), lo ≤ w.heap.size → Sl Question.cells 3 w p n c xs → areAns xs az = true → (xs.length ≤ lastQ (wayF xs az).1 + f ∨ (wayF xs az).2 < 0) → Ow i64c 1 2 w lo w.heap.size p2 n2 c2 az → Ret Try.prog 96 [.slice p n c, .slice p2 n2 c2] w (fun v w' => Ext w w' ∧ ∃ q m d ys, v = .slice q m d ∧ Ow (xc cellsInt64SS) 1 31 w' w.heap.size w'.heap.size q m d ys ∧ ys.map X.v = allG xs (f + 1) az ∧ In1 innInt64SS i64c 1 2 w' lo w'.heap.size ys)
  | 0, hfu => fun lo p2 n2 c2 az w hlo H hA hq K => l26All_step 0 hfu p n c xs hx hf (fun g e => by omega) lo p2 n2 c2 az w hlo H hA hq K
  | f + 1, hfu => fun lo p2 n2 c2 az w hlo H hA hq K => l26All_step (f + 1) hfu p n c xs hx hf (fun g e => by
      obtain rfl : f = g := by omega
      exact l26All_ok hx hf f (by omega)) lo p2 n2 c2 az w hlo H hA hq K

set_option maxHeartbeats 400000 in
theorem sCountWays_ok (p : Option Addr) (n c : Nat) (xs : List Question) (w : World) (H : Sl Question.cells 3 w p n c xs) (hx : ∀ x ∈ xs, x.Label.size ≤ 9223372036854775807) : Ret Try.prog 30 [.slice p n c] w (Pv w (.tuple #[.int .i64 (countWays xs).1, .int .i64 (countWays xs).2])) := by
  refine ret_of_run (N := 12) Try.func30 rfl rfl rfl ?_
  have hn := H.len
  have hn6 := H.n64
  have E : Ext w w := Ext.refl w
  refine run_seq ?_
  refine run_region ?_
  refine ov (xassign rfl) rfl rfl rfl ?_
  refine ov (xassign rfl) rfl rfl rfl ?_
  refine ops_nil ?_
  refine run_seq ?_
  refine run_seq ?_
  refine run_region ?_
  refine ov (xmove rfl) rfl rfl rfl ?_
  refine oc (xcall Try.call26 rfl) rfl rfl rfl (sIsForm_ok _ _ _ _ _ (H.ext E) (by assumption)) ?_
  rintro _ w1 ⟨rfl, e1⟩
  have z1 := e1.size
  have E := E.trans e1
  refine obs (fun c5 => ?_) (fun c5 => ?_)
  ·
    have hl := isForm_len c5
    refine ov (xnot rfl) rfl rfl rfl ?_
    refine ops_nil ?_
    refine run_cond_f rfl ?_
    refine run_skip ?_
    refine run_seq ?_
    refine run_region ?_
    refine ov (xmove rfl) rfl rfl rfl ?_
    refine ov (xmove rfl) rfl rfl rfl ?_
    refine oc (xcall Try.call97 rfl) rfl rfl rfl (l26None_ok _ _ _ _ _ (H.ext E) (by assumption) (by omega)) ?_
    rintro _ w2 ⟨e2, q9, m9, d9, rfl, G9⟩
    have z2 := e2.size
    have E := E.trans e2
    refine oc (xcall Try.call96 rfl) rfl rfl rfl (l26All_ok hx c5 xs.length (by omega) w.heap.size _ _ _ (noneA xs) _ (by omega) (H.ext E) (areAns_none xs) (.inl (by omega)) (G9.wide (by omega) (by omega))) ?_
    rintro _ w3 ⟨e3, q10, m10, d10, ys10, rfl, G10, hv10, I10⟩
    have z3 := e3.size
    have E := E.trans e3
    replace G9 := G9.ext e3
    refine ov (xlen Try.underlying36 rfl) rfl rfl rfl ?_
    refine ov (xassign rfl) rfl rfl rfl ?_
    refine ov (xassign rfl) rfl rfl rfl ?_
    refine ops_nil ?_
    refine run_ret Try.func30 (res2 rfl rfl rfl) ?_
    have hl10 := G10.len
    have hl12 := congrArg List.length hv10
    rw [List.length_map] at hl12
    have hl11 : m10 = cnt xs 0 := by rw [hl10, hl12]; exact allA_len c5
    exact ⟨_, rfl, by rw [countWays_ok c5, ← hl11], E⟩
  ·
    refine ov (xnot rfl) rfl rfl rfl ?_
    refine ops_nil ?_
    refine run_cond_t rfl ?_
    refine run_seq ?_
    refine run_region ?_
    refine ov (xassign rfl) rfl rfl rfl ?_
    refine ov (xassign rfl) rfl rfl rfl ?_
    refine ops_nil ?_
    refine run_ret Try.func30 (res2 rfl rfl rfl) ?_
    exact ⟨_, rfl, by rw [countWays, if_pos c5], E⟩

/-- the sum when j followers are counted -/
def cwPart (xs : List Question) (i : Nat) (j : Nat) : Int := match xs[i]? with
  | some q => if j = 0 then 0 else if j = 1 then cwAdd xs q.Yes else cwAdd xs q.Yes + cwAdd xs q.No
  | none => 0
theorem cwPart_step {xs : List Question} {i j : Nat} (hi : i < xs.length) (hj : j < 2) : cwPart xs i (j + 1) = cwPart xs i j + cwAdd xs (pick2 j xs[i].Yes xs[i].No) := by
  rcases (by omega : j = 0 ∨ j = 1) with rfl | rfl <;> simp [cwPart, hi, pick2]
theorem cwPart_all {xs : List Question} (hf : isForm xs = true) {i : Nat} (hi : i < xs.length) : cwPart xs i 2 = (cnt xs i : Int) := by
  rw [cnt_pos hf hi]; simp [cwPart, hi, cwAdd]; omega
theorem cwPart_le {xs : List Question} (hf : isForm xs = true) (i j : Nat) : 0 ≤ cwPart xs i j ∧ cwPart xs i j ≤ 2048 := by
  unfold cwPart
  split
  · rename_i q _
    have := cnt_le hf q.Yes; have := cnt_le hf q.No
    unfold cwAdd
    split
    · omega
    · split <;> omega
  · omega
theorem cwAdd_le {xs : List Question} (hf : isForm xs = true) (v : Int) : 0 ≤ cwAdd xs v ∧ cwAdd xs v ≤ 1024 := by have := cnt_le hf v; unfold cwAdd; omega
theorem cwL_zero {xs : List Question} {i : Nat} (hi : i < xs.length) : cwL xs i = (cwL xs i).set i (cwPart xs i 0) := by
  apply List.ext_getElem (by simp [cwL])
  intro j h1 h2
  rw [List.getElem_set]
  split
  · rename_i e; subst e; rw [cwL_at, cw, if_neg (by omega)]; simp [cwPart, hi]
  · rfl
theorem cw_step {xs : List Question} {ys : List Int} {i j : Nat} (h : ys = (cwL xs i).set i (cwPart xs i j)) {v : Int} (hv : v = cwPart xs i (j + 1)) : ys.set i v = (cwL xs i).set i (cwPart xs i (j + 1)) := by
  subst h; subst hv; simp
theorem pick2_next {xs : List Question} (hf : isForm xs = true) {i : Nat} (hi : i < xs.length) (j : Nat) : (pick2 j xs[i].Yes xs[i].No < 0) ∨ ((i : Int) + 1 ≤ pick2 j xs[i].Yes xs[i].No ∧ pick2 j xs[i].Yes xs[i].No ≤ (xs.length : Int) - 1) := by
  have n0 := isForm_next hf hi 0
  have n1 := isForm_next hf hi 1
  simp only [follows] at n0 n1
  unfold pick2
  split
  · rcases n1 with h | h; exact .inl h.1; exact .inr h
  · rcases n0 with h | h; exact .inl h.1; exact .inr h

set_option maxHeartbeats 2000000 in
theorem CountWays_ok (p : Option Addr) (n c : Nat) (xs : List Question) (w : World) (H : Sl Question.cells 3 w p n c xs) (hx : ∀ x ∈ xs, x.Label.size ≤ 9223372036854775807) : Ret Try.prog 31 [.slice p n c] w (Pv w (.tuple #[.int .i64 (countWays xs).1, .int .i64 (countWays xs).2])) := by
  refine ret_of_run (N := 57) Try.func31 rfl rfl rfl ?_
  have hn := H.len
  have hn6 := H.n64
  have E : Ext w w := Ext.refl w
  refine run_seq ?_
  refine run_region ?_
  refine ov (xassign rfl) rfl rfl rfl ?_
  refine ov (xassign rfl) rfl rfl rfl ?_
  refine ops_nil ?_
  refine run_seq ?_
  refine run_seq ?_
  refine run_region ?_
  refine ov (xmove rfl) rfl rfl rfl ?_
  refine oc (xcall Try.call28 rfl) rfl rfl rfl (IsForm_ok _ _ _ _ _ (H.ext E) (by assumption)) ?_
  rintro _ w1 ⟨rfl, e1⟩
  have z1 := e1.size
  have E := E.trans e1
  refine obs (fun c9 => ?_) (fun c9 => ?_)
  ·
    have hl := isForm_len c9
    refine ov (xnot rfl) rfl rfl rfl ?_
    refine ops_nil ?_
    refine run_cond_f rfl ?_
    refine run_skip ?_
    refine run_seq ?_
    refine run_region ?_
    refine ov (xmove rfl) rfl rfl rfl ?_
    refine ov (xlen Try.underlying25 rfl) rfl rfl rfl ?_
    refine omake (n := n) Try.underlying31 inf2 rfl rfl (by decide) rfl rfl rfl rfl (by simp only [Try.t2]; omega) (by omega) rfl rfl ?_
    intro b2 w2 e2 hb2 hz2 O2
    have E := E.trans e2
    replace O2 : Own w2 b2 (List.replicate (n) ([.int .i64 0] : List Value)).flatten 2 := O2
    have G2 : Ow i64c 1 2 w2 b2 (b2 + 1) (some ⟨b2, 0, none⟩) n n (List.replicate (n) (0 : Int)) := Own.ow (by simpa [i64c] using O2) (by simp) (by omega) (Nat.le_refl _) (by omega) (by intro x hx; rfl)
    refine ov (xassign rfl) rfl rfl rfl ?_
    refine ops_nil ?_
    refine run_seq ?_
    refine run_seq ?_
    refine run_region ?_
    refine ov (xmove rfl) rfl rfl rfl ?_
    refine ov (xlen Try.underlying25 rfl) rfl rfl rfl ?_
    refine ov (xsub rfl rfl (by unfold I64; omega)) rfl rfl rfl ?_
    refine ov (xassign rfl) rfl rfl rfl ?_
    refine ops_nil ?_
    refine run_block ?_
    refine run_loop (ι := Int × Option Addr × Nat × Nat × List Int × World) (fun x_ => match x_ with | (ii, q_4, m_4, c_4, ys_4, wr) => (Ext w wr) ∧ (Ow i64c 1 2 wr b2 wr.heap.size q_4 m_4 c_4 ys_4) ∧ (b2 ≤ wr.heap.size) ∧ (w2.heap.size ≤ wr.heap.size) ∧ (-1 ≤ ii) ∧ (ii < n) ∧ (m_4 = n) ∧ (ys_4 = cwL xs ii)) (fun x_ => match x_ with | (ii, q_4, m_4, c_4, ys_4, wr) => [(0, .slice p n c), (4, .slice q_4 m_4 c_4), (5, .int .i64 ii)]) (fun x_ => match x_ with | (ii, q_4, m_4, c_4, ys_4, wr) => wr) (fun x_ => match x_ with | (ii, q_4, m_4, c_4, ys_4, wr) => (ii + 1).toNat) ?_ ((n : Int) - 1, (some ⟨b2, 0, none⟩), n, n, (List.replicate n (0 : Int)), w2) (⟨E, G2.wide (by omega) (by omega), by omega, Nat.le_refl _, by omega, by omega, rfl, by rw [hn]; exact cwL_start xs (by omega)⟩) ⟨rfl, rfl, rfl, trivial⟩ rfl
    intro i_ hI_ hback5
    obtain ⟨ii, q_4, m_4, c_4, ys_4, wr⟩ := i_
    obtain ⟨E, G_4, lo_4, lz_wr, hi0, hi1, hm, hy⟩ := hI_
    try dsimp only
    have zr := E.size
    have lg_4 := G_4.len
    refine run_seq ?_
    refine run_seq ?_
    refine run_region ?_
    refine ov (xmove rfl) rfl rfl rfl ?_
    refine ov (xgeq rfl rfl _ rfl) rfl rfl rfl ?_
    refine ods (fun c18 => ?_) (fun c18 => ?_)
    ·
      obtain ⟨i, hi_⟩ : ∃ i : Nat, (i : Int) = ii := ⟨ii.toNat, by omega⟩
      refine ops_nil ?_
      refine run_cond_t rfl ?_
      refine run_skip ?_
      refine run_seq ?_
      refine run_block ?_
      refine run_seq ?_
      refine run_draw (by kernel_rfl) (by kernel_rfl) ?_
      refine qv (fun w' x_ => xmove rfl) rfl rfl rfl ?_
      refine qv (fun w' x_ => xmove rfl) rfl rfl rfl ?_
      have h23 := (H.ext E).at (i := i) (by omega)
      refine qv (fun w' x_ => xindexN (i := i) Try.underlying25 Try.sizeOf80 rfl rfl (by omega) ((H.ext E).p (i := i) (by omega)) (by have := (H.ext E).len; omega)) rfl rfl rfl ?_
      refine qv (fun w' x_ => xfieldAddr fo80f1 rfl) rfl rfl rfl ?_
      refine qv (v := .int .i64 xs[i].Yes) (fun w' x_ => xload1 Try.isAgg2 rfl ((h23).ext x_) rfl) rfl rfl rfl ?_
      refine qv (fun w' x_ => xmove rfl) rfl rfl rfl ?_
      refine qv (fun w' x_ => xmove rfl) rfl rfl rfl ?_
      have h28 := (H.ext E).at (i := i) (by omega)
      refine qv (fun w' x_ => xindexN (i := i) Try.underlying25 Try.sizeOf80 rfl rfl (by omega) ((H.ext E).p (i := i) (by omega)) (by have := (H.ext E).len; omega)) rfl rfl rfl ?_
      refine qv (fun w' x_ => xfieldAddr fo80f2 rfl) rfl rfl rfl ?_
      refine qv (v := .int .i64 xs[i].No) (fun w' x_ => xload1 Try.isAgg2 rfl ((h28).ext x_) rfl) rfl rfl rfl ?_
      refine qv (fun w' x_ => xbuild (vs := [.int .i64 xs[i].Yes, .int .i64 xs[i].No]) (cells := #[.int .i64 xs[i].Yes, .int .i64 xs[i].No]) rfl (by kernel_rfl)) rfl rfl rfl ?_
      refine qv (fun w' x_ => xmove rfl) rfl rfl rfl ?_
      refine q_nil ?_
      intro w3 e3
      have z3 := e3.size
      have E := E.trans e3
      replace G_4 := G_4.ext e3
      refine run_block ?_
      refine run_loop (ι := Nat × Option Addr × Nat × Nat × List Int × World) (fun x_ => match x_ with | (j, q_4, m_4, c_4, ys_4, wr2) => (Ext w wr2) ∧ (Ow i64c 1 2 wr2 b2 wr2.heap.size q_4 m_4 c_4 ys_4) ∧ (b2 ≤ wr2.heap.size) ∧ (w3.heap.size ≤ wr2.heap.size) ∧ (j ≤ 2) ∧ (m_4 = n) ∧ (ys_4 = (cwL xs i).set i (cwPart xs i j))) (fun x_ => match x_ with | (j, q_4, m_4, c_4, ys_4, wr2) => [(0, .slice p n c), (4, .slice q_4 m_4 c_4), (5, .int .i64 ii), (31, .agg #[.int .i64 xs[i].Yes, .int .i64 xs[i].No]), (32, .int .i64 (j : Int))]) (fun x_ => match x_ with | (j, q_4, m_4, c_4, ys_4, wr2) => wr2) (fun x_ => match x_ with | (j, q_4, m_4, c_4, ys_4, wr2) => 2 - j) ?_ (0, q_4, m_4, c_4, ys_4, w3) (⟨E, G_4.wide (by omega) (by omega), by omega, Nat.le_refl _, by omega, hm, by rw [hy, ← hi_]; exact cwL_zero (by omega)⟩) ⟨rfl, rfl, rfl, rfl, rfl, trivial⟩ rfl
      intro i_ hI_ hback8
      obtain ⟨j, q_4, m_4, c_4, ys_4, wr2⟩ := i_
      obtain ⟨E, G_4, lo_4, lz_wr2, hj, hm2, hyj⟩ := hI_
      try dsimp only
      have zr := E.size
      have lg_4 := G_4.len
      refine run_seq ?_
      refine run_region ?_
      refine ov (xlss rfl rfl _ rfl) rfl rfl rfl ?_
      refine ods (fun c33 => ?_) (fun c33 => ?_)
      ·
        have hcp := cwPart_le c9 i j
        have hca := cwAdd_le c9 (pick2 j xs[i].Yes xs[i].No)
        have hpn := pick2_next c9 (by omega : i < xs.length) j
        have hyi : ∀ h : i < ys_4.length, ys_4[i] = cwPart xs i j := fun h => by simp only [hyj, List.getElem_set_self]
        refine ops_nil ?_
        refine run_seq ?_
        refine run_cond_t rfl ?_
        refine run_skip ?_
        refine run_seq ?_
        refine run_block ?_
        refine run_seq ?_
        refine run_region ?_
        refine ov (xindexA2 (j := j) Try.underlying86 Try.sizeOf2 Try.isAgg2 rfl rfl rfl (by omega)) rfl rfl rfl ?_
        refine ov (xassign rfl) rfl rfl rfl ?_
        refine ops_nil ?_
        refine run_seq ?_
        refine run_region ?_
        refine ov (xmove rfl) rfl rfl rfl ?_
        refine ov (xlss rfl rfl _ rfl) rfl rfl rfl ?_
        refine ods (fun c36 => ?_) (fun c36 => ?_)
        ·
          refine ops_nil ?_
          refine run_cond_t rfl ?_
          refine run_region ?_
          refine ov (xmove rfl) rfl rfl rfl ?_
          refine ov (xmove rfl) rfl rfl rfl ?_
          have h39 := (G_4.sl).at (i := i) (by omega)
          refine ov (xindexN (i := i) Try.underlying31 Try.sizeOf2 rfl rfl (by omega) ((G_4.sl).p (i := i) (by omega)) (by have := (G_4.sl).len; omega)) rfl rfl rfl ?_
          have hyi2 := hyi (by omega)
          refine ov (v := .int .i64 ys_4[i]) (xloadz Try.isAgg2 rfl (h39) rfl) rfl rfl rfl ?_
          refine ov (xadd rfl rfl (by unfold I64; omega)) rfl rfl rfl ?_
          have h42 := (G_4.sl).at (i := i) (by omega)
          refine ov (xindexN (i := i) Try.underlying31 Try.sizeOf2 rfl rfl (by omega) ((G_4.sl).p (i := i) (by omega)) (by have := (G_4.sl).len; omega)) rfl rfl rfl ?_
          refine ostoreOw1 (i := i) (y := ((ys_4[i] + 1))) Try.sizeOf2 G_4 (by omega) rfl rfl rfl rfl rfl ?_
          intro w4 m4 g4
          have z4 := m4.size
          have E := m4.toExt E (by omega)
          replace G_4 := g4
          refine ops_nil ?_
          refine run_inBlock ?_
          refine run_region ?_
          refine ov (xadd rfl rfl (by unfold I64; omega)) rfl rfl rfl ?_
          refine ov (xmove rfl) rfl rfl rfl ?_
          refine ops_nil ?_
          refine run_sub ?_ (hback8 (j + 1, q_4, m_4, c_4, (ys_4.set i ((ys_4[i] + 1))), w4) (⟨E, G_4.wide (by omega) (by omega), by omega, by omega, by omega, by omega, cw_step hyj (by rw [cwPart_step (by omega) (by omega), hyi2, cwAdd_neg (by omega)])⟩) (by first | omega | (dsimp only; omega)))
          exact ⟨rfl, rfl, rfl, rfl, rfl, trivial⟩
        ·
          refine ops_nil ?_
          refine run_cond_f rfl ?_
          refine run_tail 10 (by kernel_rfl) (by kernel_rfl) ?_
          intro w4 e4
          have z4 := e4.size
          have E := E.trans e4
          replace G_4 := G_4.ext e4
          refine stv (xmove rfl) rfl rfl rfl ?_
          refine stv (xmove rfl) rfl rfl rfl ?_
          have h45 := (G_4.sl).at (i := i) (by omega)
          refine stv (xindexN (i := i) Try.underlying31 Try.sizeOf2 rfl rfl (by omega) ((G_4.sl).p (i := i) (by omega)) (by have := (G_4.sl).len; omega)) rfl rfl rfl ?_
          have hyi2 := hyi (by omega)
          refine stv (v := .int .i64 ys_4[i]) (xloadz Try.isAgg2 rfl (h45) rfl) rfl rfl rfl ?_
          refine stv (xmove rfl) rfl rfl rfl ?_
          refine stv (xmove rfl) rfl rfl rfl ?_
          have h49 := (G_4.sl).at (i := (pick2 j xs[i].Yes xs[i].No).toNat) (by omega)
          refine stv (xindexN (i := (pick2 j xs[i].Yes xs[i].No).toNat) Try.underlying31 Try.sizeOf2 rfl rfl (by omega) ((G_4.sl).p (i := (pick2 j xs[i].Yes xs[i].No).toNat) (by omega)) (by have := (G_4.sl).len; omega)) rfl rfl rfl ?_
          have hyv : ∀ h : (pick2 j xs[i].Yes xs[i].No).toNat < ys_4.length, ys_4[(pick2 j xs[i].Yes xs[i].No).toNat] = cwAdd xs (pick2 j xs[i].Yes xs[i].No) := fun h => by
            simp only [hyj]; rw [List.getElem_set_ne (by omega)]; exact cwAdd_at (by omega) (by rw [cwL_length]; omega)
          have hyv2 := hyv (by omega)
          refine stv (v := .int .i64 ys_4[(pick2 j xs[i].Yes xs[i].No).toNat]) (xloadz Try.isAgg2 rfl (h49) rfl) rfl rfl rfl ?_
          refine stv (xadd rfl rfl (by unfold I64; omega)) rfl rfl rfl ?_
          have h52 := (G_4.sl).at (i := i) (by omega)
          refine stv (xindexN (i := i) Try.underlying31 Try.sizeOf2 rfl rfl (by omega) ((G_4.sl).p (i := i) (by omega)) (by have := (G_4.sl).len; omega)) rfl rfl rfl ?_
          refine st_storeOw1 (i := i) (y := ((ys_4[i] + ys_4[(pick2 j xs[i].Yes xs[i].No).toNat]))) Try.sizeOf2 G_4 (by omega) rfl rfl rfl rfl rfl ?_
          intro w5 m5 g5
          have z5 := m5.size
          have E := m5.toExt E (by omega)
          replace G_4 := g5
          refine run_inBlock ?_
          refine run_region ?_
          refine ov (xadd rfl rfl (by unfold I64; omega)) rfl rfl rfl ?_
          refine ov (xmove rfl) rfl rfl rfl ?_
          refine ops_nil ?_
          refine run_sub ?_ (hback8 (j + 1, q_4, m_4, c_4, (ys_4.set i ((ys_4[i] + ys_4[(pick2 j xs[i].Yes xs[i].No).toNat]))), w5) (⟨E, G_4.wide (by omega) (by omega), by omega, by omega, by omega, by omega, cw_step hyj (by rw [cwPart_step (by omega) (by omega), hyi2, hyv2])⟩) (by first | omega | (dsimp only; omega)))
          exact ⟨rfl, rfl, rfl, rfl, rfl, trivial⟩
      ·
        refine ops_nil ?_
        refine run_seq ?_
        refine run_cond_f rfl ?_
        refine run_exit rfl ?_
        refine run_inBlock ?_
        refine run_region ?_
        refine ov (xmove rfl) rfl rfl rfl ?_
        refine ov (xsub rfl rfl (by unfold I64; omega)) rfl rfl rfl ?_
        refine ov (xassign rfl) rfl rfl rfl ?_
        refine ops_nil ?_
        refine run_sub ?_ (hback5 (ii - 1, q_4, m_4, c_4, ys_4, wr2) (⟨E, G_4.wide (by omega) (by omega), by omega, by omega, by omega, by omega, by omega, by rw [hyj, ← hi_, show j = 2 from by omega]; exact cwL_set (by omega) (cwPart_all c9 (by omega))⟩) (by first | omega | (dsimp only; omega)))
        exact ⟨rfl, rfl, rfl, trivial⟩
    ·
      refine ops_nil ?_
      refine run_cond_f rfl ?_
      refine run_exit rfl ?_
      refine run_seq ?_
      refine run_region ?_
      refine ov (xmove rfl) rfl rfl rfl ?_
      have h55 := (G_4.sl).at (i := 0) (by omega)
      refine ov (xindexN (i := 0) Try.underlying31 Try.sizeOf2 rfl rfl rfl ((G_4.sl).p (i := 0) (by omega)) (by have := (G_4.sl).len; omega)) rfl rfl rfl ?_
      refine ov (v := .int .i64 ys_4[0]) (xloadz Try.isAgg2 rfl (h55) rfl) rfl rfl rfl ?_
      refine ov (xassign rfl) rfl rfl rfl ?_
      refine ov (xassign rfl) rfl rfl rfl ?_
      refine ops_nil ?_
      refine run_ret Try.func31 (res2 rfl rfl rfl) ?_
      obtain rfl : ii = -1 := by omega
      have hz_ : ys_4[0]'(by omega) = (cnt xs 0 : Int) := by simp only [hy]; rw [cwL_at, cw, if_pos (by omega)]; rfl
      exact ⟨_, rfl, by rw [countWays_ok c9, hz_], E⟩
  ·
    refine ov (xnot rfl) rfl rfl rfl ?_
    refine ops_nil ?_
    refine run_cond_t rfl ?_
    refine run_seq ?_
    refine run_region ?_
    refine ov (xassign rfl) rfl rfl rfl ?_
    refine ov (xassign rfl) rfl rfl rfl ?_
    refine ops_nil ?_
    refine run_ret Try.func31 (res2 rfl rfl rfl) ?_
    exact ⟨_, rfl, by rw [countWays, if_pos c9], E⟩
end Go.Proofs.Ytinpkihmkfiidaa
