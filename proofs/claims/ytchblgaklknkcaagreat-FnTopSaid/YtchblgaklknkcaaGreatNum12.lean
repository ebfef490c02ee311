/-
  Draws of numbers, and lists of numbers: the walks. No condition beyond those written in each theorem.
-/
import Derived.Test.YtchblgaklknkcaaGreatJuryP
import Derived.Test.YtchblgaklknkcaaGreatHc
namespace Go.Proofs.YtchblgaklknkcaaGreat
open Go.RowKit
set_option linter.unusedVariables false
set_option linter.unusedSimpArgs false
set_option linter.unusedSectionVars false
set_option maxRecDepth 4000
set_option maxHeartbeats 400000 in
theorem next_ok (s : Int) (w : World) (h0 : 0 ≤ s) (h1 : s ≤ 2147483647) : Ret Tryz.prog 151 [.int .i64 s] w (Ps w (.int .i64 (nxS s))) := by
 refine ret_of_run (N := 6) Tryz.func151 rfl rfl rfl ?_
 have E : Ext w w := Ext.refl w
 refine sr_ ?_
 refine vn_ rfl rfl rfl ?_
 refine sr_ ?_
 refine vm_ rfl rfl rfl ?_
 refine oz_ (xmul rfl rfl (by unfold I64; omega)) rfl rfl ?_
 refine oz_ (xrem rfl rfl (by omega) (by omega)) rfl rfl ?_
 refine vn_ rfl rfl rfl ?_
 refine run_ret Tryz.func151 (res1 rfl rfl) ?_
 exact ⟨_, rfl, congrArg (Value.int .i64) (by unfold nxS; omega), rfl⟩
set_option maxHeartbeats 400000 in
theorem l03Next_ok (s : Int) (w : World) (h0 : 0 ≤ s) (h1 : s ≤ 2147483647) : Ret Tryz.prog 137 [.int .i64 s] w (Ps w (.int .i64 (nxS s))) := by
 refine ret_of_run (N := 6) Tryz.func137 rfl rfl rfl ?_
 have E : Ext w w := Ext.refl w
 refine sr_ ?_
 refine vn_ rfl rfl rfl ?_
 refine sr_ ?_
 refine vm_ rfl rfl rfl ?_
 refine oz_ (xmul rfl rfl (by unfold I64; omega)) rfl rfl ?_
 refine oz_ (xrem rfl rfl (by omega) (by omega)) rfl rfl ?_
 refine vn_ rfl rfl rfl ?_
 refine run_ret Tryz.func137 (res1 rfl rfl) ?_
 exact ⟨_, rfl, congrArg (Value.int .i64) (by unfold nxS; omega), rfl⟩
set_option maxHeartbeats 400000 in
theorem belowS_ok (s k : Int) (w : World) (h0 : 0 ≤ s) (h1 : s ≤ 2147483647) (k0 : 0 ≤ k) (k1 : k ≤ 1000) : Ret Tryz.prog 129 [.int .i64 s, .int .i64 k] w (Ps w (.tuple #[.int .i64 (nxS s * k / 2147483647), .int .i64 (nxS s)])) := by
 refine ret_of_run (N := 13) Tryz.func129 rfl rfl rfl ?_
 have hnx := nxS_le s
 have hmb := mulb hnx.1 hnx.2 k0 k1
 have E : Ext w w := Ext.refl w
 refine sr_ ?_
 refine va_ rfl rfl rfl ?_
 refine vn_ rfl rfl rfl ?_
 refine sr_ ?_
 refine vm_ rfl rfl rfl ?_
 refine oc (xcall Tryz.call151 rfl) rfl rfl rfl (next_ok (s) _ (by omega) (by omega)) ?_
 rintro _ w_ ⟨rfl, hw_⟩
 replace hw_ := hw_.symm
 subst hw_
 refine vn_ rfl rfl rfl ?_
 refine sr_ ?_
 refine vm_ rfl rfl rfl ?_
 refine vm_ rfl rfl rfl ?_
 refine oz_ (xmul rfl rfl (by unfold I64; omega)) rfl rfl ?_
 refine oz_ (xquo rfl rfl (by omega) (by omega) (by unfold I64; omega)) rfl rfl ?_
 refine vm_ rfl rfl rfl ?_
 refine va_ rfl rfl rfl ?_
 refine vn_ rfl rfl rfl ?_
 refine run_ret Tryz.func129 (res2 rfl rfl rfl) ?_
 exact ⟨_, rfl, rfl, rfl⟩
set_option maxHeartbeats 400000 in
theorem isSalt_ok (n : Int) (w : World) : Ret Tryz.prog 79 [.int .i64 n] w (Ps w (.bool (inR 0 2147483646 n))) := by
 refine ret_of_run (N := 5) Tryz.func79 rfl rfl rfl ?_
 have E : Ext w w := Ext.refl w
 refine sr_ ?_
 refine vn_ rfl rfl rfl ?_
 refine sr_ ?_
 refine vm_ rfl rfl rfl ?_
 refine oc (xcall Tryz.call65 rfl) rfl rfl rfl (within_ok (n) (0) (2147483646) _) ?_
 rintro _ w_ ⟨rfl, hw_⟩
 replace hw_ := hw_.symm
 subst hw_
 refine vn_ rfl rfl rfl ?_
 refine run_ret Tryz.func79 (res1 rfl rfl) ?_
 exact ⟨_, rfl, rfl, rfl⟩
set_option maxHeartbeats 400000 in
theorem isState_ok (n : Int) (w : World) : Ret Tryz.prog 80 [.int .i64 n] w (Ps w (.bool (inR 1 2147483646 n))) := by
 refine ret_of_run (N := 5) Tryz.func80 rfl rfl rfl ?_
 have E : Ext w w := Ext.refl w
 refine sr_ ?_
 refine vn_ rfl rfl rfl ?_
 refine sr_ ?_
 refine vm_ rfl rfl rfl ?_
 refine oc (xcall Tryz.call65 rfl) rfl rfl rfl (within_ok (n) (1) (2147483646) _) ?_
 rintro _ w_ ⟨rfl, hw_⟩
 replace hw_ := hw_.symm
 subst hw_
 refine vn_ rfl rfl rfl ?_
 refine run_ret Tryz.func80 (res1 rfl rfl) ?_
 exact ⟨_, rfl, rfl, rfl⟩
set_option maxHeartbeats 400000 in
theorem l03Is_ok (n : Int) (w : World) : Ret Tryz.prog 98 [.int .i64 n] w (Ps w (.bool (inR 1 2147483646 n))) := by
 refine ret_of_run (N := 5) Tryz.func98 rfl rfl rfl ?_
 have E : Ext w w := Ext.refl w
 refine sr_ ?_
 refine vn_ rfl rfl rfl ?_
 refine sr_ ?_
 refine vm_ rfl rfl rfl ?_
 refine oc (xcall Tryz.call68 rfl) rfl rfl rfl (l01In_ok (n) (1) (2147483646) _) ?_
 rintro _ w_ ⟨rfl, hw_⟩
 replace hw_ := hw_.symm
 subst hw_
 refine vn_ rfl rfl rfl ?_
 refine run_ret Tryz.func98 (res1 rfl rfl) ?_
 exact ⟨_, rfl, rfl, rfl⟩
set_option maxHeartbeats 400000 in
theorem isAlternates_ok (n : Int) (w : World) : Ret Tryz.prog 84 [.int .i64 n] w (Ps w (.bool (inR 0 6 n))) := by
 refine ret_of_run (N := 5) Tryz.func84 rfl rfl rfl ?_
 have E : Ext w w := Ext.refl w
 refine sr_ ?_
 refine vn_ rfl rfl rfl ?_
 refine sr_ ?_
 refine vm_ rfl rfl rfl ?_
 refine oc (xcall Tryz.call65 rfl) rfl rfl rfl (within_ok (n) (0) (6) _) ?_
 rintro _ w_ ⟨rfl, hw_⟩
 replace hw_ := hw_.symm
 subst hw_
 refine vn_ rfl rfl rfl ?_
 refine run_ret Tryz.func84 (res1 rfl rfl) ?_
 exact ⟨_, rfl, rfl, rfl⟩
set_option maxHeartbeats 400000 in
theorem commitment_ok (s t : Int) (w : World) (h0 : 0 ≤ s) (h1 : s ≤ 2147483647) (t0 : 0 ≤ t) (t1 : t ≤ 2147483647) : Ret Tryz.prog 85 [.int .i64 s, .int .i64 t] w (Ps w (.int .i64 (commit s t))) := by
 refine ret_of_run (N := 14) Tryz.func85 rfl rfl rfl ?_
 have E : Ext w w := Ext.refl w
 refine sr_ ?_
 refine vn_ rfl rfl rfl ?_
 refine sr_ ?_
 refine vm_ rfl rfl rfl ?_
 refine oz_ (xmul rfl rfl (by unfold I64; omega)) rfl rfl ?_
 refine vm_ rfl rfl rfl ?_
 refine oz_ (xadd rfl rfl (by unfold I64; omega)) rfl rfl ?_
 refine oz_ (xrem rfl rfl (by omega) (by omega)) rfl rfl ?_
 refine oz_ (xmul rfl rfl (by unfold I64; omega)) rfl rfl ?_
 refine vm_ rfl rfl rfl ?_
 refine oz_ (xadd rfl rfl (by unfold I64; omega)) rfl rfl ?_
 refine oz_ (xrem rfl rfl (by omega) (by omega)) rfl rfl ?_
 refine vn_ rfl rfl rfl ?_
 refine run_ret Tryz.func85 (res1 rfl rfl) ?_
 exact ⟨_, rfl, rfl, rfl⟩
set_option maxHeartbeats 400000 in
theorem l03Commit_ok (s t : Int) (w : World) (h0 : 0 ≤ s) (h1 : s ≤ 2147483647) (t0 : 0 ≤ t) (t1 : t ≤ 2147483647) : Ret Tryz.prog 113 [.int .i64 s, .int .i64 t] w (Ps w (.int .i64 (commit s t))) := by
 refine ret_of_run (N := 14) Tryz.func113 rfl rfl rfl ?_
 have E : Ext w w := Ext.refl w
 refine sr_ ?_
 refine vn_ rfl rfl rfl ?_
 refine sr_ ?_
 refine vm_ rfl rfl rfl ?_
 refine oz_ (xmul rfl rfl (by unfold I64; omega)) rfl rfl ?_
 refine vm_ rfl rfl rfl ?_
 refine oz_ (xadd rfl rfl (by unfold I64; omega)) rfl rfl ?_
 refine oz_ (xrem rfl rfl (by omega) (by omega)) rfl rfl ?_
 refine oz_ (xmul rfl rfl (by unfold I64; omega)) rfl rfl ?_
 refine vm_ rfl rfl rfl ?_
 refine oz_ (xadd rfl rfl (by unfold I64; omega)) rfl rfl ?_
 refine oz_ (xrem rfl rfl (by omega) (by omega)) rfl rfl ?_
 refine vn_ rfl rfl rfl ?_
 refine run_ret Tryz.func113 (res1 rfl rfl) ?_
 exact ⟨_, rfl, rfl, rfl⟩
set_option maxHeartbeats 1000000 in
theorem l03Shuffle_ok (s : Int) (n : Nat) (w : World) (h0 : 1 ≤ s) (h1 : s ≤ 2147483646) (hn : n ≤ 1000) : Ret Tryz.prog 123 [.int .i64 s, .int .i64 (n : Int)] w (fun v w' => Ext w w' ∧ ∃ q d, v = .slice q n d ∧ Ow i64c 1 2 w' w.heap.size w'.heap.size q n d (shF s n).1) := by
 refine ret_of_run (N := 52) Tryz.func123 rfl rfl rfl ?_
 have E : Ext w w := Ext.refl w
 refine sr_ ?_
 refine vn_ rfl rfl rfl ?_
 refine sr_ ?_
 refine obuild (cs := []) (sz := 1) Tryz.underlying24 inf2 rfl rfl (by decide) rfl rfl (by simp [Value.cells]) rfl rfl rfl ?_
 intro b1 w1 e1 hb1 hz1 O1
 have E := E.trans e1
 have G1 : Ow i64c 1 2 w1 b1 (b1 + 1) (some ⟨b1, 0, none⟩) 0 0 ([] : List Int) := Own.ow (by simpa [i64c] using O1) rfl (by omega) (Nat.le_refl _) (by omega) (by intro x hx; rfl)
 refine vn_ rfl rfl rfl ?_
 refine run_seq ?_
 refine sr_ ?_
 refine vn_ rfl rfl rfl ?_
 refine run_block ?_
 refine run_loop (ι := Nat × Option Addr × Nat × Nat × List Int × World) (fun x_ => match x_ with | (k, q_5, m_5, c_5, ys_5, wr) => (Ext w wr) ∧ (Ow i64c 1 2 wr b1 wr.heap.size q_5 m_5 c_5 ys_5) ∧ (b1 ≤ wr.heap.size) ∧ (w1.heap.size ≤ wr.heap.size) ∧ (k ≤ n) ∧ (m_5 = k) ∧ (ys_5 = upto k)) (fun x_ => match x_ with | (k, q_5, m_5, c_5, ys_5, wr) => [(0, .int .i64 s), (1, .int .i64 (n : Int)), (5, .slice q_5 m_5 c_5), (6, .int .i64 (k : Int))]) (fun x_ => match x_ with | (k, q_5, m_5, c_5, ys_5, wr) => wr) (fun x_ => match x_ with | (k, q_5, m_5, c_5, ys_5, wr) => n - k) ?_ (0, (some ⟨b1, 0, none⟩), 0, 0, [], w1) (⟨E, G1.wide (by omega) (by omega), by omega, Nat.le_refl _, by omega, rfl, rfl⟩) ⟨rfl, rfl, rfl, rfl, trivial⟩ rfl
 intro i_ hI_ hback3
 obtain ⟨k, q_5, m_5, c_5, ys_5, wr⟩ := i_
 obtain ⟨E, G_5, lo_5, lz_wr, hk, hm5, hy⟩ := hI_
 try dsimp only
 have zr := E.size
 have lg_5 := G_5.len
 refine run_seq ?_
 refine sr_ ?_
 refine vm_ rfl rfl rfl ?_
 refine vm_ rfl rfl rfl ?_
 refine oz_ (xlss rfl rfl _ rfl) rfl rfl ?_
 refine ods (fun c13 => ?_) (fun c13 => ?_)
 ·
  refine ct_ rfl ?_
  refine run_skip ?_
  refine run_seq ?_
  refine run_block ?_
  refine run_region ?_
  refine vm_ rfl rfl rfl ?_
  refine vm_ rfl rfl rfl ?_
  refine obuild (cs := [.int .i64 (k : Int)]) (sz := 1) Tryz.underlying24 inf2 rfl rfl (by decide) rfl rfl (by simp [Value.cells]) rfl rfl rfl ?_
  intro b2 w2 e2 hb2 hz2 O2
  have E := E.trans e2
  replace G_5 := G_5.ext e2
  refine oapp (bytes := 8) (nm := (m_5 + 1)) G_5 rfl rfl elem2 (Own.sl1 (y := (k : Int)) O2) (by intro h; cases h) (by intro y hy; rfl) (by intro y hy u hu; rw [List.mem_singleton] at hy; subst hy; revert u; simp [Value.oneCell', i64c]) (by omega) (by omega) (by omega) (by omega) rfl rfl ?_
  intro p3 c3_ w3 m3 G3
  have hz3 := m3.size
  have E := m3.toExt E (by omega)
  refine vn_ rfl rfl rfl ?_
  refine run_inBlock ?_
  refine run_region ?_
  refine vm_ rfl rfl rfl ?_
  refine oz_ (xadd rfl rfl (by unfold I64; omega)) rfl rfl ?_
  refine vn_ rfl rfl rfl ?_
  refine run_sub ?_ (hback3 (k + 1, p3, (m_5 + 1), c3_, (ys_5 ++ [(k : Int)]), w3) (⟨E, G3.wide (by omega) (by omega), by omega, by omega, by omega, by omega, by rw [hy, upto_succ]⟩) (by first | omega | (dsimp only; omega)))
  exact ⟨rfl, rfl, rfl, rfl, trivial⟩
 refine cg_ rfl ?_
 refine run_exit rfl ?_
 refine run_seq ?_
 refine sr_ ?_
 refine vn_ rfl rfl rfl ?_
 refine run_block ?_
 refine run_loop (ι := Nat × Int × Option Addr × Nat × Nat × List Int × World) (fun x_ => match x_ with | (i, st, q_5, m_5, c_5, ys_5, wr2) => (Ext w wr2) ∧ (Ow i64c 1 2 wr2 b1 wr2.heap.size q_5 m_5 c_5 ys_5) ∧ (b1 ≤ wr2.heap.size) ∧ (wr.heap.size ≤ wr2.heap.size) ∧ (i ≤ n) ∧ (m_5 = n) ∧ (0 ≤ st) ∧ (st ≤ 2147483647) ∧ (shG n (n - 1 - i) i st ys_5 = shF s n)) (fun x_ => match x_ with | (i, st, q_5, m_5, c_5, ys_5, wr2) => [(0, .int .i64 st), (1, .int .i64 (n : Int)), (5, .slice q_5 m_5 c_5), (7, .int .i64 (i : Int))]) (fun x_ => match x_ with | (i, st, q_5, m_5, c_5, ys_5, wr2) => wr2) (fun x_ => match x_ with | (i, st, q_5, m_5, c_5, ys_5, wr2) => n - i) ?_ (0, s, q_5, m_5, c_5, ys_5, wr) (⟨E, G_5.wide (by omega) (by omega), by omega, Nat.le_refl _, by omega, by omega, by omega, by omega, by rw [hy, show k = n by omega]; rfl⟩) ⟨rfl, rfl, rfl, rfl, trivial⟩ rfl
 intro i_ hI_ hback7
 obtain ⟨i, st, q_5, m_5, c_5, ys_5, wr2⟩ := i_
 obtain ⟨E, G_5, lo_5, lz_wr2, hi2, hm2, hs0, hs1, hsh⟩ := hI_
 try dsimp only
 have zr := E.size
 have lg_5 := G_5.len
 obtain ⟨pk, hpk⟩ : ∃ pk, pk = plS n i st := ⟨_, rfl⟩
 refine run_seq ?_
 refine sr_ ?_
 refine vm_ rfl rfl rfl ?_
 refine oz_ (xadd rfl rfl (by unfold I64; omega)) rfl rfl ?_
 refine vm_ rfl rfl rfl ?_
 refine oz_ (xlss rfl rfl _ rfl) rfl rfl ?_
 refine ods (fun c23 => ?_) (fun c23 => ?_)
 rotate_left
 ·
  refine cg_ rfl ?_
  refine run_exit rfl ?_
  refine sr_ ?_
  refine vm_ rfl rfl rfl ?_
  refine vn_ rfl rfl rfl ?_
  refine run_ret Tryz.func123 (res1 rfl rfl) ?_
  have hz : n - 1 - i = 0 := by omega
  rw [hz, shG] at hsh
  exact ⟨_, rfl, E, q_5, c_5, by rw [hm2], by rw [← hsh]; subst hm2; exact G_5.wide (by omega) (by omega)⟩
 have hpl := plS_lt (s := st) (show i < n by omega)
 have hpi := plS_int (s := st) (show i < n by omega)
 rw [← hpk] at hpl hpi
 have hmb := mulb (nxS_le st).1 (nxS_le st).2 (b := (n : Int) - i) (by omega) (by omega)
 have hpn := plS_nn (s := st) (show i < n by omega)
 refine ct_ rfl ?_
 refine run_skip ?_
 refine run_seq ?_
 refine run_block ?_
 refine sr_ ?_
 refine vm_ rfl rfl rfl ?_
 refine oc (xcall Tryz.call137 rfl) rfl rfl rfl (l03Next_ok (st) _ (by omega) (by omega)) ?_
 rintro _ w_ ⟨rfl, hw_⟩
 replace hw_ := hw_.symm
 subst hw_
 refine vn_ rfl rfl rfl ?_
 refine sr_ ?_
 refine vm_ rfl rfl rfl ?_
 refine vm_ rfl rfl rfl ?_
 refine vm_ rfl rfl rfl ?_
 refine vm_ rfl rfl rfl ?_
 refine oz_ (xsub rfl rfl (by unfold I64; omega)) rfl rfl ?_
 refine oz_ (xmul rfl rfl (by unfold I64; omega)) rfl rfl ?_
 refine oz_ (xquo rfl rfl (by omega) (by omega) (by unfold I64; omega)) rfl rfl ?_
 refine oz_ (v := .int .i64 (pk : Int)) ((by rw [hpi]; exact xadd rfl rfl (by unfold I64; omega))) rfl rfl ?_
 refine vn_ rfl rfl rfl ?_
 refine sr_ ?_
 refine vm_ rfl rfl rfl ?_
 refine vm_ rfl rfl rfl ?_
 have h38 := (G_5.sl).at (i := i) (by omega)
 refine oz_ (xindexN (i := i) Tryz.underlying24 Tryz.sizeOf2 rfl rfl rfl ((G_5.sl).p (i := i) (by omega)) (by have := (G_5.sl).len; omega)) rfl rfl ?_
 refine oz_ (v := .int .i64 ys_5[i]) (xloadz Tryz.isAgg2 rfl (h38) rfl) rfl rfl ?_
 refine vn_ rfl rfl rfl ?_
 refine sr_ ?_
 refine vm_ rfl rfl rfl ?_
 refine vm_ rfl rfl rfl ?_
 refine vm_ rfl rfl rfl ?_
 refine vm_ rfl rfl rfl ?_
 have h44 := (G_5.sl).at (i := pk) (by omega)
 refine oz_ (xindexN (i := pk) Tryz.underlying24 Tryz.sizeOf2 rfl rfl rfl ((G_5.sl).p (i := pk) (by omega)) (by have := (G_5.sl).len; omega)) rfl rfl ?_
 refine oz_ (v := .int .i64 ys_5[pk]) (xloadz Tryz.isAgg2 rfl (h44) rfl) rfl rfl ?_
 have h46 := (G_5.sl).at (i := i) (by omega)
 refine oz_ (xindexN (i := i) Tryz.underlying24 Tryz.sizeOf2 rfl rfl rfl ((G_5.sl).p (i := i) (by omega)) (by have := (G_5.sl).len; omega)) rfl rfl ?_
 refine ostoreOw1 (i := i) (y := (ys_5[pk])) Tryz.sizeOf2 G_5 (by omega) rfl rfl rfl rfl rfl ?_
 intro w2 m2 g2
 have z2 := m2.size
 have E := m2.toExt E (by omega)
 replace G_5 := g2
 refine ops_nil ?_
 refine run_region ?_
 refine vm_ rfl rfl rfl ?_
 refine vm_ rfl rfl rfl ?_
 refine vm_ rfl rfl rfl ?_
 have lGb := G_5.len
 have h50 := (G_5.sl).at (i := pk) (by omega)
 refine oz_ (xindexN (i := pk) Tryz.underlying24 Tryz.sizeOf2 rfl rfl rfl ((G_5.sl).p (i := pk) (by omega)) (by have := (G_5.sl).len; omega)) rfl rfl ?_
 refine ostoreOw1 (i := pk) (y := (ys_5[i])) Tryz.sizeOf2 G_5 (by omega) rfl rfl rfl rfl rfl ?_
 intro w3 m3 g3
 have z3 := m3.size
 have E := m3.toExt E (by omega)
 replace G_5 := g3
 refine ops_nil ?_
 refine run_inBlock ?_
 refine run_region ?_
 refine vm_ rfl rfl rfl ?_
 refine oz_ (xadd rfl rfl (by unfold I64; omega)) rfl rfl ?_
 refine vn_ rfl rfl rfl ?_
 have hgo : n - 1 - i = (n - 1 - (i + 1)) + 1 := by omega
 have hsh2 := hsh
 rw [hgo, shG] at hsh2
 refine run_sub ?_ (hback7 (i + 1, nxS st, q_5, m_5, c_5, ((ys_5.set i (ys_5[pk])).set pk (ys_5[i])), w3) (⟨E, G_5.wide (by omega) (by omega), by omega, by omega, by omega, by omega, by have := nxS_le st; omega, by have := nxS_le st; omega, by rw [← hsh2, swapL, atI_of (by omega), atI_of (by omega)]; congr 1; (try subst hpk); rfl⟩) (by first | omega | (dsimp only; omega)))
 exact ⟨rfl, rfl, rfl, rfl, trivial⟩
set_option maxHeartbeats 1000000 in
theorem shuffled_ok (s : Int) (n : Nat) (w : World) (h0 : 1 ≤ s) (h1 : s ≤ 2147483646) (hn : n ≤ 1000) : Ret Tryz.prog 115 [.int .i64 s, .int .i64 (n : Int)] w (fun v w' => Ext w w' ∧ ∃ q d st, v = .tuple #[.slice q n d, .int .i64 st] ∧ Ow i64c 1 2 w' w.heap.size w'.heap.size q n d (shF s n).1) := by
 refine ret_of_run (N := 56) Tryz.func115 rfl rfl rfl ?_
 have E : Ext w w := Ext.refl w
 refine sr_ ?_
 refine va_ rfl rfl rfl ?_
 refine vn_ rfl rfl rfl ?_
 refine sr_ ?_
 refine obuild (cs := []) (sz := 1) Tryz.underlying24 inf2 rfl rfl (by decide) rfl rfl (by simp [Value.cells]) rfl rfl rfl ?_
 intro b1 w1 e1 hb1 hz1 O1
 have E := E.trans e1
 have G1 : Ow i64c 1 2 w1 b1 (b1 + 1) (some ⟨b1, 0, none⟩) 0 0 ([] : List Int) := Own.ow (by simpa [i64c] using O1) rfl (by omega) (Nat.le_refl _) (by omega) (by intro x hx; rfl)
 refine vn_ rfl rfl rfl ?_
 refine run_seq ?_
 refine sr_ ?_
 refine vm_ rfl rfl rfl ?_
 refine vm_ rfl rfl rfl ?_
 refine ops_nil ?_
 refine run_block ?_
 refine run_loop (ι := Nat × Option Addr × Nat × Nat × List Int × World) (fun x_ => match x_ with | (k, q_6, m_6, c_6, ys_6, wr) => (Ext w wr) ∧ (Ow i64c 1 2 wr b1 wr.heap.size q_6 m_6 c_6 ys_6) ∧ (b1 ≤ wr.heap.size) ∧ (w1.heap.size ≤ wr.heap.size) ∧ (k ≤ n) ∧ (m_6 = k) ∧ (ys_6 = upto k)) (fun x_ => match x_ with | (k, q_6, m_6, c_6, ys_6, wr) => [(0, .int .i64 s), (1, .int .i64 (n : Int)), (6, .slice q_6 m_6 c_6), (12, .int .i64 (n : Int)), (13, .int .i64 (k : Int))]) (fun x_ => match x_ with | (k, q_6, m_6, c_6, ys_6, wr) => wr) (fun x_ => match x_ with | (k, q_6, m_6, c_6, ys_6, wr) => n - k) ?_ (0, (some ⟨b1, 0, none⟩), 0, 0, [], w1) (⟨E, G1.wide (by omega) (by omega), by omega, Nat.le_refl _, by omega, rfl, rfl⟩) ⟨rfl, rfl, rfl, rfl, rfl, trivial⟩ rfl
 intro i_ hI_ hback3
 obtain ⟨k, q_6, m_6, c_6, ys_6, wr⟩ := i_
 obtain ⟨E, G_6, lo_6, lz_wr, hk, hm6, hy⟩ := hI_
 try dsimp only
 have zr := E.size
 have lg_6 := G_6.len
 refine sr_ ?_
 refine oz_ (xlss rfl rfl _ rfl) rfl rfl ?_
 refine ods (fun c14 => ?_) (fun c14 => ?_)
 ·
  refine ops_nil ?_
  refine run_seq ?_
  refine run_cond_t rfl ?_
  refine run_skip ?_
  refine run_seq ?_
  refine run_block ?_
  refine sr_ ?_
  refine vm_ rfl rfl rfl ?_
  refine vn_ rfl rfl rfl ?_
  refine run_region ?_
  refine vm_ rfl rfl rfl ?_
  refine vm_ rfl rfl rfl ?_
  refine obuild (cs := [.int .i64 (k : Int)]) (sz := 1) Tryz.underlying24 inf2 rfl rfl (by decide) rfl rfl (by simp [Value.cells]) rfl rfl rfl ?_
  intro b2 w2 e2 hb2 hz2 O2
  have E := E.trans e2
  replace G_6 := G_6.ext e2
  refine oapp (bytes := 8) (nm := (m_6 + 1)) G_6 rfl rfl elem2 (Own.sl1 (y := (k : Int)) O2) (by intro h; cases h) (by intro y hy; rfl) (by intro y hy u hu; rw [List.mem_singleton] at hy; subst hy; revert u; simp [Value.oneCell', i64c]) (by omega) (by omega) (by omega) (by omega) rfl rfl ?_
  intro p3 c3_ w3 m3 G3
  have hz3 := m3.size
  have E := m3.toExt E (by omega)
  refine vn_ rfl rfl rfl ?_
  refine run_inBlock ?_
  refine run_region ?_
  refine oz_ (xadd rfl rfl (by unfold I64; omega)) rfl rfl ?_
  refine vm_ rfl rfl rfl ?_
  refine ops_nil ?_
  refine run_sub ?_ (hback3 (k + 1, p3, (m_6 + 1), c3_, (ys_6 ++ [(k : Int)]), w3) (⟨E, G3.wide (by omega) (by omega), by omega, by omega, by omega, by omega, by rw [hy, upto_succ]⟩) (by first | omega | (dsimp only; omega)))
  exact ⟨rfl, rfl, rfl, rfl, rfl, trivial⟩
 refine ops_nil ?_
 refine run_seq ?_
 refine run_cond_f rfl ?_
 refine run_exit rfl ?_
 refine run_seq ?_
 refine sr_ ?_
 refine vn_ rfl rfl rfl ?_
 refine run_block ?_
 refine run_loop (ι := Nat × Int × Option Addr × Nat × Nat × List Int × World) (fun x_ => match x_ with | (i, st, q_6, m_6, c_6, ys_6, wr2) => (Ext w wr2) ∧ (Ow i64c 1 2 wr2 b1 wr2.heap.size q_6 m_6 c_6 ys_6) ∧ (b1 ≤ wr2.heap.size) ∧ (wr.heap.size ≤ wr2.heap.size) ∧ (i ≤ n) ∧ (m_6 = n) ∧ (0 ≤ st) ∧ (st ≤ 2147483647) ∧ (shG n (n - 1 - i) i st ys_6 = shF s n)) (fun x_ => match x_ with | (i, st, q_6, m_6, c_6, ys_6, wr2) => [(0, .int .i64 st), (1, .int .i64 (n : Int)), (6, .slice q_6 m_6 c_6), (8, .int .i64 (i : Int))]) (fun x_ => match x_ with | (i, st, q_6, m_6, c_6, ys_6, wr2) => wr2) (fun x_ => match x_ with | (i, st, q_6, m_6, c_6, ys_6, wr2) => n - i) ?_ (0, s, q_6, m_6, c_6, ys_6, wr) (⟨E, G_6.wide (by omega) (by omega), by omega, Nat.le_refl _, by omega, by omega, by omega, by omega, by rw [hy, show k = n by omega]; rfl⟩) ⟨rfl, rfl, rfl, rfl, trivial⟩ rfl
 intro i_ hI_ hback8
 obtain ⟨i, st, q_6, m_6, c_6, ys_6, wr2⟩ := i_
 obtain ⟨E, G_6, lo_6, lz_wr2, hi2, hm2, hs0, hs1, hsh⟩ := hI_
 try dsimp only
 have zr := E.size
 have lg_6 := G_6.len
 obtain ⟨pk, hpk⟩ : ∃ pk, pk = plS n i st := ⟨_, rfl⟩
 refine run_seq ?_
 refine sr_ ?_
 refine vm_ rfl rfl rfl ?_
 refine oz_ (xadd rfl rfl (by unfold I64; omega)) rfl rfl ?_
 refine vm_ rfl rfl rfl ?_
 refine oz_ (xlss rfl rfl _ rfl) rfl rfl ?_
 refine ods (fun c24 => ?_) (fun c24 => ?_)
 rotate_left
 ·
  refine cg_ rfl ?_
  refine run_exit rfl ?_
  refine sr_ ?_
  refine vm_ rfl rfl rfl ?_
  refine vm_ rfl rfl rfl ?_
  refine va_ rfl rfl rfl ?_
  refine vn_ rfl rfl rfl ?_
  refine run_ret Tryz.func115 (res2 rfl rfl rfl) ?_
  have hz : n - 1 - i = 0 := by omega
  rw [hz, shG] at hsh
  exact ⟨_, rfl, E, q_6, c_6, _, by rw [hm2], by rw [← hsh]; subst hm2; exact G_6.wide (by omega) (by omega)⟩
 have hpl := plS_lt (s := st) (show i < n by omega)
 have hpi := plS_int (s := st) (show i < n by omega)
 rw [← hpk] at hpl hpi
 have hmb := mulb (nxS_le st).1 (nxS_le st).2 (b := (n : Int) - i) (by omega) (by omega)
 have hpn := plS_nn (s := st) (show i < n by omega)
 refine ct_ rfl ?_
 refine run_skip ?_
 refine run_seq ?_
 refine run_block ?_
 refine sr_ ?_
 refine vm_ rfl rfl rfl ?_
 refine vm_ rfl rfl rfl ?_
 refine vm_ rfl rfl rfl ?_
 refine oz_ (xsub rfl rfl (by unfold I64; omega)) rfl rfl ?_
 refine oc (xcall Tryz.call129 rfl) rfl rfl rfl (belowS_ok (st) (((n : Int) - (i : Int))) _ (by omega) (by omega) (by omega) (by omega)) ?_
 rintro _ w_ ⟨rfl, hw_⟩
 replace hw_ := hw_.symm
 subst hw_
 refine vm_ rfl rfl rfl ?_
 refine oz_ (xextract rfl rfl) rfl rfl ?_
 refine oz_ (xextract rfl rfl) rfl rfl ?_
 refine va_ rfl rfl rfl ?_
 refine vn_ rfl rfl rfl ?_
 refine run_seq ?_
 have hcut11 := cut_size (w := wr2) (k := b1) (by omega)
 have RE := ext_to_cut E (k := b1) (by omega) (by omega)
 refine run_heldC (ext_cut (w := wr2) (k := b1) (by omega)) (by kernel_rfl) ?_
 intro wh11 F
 have zh11 := F.size
 have E := E.trans F
 replace G_6 := G_6.ext F
 replace F := (ext_cut (w := wr2) (k := b1) (by omega)).trans F
 refine h_take 0 rfl (by kernel_rfl) (by kernel_rfl) (by kernel_rfl) (fun w' x_ => xmove rfl) rfl rfl rfl F ?_
 refine h_take 1 rfl (by kernel_rfl) (by kernel_rfl) (by kernel_rfl) (fun w' x_ => xmove rfl) rfl rfl rfl F ?_
 refine h_take 2 rfl (by kernel_rfl) (by kernel_rfl) (by kernel_rfl) (fun w' x_ => xmove rfl) rfl rfl rfl F ?_
 refine h_take 3 rfl (by kernel_rfl) (by kernel_rfl) (by kernel_rfl) (fun w' x_ => xmove rfl) rfl rfl rfl F ?_
 refine h_take 4 rfl (by kernel_rfl) (by kernel_rfl) (by kernel_rfl) (fun w' x_ => xmove rfl) rfl rfl rfl F ?_
 refine h_take 5 (v := .int .i64 (pk : Int)) rfl (by kernel_rfl) (by kernel_rfl) (by kernel_rfl) (fun w' x_ => (by rw [hpi]; exact xadd rfl rfl (by unfold I64; omega))) rfl rfl rfl F ?_
 refine h_take 6 rfl (by kernel_rfl) (by kernel_rfl) (by kernel_rfl) (fun w' x_ => xmove rfl) rfl rfl rfl F ?_
 refine h_take 7 rfl (by kernel_rfl) (by kernel_rfl) (by kernel_rfl) (fun w' x_ => xmove rfl) rfl rfl rfl F ?_
 refine h_take 8 rfl (by kernel_rfl) (by kernel_rfl) (by kernel_rfl) (fun w' x_ => xmove rfl) rfl rfl rfl F ?_
 refine h_take 9 (v := .int .i64 (pk : Int)) rfl (by kernel_rfl) (by kernel_rfl) (by kernel_rfl) (fun w' x_ => (by rw [hpi]; exact xadd rfl rfl (by unfold I64; omega))) rfl rfl rfl F ?_
 have h45 := (G_6.sl).at (i := pk) (by omega)
 refine h_take 10 rfl (by kernel_rfl) (by kernel_rfl) (by kernel_rfl) (fun w' x_ => xindexN (i := pk) Tryz.underlying24 Tryz.sizeOf2 rfl rfl rfl ((G_6.sl).p (i := pk) (by omega)) (by have := (G_6.sl).len; omega)) rfl rfl rfl F ?_
 refine h_take 12 rfl (by kernel_rfl) (by kernel_rfl) (by kernel_rfl) (fun w' x_ => xmove rfl) rfl rfl rfl F ?_
 refine h_take 13 rfl (by kernel_rfl) (by kernel_rfl) (by kernel_rfl) (fun w' x_ => xmove rfl) rfl rfl rfl F ?_
 have h49 := (G_6.sl).at (i := i) (by omega)
 refine h_take 14 rfl (by kernel_rfl) (by kernel_rfl) (by kernel_rfl) (fun w' x_ => xindexN (i := i) Tryz.underlying24 Tryz.sizeOf2 rfl rfl rfl ((G_6.sl).p (i := i) (by omega)) (by have := (G_6.sl).len; omega)) rfl rfl rfl F ?_
 refine h_ready (rs := [11, 15]) (by kernel_rfl) (by decide) ⟨?_, ?_, trivial⟩
 ·
  refine hs_val (v := .int .i64 ys_6[pk]) rfl (xloadz Tryz.isAgg2 rfl (h45) rfl) rfl rfl rfl F ?_
  refine h_ready (rs := [15]) (by kernel_rfl) (by decide) ⟨?_, trivial⟩
  refine hs_val (v := .int .i64 ys_6[i]) rfl (xloadz Tryz.isAgg2 rfl (h49) rfl) rfl rfl rfl F ?_
  have h51 := (G_6.sl).at (i := i) (by omega)
  refine h_take 16 rfl (by kernel_rfl) (by kernel_rfl) (by kernel_rfl) (fun w' x_ => xindexN (i := i) Tryz.underlying24 Tryz.sizeOf2 rfl rfl rfl ((G_6.sl).p (i := i) (by omega)) (by have := (G_6.sl).len; omega)) rfl rfl rfl F ?_
  refine h_ready (rs := [17]) (by kernel_rfl) (by decide) ⟨?_, trivial⟩
  refine hs_storeOw1 (j := i) (y := (ys_6[pk])) Tryz.sizeOf2 G_6 (by omega) rfl rfl rfl rfl F (by omega) rfl rfl ?_
  intro w2 m2 g2
  have hz2 := m2.size
  have E := m2.toExt E (by omega)
  have F := m2.toExt F (by omega)
  replace G_6 := g2
  have lGb := G_6.len
  have h52 := (G_6.sl).at (i := pk) (by omega)
  refine h_take 18 rfl (by kernel_rfl) (by kernel_rfl) (by kernel_rfl) (fun w' x_ => xindexN (i := pk) Tryz.underlying24 Tryz.sizeOf2 rfl rfl rfl ((G_6.sl).p (i := pk) (by omega)) (by have := (G_6.sl).len; omega)) rfl rfl rfl F ?_
  refine h_ready (rs := [19]) (by kernel_rfl) (by decide) ⟨?_, trivial⟩
  refine hs_storeOw1 (j := pk) (y := (ys_6[i])) Tryz.sizeOf2 G_6 (by omega) rfl rfl rfl rfl F (by omega) rfl rfl ?_
  intro w3 m3 g3
  have hz3 := m3.size
  have E := m3.toExt E (by omega)
  have F := m3.toExt F (by omega)
  replace G_6 := g3
  refine h_doneC (by kernel_rfl) ?_
  refine run_region ?_
  refine vm_ rfl rfl rfl ?_
  refine vn_ rfl rfl rfl ?_
  refine run_inBlock ?_
  refine run_region ?_
  refine vm_ rfl rfl rfl ?_
  refine oz_ (xadd rfl rfl (by unfold I64; omega)) rfl rfl ?_
  refine vn_ rfl rfl rfl ?_
  have hgo : n - 1 - i = (n - 1 - (i + 1)) + 1 := by omega
  have hsh2 := hsh
  rw [hgo, shG] at hsh2
  refine run_sub ?_ (hback8 (i + 1, nxS st, q_6, m_6, c_6, ((ys_6.set i (ys_6[pk])).set pk (ys_6[i])), w3) (⟨E, G_6.wide (by omega) (by omega), by omega, by omega, by omega, by omega, by have := nxS_le st; omega, by have := nxS_le st; omega, by rw [← hsh2, swapL, atI_of (by omega), atI_of (by omega)]; congr 1; (try subst hpk); rfl⟩) (by first | omega | (dsimp only; omega)))
  exact ⟨rfl, rfl, rfl, rfl, trivial⟩
 refine hs_val (v := .int .i64 ys_6[i]) rfl (xloadz Tryz.isAgg2 rfl (h49) rfl) rfl rfl rfl F ?_
 refine h_ready (rs := [11]) (by kernel_rfl) (by decide) ⟨?_, trivial⟩
 refine hs_val (v := .int .i64 ys_6[pk]) rfl (xloadz Tryz.isAgg2 rfl (h45) rfl) rfl rfl rfl F ?_
 have h51 := (G_6.sl).at (i := i) (by omega)
 refine h_take 16 rfl (by kernel_rfl) (by kernel_rfl) (by kernel_rfl) (fun w' x_ => xindexN (i := i) Tryz.underlying24 Tryz.sizeOf2 rfl rfl rfl ((G_6.sl).p (i := i) (by omega)) (by have := (G_6.sl).len; omega)) rfl rfl rfl F ?_
 refine h_ready (rs := [17]) (by kernel_rfl) (by decide) ⟨?_, trivial⟩
 refine hs_storeOw1 (j := i) (y := (ys_6[pk])) Tryz.sizeOf2 G_6 (by omega) rfl rfl rfl rfl F (by omega) rfl rfl ?_
 intro w2 m2 g2
 have hz2 := m2.size
 have E := m2.toExt E (by omega)
 have F := m2.toExt F (by omega)
 replace G_6 := g2
 have lGb := G_6.len
 have h52 := (G_6.sl).at (i := pk) (by omega)
 refine h_take 18 rfl (by kernel_rfl) (by kernel_rfl) (by kernel_rfl) (fun w' x_ => xindexN (i := pk) Tryz.underlying24 Tryz.sizeOf2 rfl rfl rfl ((G_6.sl).p (i := pk) (by omega)) (by have := (G_6.sl).len; omega)) rfl rfl rfl F ?_
 refine h_ready (rs := [19]) (by kernel_rfl) (by decide) ⟨?_, trivial⟩
 refine hs_storeOw1 (j := pk) (y := (ys_6[i])) Tryz.sizeOf2 G_6 (by omega) rfl rfl rfl rfl F (by omega) rfl rfl ?_
 intro w3 m3 g3
 have hz3 := m3.size
 have E := m3.toExt E (by omega)
 have F := m3.toExt F (by omega)
 replace G_6 := g3
 refine h_doneC (by kernel_rfl) ?_
 refine run_region ?_
 refine vm_ rfl rfl rfl ?_
 refine vn_ rfl rfl rfl ?_
 refine run_inBlock ?_
 refine run_region ?_
 refine vm_ rfl rfl rfl ?_
 refine oz_ (xadd rfl rfl (by unfold I64; omega)) rfl rfl ?_
 refine vn_ rfl rfl rfl ?_
 have hgo : n - 1 - i = (n - 1 - (i + 1)) + 1 := by omega
 have hsh2 := hsh
 rw [hgo, shG] at hsh2
 refine run_sub ?_ (hback8 (i + 1, nxS st, q_6, m_6, c_6, ((ys_6.set i (ys_6[pk])).set pk (ys_6[i])), w3) (⟨E, G_6.wide (by omega) (by omega), by omega, by omega, by omega, by omega, by have := nxS_le st; omega, by have := nxS_le st; omega, by rw [← hsh2, swapL, atI_of (by omega), atI_of (by omega)]; congr 1; (try subst hpk); rfl⟩) (by first | omega | (dsimp only; omega)))
 exact ⟨rfl, rfl, rfl, rfl, trivial⟩
set_option maxHeartbeats 400000 in
theorem increasing_ok (p : Option Addr) (n c : Nat) (xs : List Int) (w : World) (H : Sl i64c 1 w p n c xs) : Ret Tryz.prog 112 [.slice p n c, .int .i64 1, .int .i64 1000000] w (Pv w (.bool (incr xs))) := by
 refine ret_of_run (N := 35) Tryz.func112 rfl rfl rfl ?_
 have hn := H.len
 have hn6 := H.n64
 have E : Ext w w := Ext.refl w
 refine sr_ ?_
 refine vn_ rfl rfl rfl ?_
 refine run_seq ?_
 refine sr_ ?_
 refine vm_ rfl rfl rfl ?_
 refine oz_ (xlen Tryz.underlying24 rfl) rfl rfl ?_
 refine vm_ rfl rfl rfl ?_
 refine ops_nil ?_
 refine run_block ?_
 refine run_loop (ι := Nat × World) (fun x_ => match x_ with | (k, wr) => (Ext w wr) ∧ (w.heap.size ≤ wr.heap.size) ∧ (k ≤ n) ∧ (allB k (allI (incP xs) xs) = true)) (fun x_ => match x_ with | (k, wr) => [(0, .slice p n c), (1, .int .i64 1), (2, .int .i64 1000000), (9, .slice p n c), (10, .int .i64 (n : Int)), (11, .int .i64 (k : Int))]) (fun x_ => match x_ with | (k, wr) => wr) (fun x_ => match x_ with | (k, wr) => n - k) ?_ (0, w) (⟨E, Nat.le_refl _, by omega, allB_zero⟩) ⟨rfl, rfl, rfl, rfl, rfl, rfl, trivial⟩ rfl
 intro i_ hI_ hback2
 obtain ⟨k, wr⟩ := i_
 obtain ⟨E, lz_wr, hk, ha⟩ := hI_
 try dsimp only
 have zr := E.size
 refine sr_ ?_
 refine oz_ (xlss rfl rfl _ rfl) rfl rfl ?_
 refine ods (fun c12 => ?_) (fun c12 => ?_)
 rotate_left
 ·
  refine ops_nil ?_
  refine run_seq ?_
  refine run_cond_f rfl ?_
  refine run_exit rfl ?_
  refine sr_ ?_
  refine vn_ rfl rfl rfl ?_
  refine run_ret Tryz.func112 (res1 rfl rfl) ?_
  obtain rfl : k = n := by omega
  exact ⟨_, rfl, by rw [incr, ← hn, ha], E⟩
 refine ops_nil ?_
 refine run_seq ?_
 refine run_cond_t rfl ?_
 refine run_skip ?_
 refine run_seq ?_
 refine run_block ?_
 refine sr_ ?_
 refine vm_ rfl rfl rfl ?_
 have h14 := (H.ext E).at (i := k) (by omega)
 refine oz_ (xindexN (i := k) Tryz.underlying24 Tryz.sizeOf2 rfl rfl rfl ((H.ext E).p (i := k) (by omega)) (by have := (H.ext E).len; omega)) rfl rfl ?_
 refine oz_ (v := .int .i64 xs[k]) (xloadz Tryz.isAgg2 rfl (h14) rfl) rfl rfl ?_
 refine va_ rfl rfl rfl ?_
 refine vn_ rfl rfl rfl ?_
 refine sr_ ?_
 refine vm_ rfl rfl rfl ?_
 refine vm_ rfl rfl rfl ?_
 refine vm_ rfl rfl rfl ?_
 refine oc (xcall Tryz.call65 rfl) rfl rfl rfl (within_ok (xs[k]) (1) (1000000) _) ?_
 rintro _ w_ ⟨rfl, hw_⟩
 replace hw_ := hw_.symm
 subst hw_
 refine obs (fun c19 => ?_) (fun c19 => ?_)
 rotate_left
 ·
  refine oz_ (xnot rfl) rfl rfl ?_
  refine vm_ rfl rfl rfl ?_
  refine o2_ rfl rfl rfl rfl ?_
  refine o2_ rfl rfl rfl rfl ?_
  refine o2_ rfl rfl rfl rfl ?_
  refine o2_ rfl rfl rfl rfl ?_
  refine o2_ rfl rfl rfl rfl ?_
  refine og rfl rfl rfl ?_
  refine oz_ (xpick_t rfl rfl) rfl rfl ?_
  refine ct_ rfl ?_
  refine sr_ ?_
  refine vn_ rfl rfl rfl ?_
  refine run_ret Tryz.func112 (res1 rfl rfl) ?_
  exact ⟨_, rfl, by rw [incr_f (k := k) (by omega) (incP_f1 c19)], E⟩
 refine oz_ (xnot rfl) rfl rfl ?_
 refine vm_ rfl rfl rfl ?_
 refine vm_ rfl rfl rfl ?_
 refine oz_ (xgtr rfl rfl _ rfl) rfl rfl ?_
 refine ods (fun c23 => ?_) (fun c23 => ?_)
 rotate_left
 ·
  refine vm_ rfl rfl rfl ?_
  refine o2_ rfl rfl rfl rfl ?_
  refine o2_ rfl rfl rfl rfl ?_
  refine o2_ rfl rfl rfl rfl ?_
  refine og rfl rfl rfl ?_
  refine oz_ (xpick_f rfl rfl) rfl rfl ?_
  refine oz_ (xpick_f rfl rfl) rfl rfl ?_
  refine cf_ rfl ?_
  refine run_inBlock ?_
  refine run_region ?_
  refine oz_ (xadd rfl rfl (by unfold I64; omega)) rfl rfl ?_
  refine vm_ rfl rfl rfl ?_
  refine ops_nil ?_
  refine run_sub ?_ (hback2 (k + 1, wr) (⟨E, by omega, by omega, allB_succ ha (by rw [allI_of (by omega)]; exact incP_t c19 (.inl (by omega)))⟩) (by first | omega | (dsimp only; omega)))
  exact ⟨rfl, rfl, rfl, rfl, rfl, rfl, trivial⟩
 refine vm_ rfl rfl rfl ?_
 refine vm_ rfl rfl rfl ?_
 refine vm_ rfl rfl rfl ?_
 refine oz_ (xsub rfl rfl (by unfold I64; omega)) rfl rfl ?_
 have h28 := (H.ext E).at (i := (k - 1)) (by omega)
 refine oz_ (xindexN (i := (k - 1)) Tryz.underlying24 Tryz.sizeOf2 rfl rfl (by omega) ((H.ext E).p (i := (k - 1)) (by omega)) (by have := (H.ext E).len; omega)) rfl rfl ?_
 refine oz_ (v := .int .i64 xs[(k - 1)]) (xloadz Tryz.isAgg2 rfl (h28) rfl) rfl rfl ?_
 refine vm_ rfl rfl rfl ?_
 refine oz_ (xgeq rfl rfl _ rfl) rfl rfl ?_
 refine ods (fun c31 => ?_) (fun c31 => ?_)
 ·
  refine oz_ (xpick_t rfl rfl) rfl rfl ?_
  refine oz_ (xpick_f rfl rfl) rfl rfl ?_
  refine ct_ rfl ?_
  refine sr_ ?_
  refine vn_ rfl rfl rfl ?_
  refine run_ret Tryz.func112 (res1 rfl rfl) ?_
  exact ⟨_, rfl, by rw [incr_f (k := k) (by omega) (incP_f2 (by omega) (by rw [atI_of (by omega)]; omega))], E⟩
 refine oz_ (xpick_t rfl rfl) rfl rfl ?_
 refine oz_ (xpick_f rfl rfl) rfl rfl ?_
 refine cf_ rfl ?_
 refine run_inBlock ?_
 refine run_region ?_
 refine oz_ (xadd rfl rfl (by unfold I64; omega)) rfl rfl ?_
 refine vm_ rfl rfl rfl ?_
 refine ops_nil ?_
 refine run_sub ?_ (hback2 (k + 1, wr) (⟨E, by omega, by omega, allB_succ ha (by rw [allI_of (by omega)]; exact incP_t c19 (.inr (by rw [atI_of (by omega)]; omega)))⟩) (by first | omega | (dsimp only; omega)))
 exact ⟨rfl, rfl, rfl, rfl, rfl, rfl, trivial⟩
set_option maxHeartbeats 400000 in
theorem areNumbers_ok (p : Option Addr) (n c : Nat) (xs : List Int) (w : World) (H : Sl i64c 1 w p n c xs) : Ret Tryz.prog 81 [.slice p n c, .int .i64 60] w (Pv w (.bool (decide (xs.length ≤ 60) && incr xs))) := by
 refine ret_of_run (N := 13) Tryz.func81 rfl rfl rfl ?_
 have hn := H.len
 have hn6 := H.n64
 have E : Ext w w := Ext.refl w
 refine sr_ ?_
 refine vn_ rfl rfl rfl ?_
 refine sr_ ?_
 refine vm_ rfl rfl rfl ?_
 refine oz_ (xlen Tryz.underlying24 rfl) rfl rfl ?_
 refine vm_ rfl rfl rfl ?_
 refine oc (xcall Tryz.call43 rfl) rfl rfl rfl (few_ok ((n : Int)) (60) _) ?_
 rintro _ w_ ⟨rfl, hw_⟩
 replace hw_ := hw_.symm
 subst hw_
 refine obs (fun c8 => ?_) (fun c8 => ?_)
 ·
  refine vm_ rfl rfl rfl ?_
  refine vm_ rfl rfl rfl ?_
  refine oc (xcall Tryz.call112 rfl) rfl rfl rfl (increasing_ok _ _ _ _ _ (H.ext E)) ?_
  rintro _ w1 ⟨rfl, e1⟩
  have z1 := e1.size
  have E := E.trans e1
  refine oz_ (xpick_t rfl rfl) rfl rfl ?_
  refine vn_ rfl rfl rfl ?_
  refine run_ret Tryz.func81 (res1 rfl rfl) ?_
  exact ⟨_, rfl, by rw [show decide (xs.length ≤ 60) = true from decide_eq_true (by simp only [decide_eq_true_eq] at c8; omega)]; rfl, E⟩
 refine vm_ rfl rfl rfl ?_
 refine o2_ rfl rfl rfl rfl ?_
 refine oz_ (xpick_f rfl rfl) rfl rfl ?_
 refine vn_ rfl rfl rfl ?_
 refine run_ret Tryz.func81 (res1 rfl rfl) ?_
 exact ⟨_, rfl, by rw [show decide (xs.length ≤ 60) = false from decide_eq_false (by simp only [decide_eq_false_iff_not] at c8; omega)]; rfl, E⟩
set_option maxHeartbeats 400000 in
theorem areMoves_ok (p : Option Addr) (n c : Nat) (xs : List Int) (w : World) (H : Sl i64c 1 w p n c xs) : Ret Tryz.prog 83 [.slice p n c] w (Pv w (.bool (areMv xs))) := by
 refine ret_of_run (N := 15) Tryz.func83 rfl rfl rfl ?_
 have hn := H.len
 have hn6 := H.n64
 have E : Ext w w := Ext.refl w
 refine sr_ ?_
 refine vn_ rfl rfl rfl ?_
 refine run_seq ?_
 refine sr_ ?_
 refine vm_ rfl rfl rfl ?_
 refine oz_ (xlen Tryz.underlying24 rfl) rfl rfl ?_
 refine vm_ rfl rfl rfl ?_
 refine ops_nil ?_
 refine run_block ?_
 refine run_loop (ι := Nat × World) (fun x_ => match x_ with | (k, wr) => (Ext w wr) ∧ (w.heap.size ≤ wr.heap.size) ∧ (k ≤ n) ∧ (∀ j (hj : j < xs.length), j < k → mvP xs[j] = true)) (fun x_ => match x_ with | (k, wr) => [(5, .slice p n c), (6, .int .i64 (n : Int)), (7, .int .i64 (k : Int))]) (fun x_ => match x_ with | (k, wr) => wr) (fun x_ => match x_ with | (k, wr) => n - k) ?_ (0, w) (⟨E, Nat.le_refl _, by omega, fun j hj h => absurd h (Nat.not_lt_zero j)⟩) ⟨rfl, rfl, rfl, trivial⟩ rfl
 intro i_ hI_ hback2
 obtain ⟨k, wr⟩ := i_
 obtain ⟨E, lz_wr, hk, ha⟩ := hI_
 try dsimp only
 have zr := E.size
 refine sr_ ?_
 refine oz_ (xlss rfl rfl _ rfl) rfl rfl ?_
 refine ods (fun c8 => ?_) (fun c8 => ?_)
 rotate_left
 ·
  refine ops_nil ?_
  refine run_seq ?_
  refine run_cond_f rfl ?_
  refine run_exit rfl ?_
  refine sr_ ?_
  refine vn_ rfl rfl rfl ?_
  refine run_ret Tryz.func83 (res1 rfl rfl) ?_
  exact ⟨_, rfl, by rw [areMv, all_of ha (by omega)], E⟩
 refine ops_nil ?_
 refine run_seq ?_
 refine run_cond_t rfl ?_
 refine run_skip ?_
 refine run_seq ?_
 refine run_block ?_
 refine sr_ ?_
 have h9 := (H.ext E).at (i := k) (by omega)
 refine oz_ (xindexN (i := k) Tryz.underlying24 Tryz.sizeOf2 rfl rfl rfl ((H.ext E).p (i := k) (by omega)) (by have := (H.ext E).len; omega)) rfl rfl ?_
 refine oz_ (v := .int .i64 xs[k]) (xloadz Tryz.isAgg2 rfl (h9) rfl) rfl rfl ?_
 refine vn_ rfl rfl rfl ?_
 refine sr_ ?_
 refine vm_ rfl rfl rfl ?_
 refine oc (xcall Tryz.call65 rfl) rfl rfl rfl (within_ok (xs[k]) ((-1)) (11) _) ?_
 rintro _ w_ ⟨rfl, hw_⟩
 replace hw_ := hw_.symm
 subst hw_
 refine obs (fun c12 => ?_) (fun c12 => ?_)
 ·
  refine oz_ (xnot rfl) rfl rfl ?_
  refine cf_ rfl ?_
  refine run_inBlock ?_
  refine run_region ?_
  refine oz_ (xadd rfl rfl (by unfold I64; omega)) rfl rfl ?_
  refine vm_ rfl rfl rfl ?_
  refine ops_nil ?_
  refine run_sub ?_ (hback2 (k + 1, wr) (⟨E, by omega, by omega, below_succ (q := fun y => mvP y = true) ha (fun _ => c12)⟩) (by first | omega | (dsimp only; omega)))
  exact ⟨rfl, rfl, rfl, trivial⟩
 refine oz_ (xnot rfl) rfl rfl ?_
 refine ct_ rfl ?_
 refine sr_ ?_
 refine vn_ rfl rfl rfl ?_
 refine run_ret Tryz.func83 (res1 rfl rfl) ?_
 exact ⟨_, rfl, by rw [areMv, all_f (p := mvP) (k := k) (by omega) c12], E⟩
set_option maxHeartbeats 400000 in
theorem areStrikes_ok (p : Option Addr) (n c : Nat) (xs : List Int) (w : World) (H : Sl i64c 1 w p n c xs) : Ret Tryz.prog 82 [.slice p n c] w (Pv w (.bool (areStr xs))) := by
 refine ret_of_run (N := 18) Tryz.func82 rfl rfl rfl ?_
 have hn := H.len
 have hn6 := H.n64
 have E : Ext w w := Ext.refl w
 refine sr_ ?_
 refine vn_ rfl rfl rfl ?_
 refine sr_ ?_
 refine vm_ rfl rfl rfl ?_
 refine oz_ (xlen Tryz.underlying24 rfl) rfl rfl ?_
 refine oz_ (xeql rfl rfl _ rfl) rfl rfl ?_
 refine ods (fun c5 => ?_) (fun c5 => ?_)
 rotate_left
 ·
  refine vm_ rfl rfl rfl ?_
  refine o2_ rfl rfl rfl rfl ?_
  refine o2_ rfl rfl rfl rfl ?_
  refine oz_ (xpick_f rfl rfl) rfl rfl ?_
  refine vm_ rfl rfl rfl ?_
  refine o2_ rfl rfl rfl rfl ?_
  refine o2_ rfl rfl rfl rfl ?_
  refine oz_ (xpick_f rfl rfl) rfl rfl ?_
  refine vn_ rfl rfl rfl ?_
  refine run_ret Tryz.func82 (res1 rfl rfl) ?_
  exact ⟨_, rfl, by rw [areStr, decide_eq_false (by omega)]; rfl, E⟩
 refine vm_ rfl rfl rfl ?_
 refine vm_ rfl rfl rfl ?_
 have h8 := (H.ext E).at (i := 0) (by omega)
 refine oz_ (xindexN (i := 0) Tryz.underlying24 Tryz.sizeOf2 rfl rfl (by omega) ((H.ext E).p (i := 0) (by omega)) (by have := (H.ext E).len; omega)) rfl rfl ?_
 refine oz_ (v := .int .i64 xs[0]) (xloadz Tryz.isAgg2 rfl (h8) rfl) rfl rfl ?_
 refine oc (xcall Tryz.call65 rfl) rfl rfl rfl (within_ok (xs[0]) (0) (10) _) ?_
 rintro _ w_ ⟨rfl, hw_⟩
 replace hw_ := hw_.symm
 subst hw_
 refine obs (fun c10 => ?_) (fun c10 => ?_)
 rotate_left
 ·
  refine oz_ (xpick_t rfl rfl) rfl rfl ?_
  refine vm_ rfl rfl rfl ?_
  refine o2_ rfl rfl rfl rfl ?_
  refine o2_ rfl rfl rfl rfl ?_
  refine oz_ (xpick_f rfl rfl) rfl rfl ?_
  refine vn_ rfl rfl rfl ?_
  refine run_ret Tryz.func82 (res1 rfl rfl) ?_
  exact ⟨_, rfl, by rw [areStr, decide_eq_true (by omega), atI_of (show 0 < xs.length by omega), c10]; rfl, E⟩
 refine oz_ (xpick_t rfl rfl) rfl rfl ?_
 refine vm_ rfl rfl rfl ?_
 refine vm_ rfl rfl rfl ?_
 have h14 := (H.ext E).at (i := 1) (by omega)
 refine oz_ (xindexN (i := 1) Tryz.underlying24 Tryz.sizeOf2 rfl rfl (by omega) ((H.ext E).p (i := 1) (by omega)) (by have := (H.ext E).len; omega)) rfl rfl ?_
 refine oz_ (v := .int .i64 xs[1]) (xloadz Tryz.isAgg2 rfl (h14) rfl) rfl rfl ?_
 refine oc (xcall Tryz.call65 rfl) rfl rfl rfl (within_ok (xs[1]) (0) (10) _) ?_
 rintro _ w_ ⟨rfl, hw_⟩
 replace hw_ := hw_.symm
 subst hw_
 refine oz_ (xpick_t rfl rfl) rfl rfl ?_
 refine vn_ rfl rfl rfl ?_
 refine run_ret Tryz.func82 (res1 rfl rfl) ?_
 exact ⟨_, rfl, by rw [areStr, decide_eq_true (by omega), atI_of (show 0 < xs.length by omega), c10, atI_of (show 1 < xs.length by omega)]; rfl, E⟩
def smI (xs : List Int) : Nat → Int
  | 0 => 0
  | k + 1 => smI xs k + atI xs k
set_option maxHeartbeats 400000 in
theorem sumS_ok (p : Option Addr) (n c : Nat) (xs : List Int) (w : World) (H : Sl i64c 1 w p n c xs) (hs : areStr xs = true) : Ret Tryz.prog 162 [.slice p n c] w (Pv w (.int .i64 (atI xs 0 + atI xs 1))) := by
 refine ret_of_run (N := 17) Tryz.func162 rfl rfl rfl ?_
 have hn := H.len
 have hn6 := H.n64
 have hs2 := (areStr_iff.1 hs).1
 have E : Ext w w := Ext.refl w
 refine sr_ ?_
 refine vn_ rfl rfl rfl ?_
 refine sr_ ?_
 refine vn_ rfl rfl rfl ?_
 refine run_seq ?_
 refine sr_ ?_
 refine vm_ rfl rfl rfl ?_
 refine oz_ (xlen Tryz.underlying24 rfl) rfl rfl ?_
 refine vm_ rfl rfl rfl ?_
 refine ops_nil ?_
 refine run_block ?_
 refine run_loop (ι := Nat × Int × World) (fun x_ => match x_ with | (k, t, wr) => (Ext w wr) ∧ (w.heap.size ≤ wr.heap.size) ∧ (k ≤ n) ∧ (t = smI xs k) ∧ (0 ≤ t) ∧ (t ≤ 10 * k)) (fun x_ => match x_ with | (k, t, wr) => [(3, .int .i64 t), (6, .slice p n c), (7, .int .i64 (n : Int)), (8, .int .i64 (k : Int))]) (fun x_ => match x_ with | (k, t, wr) => wr) (fun x_ => match x_ with | (k, t, wr) => n - k) ?_ (0, 0, w) (⟨E, Nat.le_refl _, by omega, rfl, by omega, by omega⟩) ⟨rfl, rfl, rfl, rfl, trivial⟩ rfl
 intro i_ hI_ hback3
 obtain ⟨k, t, wr⟩ := i_
 obtain ⟨E, lz_wr, hk, ht, ht0, ht1⟩ := hI_
 try dsimp only
 have zr := E.size
 have hsk := str_at hs k
 refine sr_ ?_
 refine oz_ (xlss rfl rfl _ rfl) rfl rfl ?_
 refine ods (fun c9 => ?_) (fun c9 => ?_)
 rotate_left
 ·
  refine ops_nil ?_
  refine run_seq ?_
  refine run_cond_f rfl ?_
  refine run_exit rfl ?_
  refine sr_ ?_
  refine vm_ rfl rfl rfl ?_
  refine vn_ rfl rfl rfl ?_
  refine run_ret Tryz.func162 (res1 rfl rfl) ?_
  have hk2 : k = 2 := by omega
  exact ⟨_, rfl, by rw [ht, hk2]; simp [smI], E⟩
 have hsj := hsk
 rw [atI_of (by omega)] at hsj
 refine ops_nil ?_
 refine run_seq ?_
 refine run_cond_t rfl ?_
 refine run_skip ?_
 refine run_seq ?_
 refine run_block ?_
 refine sr_ ?_
 have h10 := (H.ext E).at (i := k) (by omega)
 refine oz_ (xindexN (i := k) Tryz.underlying24 Tryz.sizeOf2 rfl rfl rfl ((H.ext E).p (i := k) (by omega)) (by have := (H.ext E).len; omega)) rfl rfl ?_
 refine oz_ (v := .int .i64 xs[k]) (xloadz Tryz.isAgg2 rfl (h10) rfl) rfl rfl ?_
 refine vn_ rfl rfl rfl ?_
 refine run_region ?_
 refine vm_ rfl rfl rfl ?_
 refine vm_ rfl rfl rfl ?_
 refine oz_ (xadd rfl rfl (by unfold I64; omega)) rfl rfl ?_
 refine vn_ rfl rfl rfl ?_
 refine run_inBlock ?_
 refine run_region ?_
 refine oz_ (xadd rfl rfl (by unfold I64; omega)) rfl rfl ?_
 refine vm_ rfl rfl rfl ?_
 refine ops_nil ?_
 refine run_sub ?_ (hback3 (k + 1, t + xs[k], wr) (⟨E, by omega, by omega, by rw [smI, ← ht, atI_of (by omega)], by rw [atI_of (by omega)] at hsk; omega, by rw [atI_of (by omega)] at hsk; omega⟩) (by first | omega | (dsimp only; omega)))
 exact ⟨rfl, rfl, rfl, rfl, trivial⟩
end Go.Proofs.YtchblgaklknkcaaGreat
