/-
  The number of all ways. No condition beyond those written in each theorem.
-/
import Derived.Test.YtchblgaklknkcaaGreatPollP
import Derived.Test.YtchblgaklknkcaaGreatMore
import Derived.Test.YtchblgaklknkcaaGreatTail
namespace Go.Proofs.YtchblgaklknkcaaGreat
open Go.RowKit
set_option linter.unusedVariables false
set_option linter.unusedSimpArgs false
set_option linter.unusedSectionVars false
set_option maxRecDepth 4000
set_option maxHeartbeats 400000 in
theorem l26None_ok (p : Option Addr) (n c : Nat) (xs : List Question) (w : World) (H : Sl Question.cells 3 w p n c xs) (hx : ∀ x ∈ xs, x.Label.size ≤ 9223372036854775807) (hl : xs.length ≤ 10) : Ret Tryz.prog 62 [.slice p n c] w (fun v w' => Ext w w' ∧ ∃ q m d, v = .slice q m d ∧ Ow i64c 1 2 w' w.heap.size w'.heap.size q m d (noneA xs)) := by
 refine ret_of_run (N := 14) Tryz.func62 rfl rfl rfl ?_
 have hn := H.len
 have hn6 := H.n64
 have E : Ext w w := Ext.refl w
 refine sr_ ?_
 refine vn_ rfl rfl rfl ?_
 refine sr_ ?_
 refine obuild (cs := []) (sz := 1) Tryz.underlying24 inf2 rfl rfl (by decide) rfl rfl (by simp [Value.cells]) rfl rfl rfl ?_
 intro b1 w1 e1 hb1 hz1 O1
 have E := E.trans e1
 have G1 : Ow i64c 1 2 w1 b1 (b1 + 1) (some ⟨b1, 0, none⟩) 0 0 ([] : List Int) := Own.ow (by simpa [i64c] using O1) rfl (by omega) (Nat.le_refl _) (by omega) (by intro x hx; rfl)
 refine vn_ rfl rfl rfl ?_
 refine run_seq ?_
 refine sr_ ?_
 refine vm_ rfl rfl rfl ?_
 refine oz_ (xlen Tryz.underlying35 rfl) rfl rfl ?_
 refine vm_ rfl rfl rfl ?_
 refine ops_nil ?_
 refine run_block ?_
 refine run_loop (ι := Nat × Option Addr × Nat × Nat × List Int × World) (fun x_ => match x_ with | (k, q_3, m_3, c_3, ys_3, wr) => (Ext w wr) ∧ (Ow i64c 1 2 wr b1 wr.heap.size q_3 m_3 c_3 ys_3) ∧ (b1 ≤ wr.heap.size) ∧ (w1.heap.size ≤ wr.heap.size) ∧ (k ≤ n) ∧ (m_3 = k) ∧ (ys_3 = List.replicate k (-1))) (fun x_ => match x_ with | (k, q_3, m_3, c_3, ys_3, wr) => [(3, .slice q_3 m_3 c_3), (6, .int .i64 (n : Int)), (7, .int .i64 (k : Int))]) (fun x_ => match x_ with | (k, q_3, m_3, c_3, ys_3, wr) => wr) (fun x_ => match x_ with | (k, q_3, m_3, c_3, ys_3, wr) => n - k) ?_ (0, (some ⟨b1, 0, none⟩), 0, 0, [], w1) (⟨E, G1.wide (by omega) (by omega), by omega, Nat.le_refl _, by omega, rfl, rfl⟩) ⟨rfl, rfl, rfl, trivial⟩ rfl
 intro i_ hI_ hback3
 obtain ⟨k, q_3, m_3, c_3, ys_3, wr⟩ := i_
 obtain ⟨E, G_3, lo_3, lz_wr, hk, hm, hy⟩ := hI_
 try dsimp only
 have zr := E.size
 have lg_3 := G_3.len
 refine sr_ ?_
 refine oz_ (xlss rfl rfl _ rfl) rfl rfl ?_
 refine ods (fun c8 => ?_) (fun c8 => ?_)
 rotate_left
 ·
  refine ops_nil ?_
  refine run_seq ?_
  refine run_cond_f rfl ?_
  refine run_exit rfl ?_
  refine sr_ ?_
  refine vm_ rfl rfl rfl ?_
  refine vn_ rfl rfl rfl ?_
  refine run_ret Tryz.func62 (res1 rfl rfl) ?_
  obtain rfl : k = n := by omega
  exact ⟨_, rfl, E, _, _, _, rfl, by rw [noneA, ← hn, ← hy]; exact G_3.wide (by omega) (by omega)⟩
 refine ops_nil ?_
 refine run_seq ?_
 refine run_cond_t rfl ?_
 refine run_skip ?_
 refine run_seq ?_
 refine run_block ?_
 refine run_region ?_
 refine vm_ rfl rfl rfl ?_
 refine obuild (cs := [.int .i64 (-1)]) (sz := 1) Tryz.underlying24 inf2 rfl rfl (by decide) rfl rfl (by simp [Value.cells]) rfl rfl rfl ?_
 intro b2 w2 e2 hb2 hz2 O2
 have E := E.trans e2
 replace G_3 := G_3.ext e2
 refine oapp (bytes := 8) (nm := (m_3 + 1)) G_3 rfl rfl elem2 (Own.sl1 (y := (-1 : Int)) O2) (by intro h; cases h) (by intro y hy; rfl) (by intro y hy u hu; rw [List.mem_singleton] at hy; subst hy; revert u; simp [Value.oneCell', i64c]) (by omega) (by omega) (by omega) (by omega) rfl rfl ?_
 intro p3 c3_ w3 m3 G3
 have hz3 := m3.size
 have E := m3.toExt E (by omega)
 refine vn_ rfl rfl rfl ?_
 refine run_inBlock ?_
 refine run_region ?_
 refine oz_ (xadd rfl rfl (by unfold I64; omega)) rfl rfl ?_
 refine vm_ rfl rfl rfl ?_
 refine ops_nil ?_
 refine run_sub ?_ (hback3 (k + 1, p3, (m_3 + 1), c3_, ys_3 ++ [-1], w3) (⟨E, G3.wide (by omega) (by omega), by omega, by omega, by omega, by omega, by rw [hy, List.replicate_succ']⟩) (by first | omega | (dsimp only; omega)))
 exact ⟨rfl, rfl, rfl, trivial⟩
end Go.Proofs.YtchblgaklknkcaaGreat
