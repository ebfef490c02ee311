/-
  Copies of slices of numbers and of texts. No condition beyond those written in each theorem.
-/
import Derived.Test.YtinpkihmkfiidaaEqB
namespace Go.Proofs.Ytinpkihmkfiidaa
open Go.RowKit
set_option linter.unusedVariables false
set_option linter.unusedSimpArgs false
set_option linter.unusedSectionVars false
set_option maxRecDepth 4000

set_option maxHeartbeats 400000 in
theorem toInt64S_ok (p : Option Addr) (n c : Nat) (xs : List Int) (w : World) (H : Sl i64c 1 w p n c xs) (hn2 : n ≤ 1048576) : Ret Try.prog 33 [.slice p n c] w (fun v w' => Ext w w' ∧ ∃ q, v = .slice (some q) n n ∧ Ow i64c 1 2 w' w.heap.size w'.heap.size (some q) n n xs) := by
  refine ret_of_run (N := 22) Try.func33 rfl rfl rfl ?_
  have hn := H.len
  have hn6 := H.n64
  have E : Ext w w := Ext.refl w
  refine run_seq ?_
  refine run_region ?_
  refine ov (xassign rfl) rfl rfl rfl ?_
  refine ops_nil ?_
  refine run_seq ?_
  refine run_region ?_
  refine ov (xmove rfl) rfl rfl rfl ?_
  refine ov (xlen Try.underlying31 rfl) rfl rfl rfl ?_
  refine omake (n := n) Try.underlying31 inf2 rfl rfl (by decide) rfl rfl rfl rfl (by simp only [Try.t2]; omega) (by omega) rfl rfl ?_
  intro b1 w1 e1 hb1 hz1 O1
  have E := E.trans e1
  replace O1 : Own w1 b1 (List.replicate (n) ([.int .i64 0] : List Value)).flatten 2 := O1
  refine ov (xassign rfl) rfl rfl rfl ?_
  refine ops_nil ?_
  refine run_seq ?_
  refine run_seq ?_
  refine run_region ?_
  refine ov (xassign rfl) rfl rfl rfl ?_
  refine ops_nil ?_
  refine run_block ?_
  refine run_loop (ι := Nat × World) (fun x_ => match x_ with | (k, wr) => (Ext w wr) ∧ (Own wr b1 (((xs.take k).map i64c ++ List.replicate (n - k) [(.int .i64 0 : Value)]).flatten) 2) ∧ (w1.heap.size ≤ wr.heap.size) ∧ (k ≤ n)) (fun x_ => match x_ with | (k, wr) => [(0, .slice p n c), (3, .slice (some ⟨b1, 0, none⟩) n n), (4, .int .i64 (k : Int))]) (fun x_ => match x_ with | (k, wr) => wr) (fun x_ => match x_ with | (k, wr) => n - k) ?_ (0, w1) (⟨E, by simpa using O1, Nat.le_refl _, by omega⟩) ⟨rfl, rfl, rfl, trivial⟩ rfl
  intro i_ hI_ hback3
  obtain ⟨k, wr⟩ := i_
  obtain ⟨E, O_b1, lz_wr, hk⟩ := hI_
  try dsimp only
  have zr := E.size
  have lt_b1 := O_b1.lt
  refine run_seq ?_
  refine run_seq ?_
  refine run_region ?_
  refine ov (xmove rfl) rfl rfl rfl ?_
  refine ov (xmove rfl) rfl rfl rfl ?_
  refine ov (xlen Try.underlying31 rfl) rfl rfl rfl ?_
  refine ov (xlss rfl rfl _ rfl) rfl rfl rfl ?_
  refine ods (fun c11 => ?_) (fun c11 => ?_)
  ·
    refine ops_nil ?_
    refine run_cond_t rfl ?_
    refine run_skip ?_
    refine run_seq ?_
    refine run_block ?_
    refine run_region ?_
    refine ov (xmove rfl) rfl rfl rfl ?_
    refine ov (xmove rfl) rfl rfl rfl ?_
    refine ov (xmove rfl) rfl rfl rfl ?_
    refine ov (xmove rfl) rfl rfl rfl ?_
    have h18 := (H.ext E).at (i := k) (by omega)
    refine ov (xindexN (i := k) Try.underlying31 Try.sizeOf2 rfl rfl rfl ((H.ext E).p (i := k) (by omega)) (by have := (H.ext E).len; omega)) rfl rfl rfl ?_
    refine ov (v := .int .i64 xs[k]) (xloadz Try.isAgg2 rfl (h18) rfl) rfl rfl rfl ?_
    refine ov (xindexO (i := k) Try.underlying31 Try.sizeOf2 rfl rfl rfl (by omega)) rfl rfl rfl ?_
    refine ostoreE1 (i := k) (rows := ((xs.take k).map i64c ++ List.replicate (n - k) [(.int .i64 0 : Value)])) Try.sizeOf2 rfl rfl O_b1 (rows_ok (enc := i64c) (fun _ => rfl) rfl) (by simp; omega) rfl rfl ?_
    intro w2 on2 O2
    have hz2 := on2.size
    have E := on2.ext E (by omega)
    refine ops_nil ?_
    refine run_inBlock ?_
    refine run_region ?_
    refine ov (xmove rfl) rfl rfl rfl ?_
    refine ov (xadd rfl rfl (by unfold I64; omega)) rfl rfl rfl ?_
    refine ov (xassign rfl) rfl rfl rfl ?_
    refine ops_nil ?_
    refine run_sub ?_ (hback3 (k + 1, w2) (⟨E, by rw [← rows_step (enc := i64c) hn (by omega)]; exact O2, by omega, by omega⟩) (by first | omega | (dsimp only; omega)))
    exact ⟨rfl, rfl, rfl, trivial⟩
  ·
    refine ops_nil ?_
    refine run_cond_f rfl ?_
    refine run_exit rfl ?_
    refine run_seq ?_
    refine run_region ?_
    refine ov (xmove rfl) rfl rfl rfl ?_
    refine ov (xassign rfl) rfl rfl rfl ?_
    refine ops_nil ?_
    refine run_ret Try.func33 (res1 rfl rfl) ?_
    obtain rfl : k = n := by omega
    refine ⟨_, rfl, E, _, rfl, Own.ow (by simpa [hn] using O_b1) hn (by omega) (by omega) O_b1.lt (fun _ _ => rfl)⟩
end Go.Proofs.Ytinpkihmkfiidaa
