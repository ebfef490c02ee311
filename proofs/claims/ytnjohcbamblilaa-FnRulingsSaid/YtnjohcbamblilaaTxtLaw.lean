/-
  Texts in lists. No condition beyond those written in each theorem.
-/
import Derived.Test.YtnjohcbamblilaaXDraws
import Derived.Test.YtnjohcbamblilaaHeld
import Derived.Test.YtnjohcbamblilaaHolders
import Derived.Test.YtnjohcbamblilaaMore
namespace Go.Proofs.Ytnjohcbamblilaa
open Go.RowKit
set_option linter.unusedVariables false
set_option linter.unusedSimpArgs false
set_option linter.unusedSectionVars false
set_option maxRecDepth 4000

def hasS (gs : List ByteArray) (x : ByteArray) : Bool := gs.any fun y => decide (y = x)
theorem hasS_iff {l : List ByteArray} {x : ByteArray} : hasS l x = true ↔ x ∈ l := by
  simp only [hasS, List.any_eq_true, decide_eq_true_eq]
  exact ⟨fun ⟨y, h1, h2⟩ => h2 ▸ h1, fun h => ⟨x, h, rfl⟩⟩
theorem hasS_t {l : List ByteArray} {x : ByteArray} {k : Nat} (hk : k < l.length) (h : l[k] = x) : hasS l x = true := hasS_iff.2 (h ▸ List.getElem_mem hk)
theorem hasS_f {l : List ByteArray} {x : ByteArray} {n : Nat} (h : ∀ j (hj : j < l.length), j < n → l[j] ≠ x) (hn : l.length ≤ n) : hasS l x = false := by
  rw [Bool.eq_false_iff]; intro h'
  obtain ⟨j, hj, e⟩ := List.getElem_of_mem (hasS_iff.1 h')
  exact h j hj (by omega) e

set_option maxHeartbeats 400000 in
theorem hasText_ok (p : Option Addr) (n c : Nat) (xs : List ByteArray) (x : ByteArray) (w : World) (H : Sl strc 1 w p n c xs) : Ret Try.prog 49 [.slice p n c, .string x] w (Pv w (.bool (hasS xs x))) := by
  refine ret_of_run (N := 18) Try.func49 rfl rfl rfl ?_
  have hn := H.len
  have hn6 := H.n64
  have E : Ext w w := Ext.refl w
  refine run_seq ?_
  refine run_region ?_
  refine ov (xassign rfl) rfl rfl rfl ?_
  refine ops_nil ?_
  refine run_seq ?_
  refine run_seq ?_
  refine run_region ?_
  refine ov (xassign rfl) rfl rfl rfl ?_
  refine ops_nil ?_
  refine run_block ?_
  refine run_loop (ι := Nat × World) (fun x_ => match x_ with | (k, wr) => (Ext w wr) ∧ (w.heap.size ≤ wr.heap.size) ∧ (k ≤ n) ∧ (∀ j (hj : j < xs.length), j < k → xs[j] ≠ x)) (fun x_ => match x_ with | (k, wr) => [(0, .slice p n c), (1, .string x), (5, .int .i64 (k : Int))]) (fun x_ => match x_ with | (k, wr) => wr) (fun x_ => match x_ with | (k, wr) => n - k) ?_ (0, w) (⟨E, Nat.le_refl _, by omega, fun j hj h => absurd h (Nat.not_lt_zero j)⟩) ⟨rfl, rfl, rfl, trivial⟩ rfl
  intro i_ hI_ hback2
  obtain ⟨k, wr⟩ := i_
  obtain ⟨E, lz_wr, hk, ha⟩ := hI_
  try dsimp only
  have zr := E.size
  refine run_seq ?_
  refine run_seq ?_
  refine run_region ?_
  refine ov (xmove rfl) rfl rfl rfl ?_
  refine ov (xmove rfl) rfl rfl rfl ?_
  refine ov (xlen Try.underlying66 rfl) rfl rfl rfl ?_
  refine ov (xlss rfl rfl _ rfl) rfl rfl rfl ?_
  refine ods (fun c9 => ?_) (fun c9 => ?_)
  ·
    refine ops_nil ?_
    refine run_cond_t rfl ?_
    refine run_skip ?_
    refine run_seq ?_
    refine run_block ?_
    refine run_seq ?_
    refine run_region ?_
    refine ov (xmove rfl) rfl rfl rfl ?_
    refine ov (xmove rfl) rfl rfl rfl ?_
    have h14 := (H.ext E).at (i := k) (by omega)
    refine ov (xindexN (i := k) Try.underlying66 Try.sizeOf9 rfl rfl rfl ((H.ext E).p (i := k) (by omega)) (by have := (H.ext E).len; omega)) rfl rfl rfl ?_
    refine ov (v := .string xs[k]) (xloadz Try.isAgg9 rfl (h14) rfl) rfl rfl rfl ?_
    refine ov (xmove rfl) rfl rfl rfl ?_
    refine ov (xseql rfl rfl _ rfl) rfl rfl rfl ?_
    refine ods (fun c17 => ?_) (fun c17 => ?_)
    ·
      refine ops_nil ?_
      refine run_cond_t rfl ?_
      refine run_seq ?_
      refine run_region ?_
      refine ov (xassign rfl) rfl rfl rfl ?_
      refine ops_nil ?_
      refine run_ret Try.func49 (res1 rfl rfl) ?_
      exact ⟨_, rfl, by rw [hasS_t (k := k) (by omega) c17], E⟩
    ·
      refine ops_nil ?_
      refine run_cond_f rfl ?_
      refine run_skip ?_
      refine run_inBlock ?_
      refine run_region ?_
      refine ov (xmove rfl) rfl rfl rfl ?_
      refine ov (xadd rfl rfl (by unfold I64; omega)) rfl rfl rfl ?_
      refine ov (xassign rfl) rfl rfl rfl ?_
      refine ops_nil ?_
      refine run_sub ?_ (hback2 (k + 1, wr) (⟨E, by omega, by omega, below_succ (q := fun y => y ≠ x) ha (fun _ => c17)⟩) (by first | omega | (dsimp only; omega)))
      exact ⟨rfl, rfl, rfl, trivial⟩
  ·
    refine ops_nil ?_
    refine run_cond_f rfl ?_
    refine run_exit rfl ?_
    refine run_seq ?_
    refine run_region ?_
    refine ov (xassign rfl) rfl rfl rfl ?_
    refine ops_nil ?_
    refine run_ret Try.func49 (res1 rfl rfl) ?_
    exact ⟨_, rfl, by rw [hasS_f ha (by omega)], E⟩

set_option maxHeartbeats 400000 in
theorem likeTexts_ok (p q : Option Addr) (n c m d : Nat) (xs : List ByteArray) (w : World) (H : Sl strc 1 w p n c xs) (K : Sl strc 1 w q m d xs) : Ret Try.prog 48 [.slice p n c, .slice q m d] w (Pv w (.bool true)) := by
  refine ret_of_run (N := 26) Try.func48 rfl rfl rfl ?_
  have hn := H.len
  have hm := K.len
  have hn6 := H.n64
  have E : Ext w w := Ext.refl w
  refine run_seq ?_
  refine run_region ?_
  refine ov (xassign rfl) rfl rfl rfl ?_
  refine ops_nil ?_
  refine run_seq ?_
  refine run_seq ?_
  refine run_region ?_
  refine ov (xmove rfl) rfl rfl rfl ?_
  refine ov (xlen Try.underlying66 rfl) rfl rfl rfl ?_
  refine ov (xmove rfl) rfl rfl rfl ?_
  refine ov (xlen Try.underlying66 rfl) rfl rfl rfl ?_
  refine ov (xneq rfl rfl _ rfl) rfl rfl rfl ?_
  refine ods (fun c10 => ?_) (fun c10 => ?_)
  · exfalso; omega
  ·
    refine ops_nil ?_
    refine run_cond_f rfl ?_
    refine run_skip ?_
    refine run_seq ?_
    refine run_seq ?_
    refine run_region ?_
    refine ov (xassign rfl) rfl rfl rfl ?_
    refine ops_nil ?_
    refine run_block ?_
    refine run_loop (ι := Nat × World) (fun x_ => match x_ with | (k, wr) => (Ext w wr) ∧ (w.heap.size ≤ wr.heap.size) ∧ (k ≤ n)) (fun x_ => match x_ with | (k, wr) => [(0, .slice p n c), (1, .slice q m d), (5, .int .i64 (k : Int))]) (fun x_ => match x_ with | (k, wr) => wr) (fun x_ => match x_ with | (k, wr) => n - k) ?_ (0, w) (⟨E, Nat.le_refl _, by omega⟩) ⟨rfl, rfl, rfl, trivial⟩ rfl
    intro i_ hI_ hback4
    obtain ⟨k, wr⟩ := i_
    obtain ⟨E, lz_wr, hk⟩ := hI_
    try dsimp only
    have zr := E.size
    refine run_seq ?_
    refine run_seq ?_
    refine run_region ?_
    refine ov (xmove rfl) rfl rfl rfl ?_
    refine ov (xmove rfl) rfl rfl rfl ?_
    refine ov (xlen Try.underlying66 rfl) rfl rfl rfl ?_
    refine ov (xlss rfl rfl _ rfl) rfl rfl rfl ?_
    refine ods (fun c14 => ?_) (fun c14 => ?_)
    ·
      refine ops_nil ?_
      refine run_cond_t rfl ?_
      refine run_skip ?_
      refine run_seq ?_
      refine run_block ?_
      refine run_seq ?_
      refine run_draw (by kernel_rfl) (by kernel_rfl) ?_
      refine qv (fun w' x_ => xmove rfl) rfl rfl rfl ?_
      refine qv (fun w' x_ => xmove rfl) rfl rfl rfl ?_
      have h19 := (H.ext E).at (i := k) (by omega)
      refine qv (fun w' x_ => xindexN (i := k) Try.underlying66 Try.sizeOf9 rfl rfl rfl ((H.ext E).p (i := k) (by omega)) (by have := (H.ext E).len; omega)) rfl rfl rfl ?_
      refine qv (v := .string xs[k]) (fun w' x_ => xloadz Try.isAgg9 rfl ((h19).ext x_) rfl) rfl rfl rfl ?_
      refine qv (fun w' x_ => xmove rfl) rfl rfl rfl ?_
      refine qv (fun w' x_ => xmove rfl) rfl rfl rfl ?_
      have h23 := (K.ext E).at (i := k) (by omega)
      refine qv (fun w' x_ => xindexN (i := k) Try.underlying66 Try.sizeOf9 rfl rfl rfl ((K.ext E).p (i := k) (by omega)) (by have := (K.ext E).len; omega)) rfl rfl rfl ?_
      refine qv (v := .string xs[k]) (fun w' x_ => xloadz Try.isAgg9 rfl ((h23).ext x_) rfl) rfl rfl rfl ?_
      refine qv (fun w' x_ => xsneq rfl rfl _ rfl) rfl rfl rfl ?_
      refine qds (fun c25 => ?_) (fun c25 => ?_)
      · exfalso; exact c25 rfl
      ·
        refine q_nil ?_
        intro w1 e1
        have z1 := e1.size
        have E := E.trans e1
        refine run_cond_f rfl ?_
        refine run_skip ?_
        refine run_inBlock ?_
        refine run_region ?_
        refine ov (xmove rfl) rfl rfl rfl ?_
        refine ov (xadd rfl rfl (by unfold I64; omega)) rfl rfl rfl ?_
        refine ov (xassign rfl) rfl rfl rfl ?_
        refine ops_nil ?_
        refine run_sub ?_ (hback4 (k + 1, w1) (⟨E, by omega, by omega⟩) (by first | omega | (dsimp only; omega)))
        exact ⟨rfl, rfl, rfl, trivial⟩
    ·
      refine ops_nil ?_
      refine run_cond_f rfl ?_
      refine run_exit rfl ?_
      refine run_seq ?_
      refine run_region ?_
      refine ov (xassign rfl) rfl rfl rfl ?_
      refine ops_nil ?_
      refine run_ret Try.func48 (res1 rfl rfl) ?_
      exact ⟨_, rfl, rfl, E⟩
end Go.Proofs.Ytnjohcbamblilaa
