/-
  Texts cut at a byte. No condition beyond those written in each theorem.
-/
import Derived.Test.YtgbedilaiefcbaaTmpl
import Derived.Test.YtgbedilaiefcbaaRg
import Derived.Laws.Strings3
namespace Go.Proofs.Ytgbedilaiefcbaa
open Go.RowKit
set_option linter.unusedVariables false
set_option linter.unusedSimpArgs false
set_option linter.unusedSectionVars false
set_option maxRecDepth 4000

section
variable {P : Program} {N : Nat} {σ : Env} {w : World} {d : Option Tmp} {ty : TypeId} {pos : String} {aft : Array Edge} {gd : Option (Nat × Bool)}
theorem xsliceSh {x z : Operand} {t : TypeId} {s : ByteArray} {j : Int} {k' : IntKind} (ht : P.underlying t = some .string) (hx : ev σ x = some (.string s)) (hz : ev σ z = some (.int k' j)) (h1 : 0 ≤ j) (h2 : j ≤ s.size) :
    XV P N σ ⟨d, .slice t x none (some z) none, ty, pos, aft, gd⟩ w (.string (s.extract 0 j.toNat)) w := fun a ha => by
  have h := run_slice_string_to_if (P := P) (w := w) t s k' j ht
  rw [if_pos (by omega)] at h
  simp [execOp, ha.eval hx, ha.eval hz, run_sliceAt_string (P := P) (w := w) t _ _ _ _ ht, h, Result.andThen]
theorem xsliceSl {x y : Operand} {t : TypeId} {s : ByteArray} {i : Int} {k : IntKind} (ht : P.underlying t = some .string) (hx : ev σ x = some (.string s)) (hy : ev σ y = some (.int k i)) (h1 : 0 ≤ i) (h2 : i ≤ s.size) :
    XV P N σ ⟨d, .slice t x (some y) none none, ty, pos, aft, gd⟩ w (.string (s.extract i.toNat s.size)) w := fun a ha => by
  have h := run_slice_string_from_if (P := P) (w := w) t s k i ht
  rw [if_pos (by omega)] at h
  simp [execOp, ha.eval hx, ha.eval hy, run_sliceAt_string (P := P) (w := w) t _ _ _ _ ht, h, Result.andThen]
end


set_option maxHeartbeats 1000000 in
theorem l28Until_ok (s : ByteArray) (b : Nat) (w : World) (hs : s.size ≤ 9223372036854775807) : Ret Try.prog 68 [.string s, .int .u8 (b : Int)] w (Pv w (.tuple #[.string (untilT s b).1, .string (untilT s b).2.1, .bool (untilT s b).2.2])) := by
  refine ret_of_run (N := 26) Try.func68 rfl rfl rfl ?_
  have E : Ext w w := Ext.refl w
  refine run_seq ?_
  refine run_region ?_
  refine ov (xassign rfl) rfl rfl rfl ?_
  refine ov (xassign rfl) rfl rfl rfl ?_
  refine ov (xassign rfl) rfl rfl rfl ?_
  refine ops_nil ?_
  refine run_seq ?_
  refine run_seq ?_
  refine run_region ?_
  refine ov (xassign rfl) rfl rfl rfl ?_
  refine ops_nil ?_
  refine run_block ?_
  refine run_loop (ι := Nat × World) (fun x_ => match x_ with | (k, wr) => (Ext w wr) ∧ (w.heap.size ≤ wr.heap.size) ∧ (k ≤ s.size) ∧ (∀ j, j < k → isB b (bAt s j) = false)) (fun x_ => match x_ with | (k, wr) => [(0, .string s), (1, .int .u8 (b : Int)), (7, .int .i64 (k : Int))]) (fun x_ => match x_ with | (k, wr) => wr) (fun x_ => match x_ with | (k, wr) => s.size - k) ?_ (0, w) (⟨E, Nat.le_refl _, by omega, fun j h => absurd h (Nat.not_lt_zero j)⟩) ⟨rfl, rfl, rfl, trivial⟩ rfl
  intro i_ hI_ hback2
  obtain ⟨k, wr⟩ := i_
  obtain ⟨E, lz_wr, hk, ha⟩ := hI_
  try dsimp only
  have zr := E.size
  refine run_seq ?_
  refine run_seq ?_
  refine run_region ?_
  refine ov (xmove rfl) rfl rfl rfl ?_
  refine ov (xmove rfl) rfl rfl rfl ?_
  refine ov (xlens Try.underlying9 rfl) rfl rfl rfl ?_
  refine ov (xlss rfl rfl _ rfl) rfl rfl rfl ?_
  refine ods (fun c11 => ?_) (fun c11 => ?_)
  ·
    refine ops_nil ?_
    refine run_cond_t rfl ?_
    refine run_skip ?_
    refine run_seq ?_
    refine run_block ?_
    refine run_seq ?_
    refine run_region ?_
    refine ov (xmove rfl) rfl rfl rfl ?_
    refine ov (xmove rfl) rfl rfl rfl ?_
    refine ov (v := .int .u8 (bAt s k : Int)) (xindexS (i := k) Try.underlying9 rfl rfl rfl (by omega)) rfl rfl rfl ?_
    refine ov (xmove rfl) rfl rfl rfl ?_
    refine ov (xeql rfl rfl _ rfl) rfl rfl rfl ?_
    refine ods (fun c18 => ?_) (fun c18 => ?_)
    ·
      refine ops_nil ?_
      refine run_cond_t rfl ?_
      refine run_seq ?_
      refine run_draw (by kernel_rfl) (by kernel_rfl) ?_
      refine qv (fun w' x_ => xmove rfl) rfl rfl rfl ?_
      refine qv (fun w' x_ => xmove rfl) rfl rfl rfl ?_
      refine qv (fun w' x_ => xsliceSh Try.underlying9 rfl rfl (by omega) (by omega)) rfl rfl rfl ?_
      refine qv (fun w' x_ => xmove rfl) rfl rfl rfl ?_
      refine qv (fun w' x_ => xmove rfl) rfl rfl rfl ?_
      refine qv (fun w' x_ => xadd rfl rfl (by unfold I64; omega)) rfl rfl rfl ?_
      refine qv (fun w' x_ => xsliceSl Try.underlying9 rfl rfl (by omega) (by omega)) rfl rfl rfl ?_
      refine qv (fun w' x_ => xassign rfl) rfl rfl rfl ?_
      refine qv (fun w' x_ => xassign rfl) rfl rfl rfl ?_
      refine qv (fun w' x_ => xassign rfl) rfl rfl rfl ?_
      refine q_nil ?_
      intro w1 e1
      have z1 := e1.size
      have E := E.trans e1
      refine run_ret Try.func68 (res3 rfl rfl rfl rfl) ?_
      have he := untilT_t (by omega) ha (by omega : bAt s k = b)
      exact ⟨_, rfl, by rw [he]; rfl, E⟩
    ·
      refine ops_nil ?_
      refine run_cond_f rfl ?_
      refine run_skip ?_
      refine run_inBlock ?_
      refine run_region ?_
      refine ov (xmove rfl) rfl rfl rfl ?_
      refine ov (xadd rfl rfl (by unfold I64; omega)) rfl rfl rfl ?_
      refine ov (xassign rfl) rfl rfl rfl ?_
      refine ops_nil ?_
      refine run_sub ?_ (hback2 (k + 1, wr) (⟨E, by omega, by omega, below1 ha (decide_eq_false (by omega))⟩) (by first | omega | (dsimp only; omega)))
      exact ⟨rfl, rfl, rfl, trivial⟩
  ·
    refine ops_nil ?_
    refine run_cond_f rfl ?_
    refine run_exit rfl ?_
    refine run_seq ?_
    refine run_region ?_
    refine ov (xassign rfl) rfl rfl rfl ?_
    refine ov (xassign rfl) rfl rfl rfl ?_
    refine ov (xassign rfl) rfl rfl rfl ?_
    refine ops_nil ?_
    refine run_ret Try.func68 (res3 rfl rfl rfl rfl) ?_
    obtain rfl : k = s.size := by omega
    have he := untilT_f ha
    exact ⟨_, rfl, by rw [he], E⟩

set_option maxHeartbeats 1000000 in
theorem l28Next_ok (s : ByteArray) (w : World) (hs : s.size ≤ 9223372036854775807) : Ret Try.prog 83 [.string s] w (Pv w (.tuple #[.string (nextT s).1, .int .u8 ((nextT s).2.1 : Int), .string (nextT s).2.2])) := by
  refine ret_of_run (N := 30) Try.func83 rfl rfl rfl ?_
  have E : Ext w w := Ext.refl w
  refine run_seq ?_
  refine run_region ?_
  refine ov (xassign rfl) rfl rfl rfl ?_
  refine ov (xassign rfl) rfl rfl rfl ?_
  refine ov (xassign rfl) rfl rfl rfl ?_
  refine ops_nil ?_
  refine run_seq ?_
  refine run_seq ?_
  refine run_region ?_
  refine ov (xassign rfl) rfl rfl rfl ?_
  refine ops_nil ?_
  refine run_block ?_
  refine run_loop (ι := Nat × World) (fun x_ => match x_ with | (k, wr) => (Ext w wr) ∧ (w.heap.size ≤ wr.heap.size) ∧ (k ≤ s.size) ∧ (∀ j, j < k → bad1 (bAt s j) = false)) (fun x_ => match x_ with | (k, wr) => [(0, .string s), (5, .int .i64 (k : Int))]) (fun x_ => match x_ with | (k, wr) => wr) (fun x_ => match x_ with | (k, wr) => s.size - k) ?_ (0, w) (⟨E, Nat.le_refl _, by omega, fun j h => absurd h (Nat.not_lt_zero j)⟩) ⟨rfl, rfl, trivial⟩ rfl
  intro i_ hI_ hback2
  obtain ⟨k, wr⟩ := i_
  obtain ⟨E, lz_wr, hk, ha⟩ := hI_
  try dsimp only
  have zr := E.size
  refine run_seq ?_
  refine run_seq ?_
  refine run_region ?_
  refine ov (xmove rfl) rfl rfl rfl ?_
  refine ov (xmove rfl) rfl rfl rfl ?_
  refine ov (xlens Try.underlying9 rfl) rfl rfl rfl ?_
  refine ov (xlss rfl rfl _ rfl) rfl rfl rfl ?_
  refine ods (fun c9 => ?_) (fun c9 => ?_)
  ·
    refine ops_nil ?_
    refine run_cond_t rfl ?_
    refine run_skip ?_
    refine run_seq ?_
    refine run_block ?_
    refine run_seq ?_
    refine run_region ?_
    refine ov (xmove rfl) rfl rfl rfl ?_
    refine ov (xmove rfl) rfl rfl rfl ?_
    refine ov (xmove rfl) rfl rfl rfl ?_
    refine ov (xadd rfl rfl (by unfold I64; omega)) rfl rfl rfl ?_
    refine ov (xsliceS Try.underlying9 rfl rfl rfl (by omega) (by omega) (by omega)) rfl rfl rfl ?_
    refine oc (xcall Try.call40 rfl) rfl rfl rfl (l28Plain_ok (s.extract k (k + 1)) _ (by rw [ByteArray.size_extract]; omega)) ?_
    rintro _ w1 ⟨rfl, e1⟩
    have z1 := e1.size
    have E := E.trans e1
    refine obs (fun c17 => ?_) (fun c17 => ?_)
    ·
      refine ov (xnot rfl) rfl rfl rfl ?_
      refine ops_nil ?_
      refine run_cond_f rfl ?_
      refine run_skip ?_
      refine run_inBlock ?_
      refine run_region ?_
      refine ov (xmove rfl) rfl rfl rfl ?_
      refine ov (xadd rfl rfl (by unfold I64; omega)) rfl rfl rfl ?_
      refine ov (xassign rfl) rfl rfl rfl ?_
      refine ops_nil ?_
      refine run_sub ?_ (hback2 (k + 1, w1) (⟨E, by omega, by omega, below1 ha (by rw [plain5_one (by omega)] at c17; simpa using c17)⟩) (by first | omega | (dsimp only; omega)))
      exact ⟨rfl, rfl, trivial⟩
    ·
      refine ov (xnot rfl) rfl rfl rfl ?_
      refine ops_nil ?_
      refine run_cond_t rfl ?_
      refine run_seq ?_
      refine run_draw (by kernel_rfl) (by kernel_rfl) ?_
      refine qv (fun w' x_ => xmove rfl) rfl rfl rfl ?_
      refine qv (fun w' x_ => xmove rfl) rfl rfl rfl ?_
      refine qv (fun w' x_ => xsliceSh Try.underlying9 rfl rfl (by omega) (by omega)) rfl rfl rfl ?_
      refine qv (fun w' x_ => xmove rfl) rfl rfl rfl ?_
      refine qv (fun w' x_ => xmove rfl) rfl rfl rfl ?_
      refine qv (v := .int .u8 (bAt s k : Int)) (fun w' x_ => xindexS (i := k) Try.underlying9 rfl rfl rfl (by omega)) rfl rfl rfl ?_
      refine qv (fun w' x_ => xmove rfl) rfl rfl rfl ?_
      refine qv (fun w' x_ => xmove rfl) rfl rfl rfl ?_
      refine qv (fun w' x_ => xadd rfl rfl (by unfold I64; omega)) rfl rfl rfl ?_
      refine qv (fun w' x_ => xsliceSl Try.underlying9 rfl rfl (by omega) (by omega)) rfl rfl rfl ?_
      refine qv (fun w' x_ => xassign rfl) rfl rfl rfl ?_
      refine qv (fun w' x_ => xassign rfl) rfl rfl rfl ?_
      refine qv (fun w' x_ => xassign rfl) rfl rfl rfl ?_
      refine q_nil ?_
      intro w2 e2
      have z2 := e2.size
      have E := E.trans e2
      refine run_ret Try.func83 (res3 rfl rfl rfl rfl) ?_
      have he := nextT_t (by omega) ha (by rw [plain5_one (by omega)] at c17; simpa using c17)
      exact ⟨_, rfl, by rw [he]; rfl, E⟩
  ·
    refine ops_nil ?_
    refine run_cond_f rfl ?_
    refine run_exit rfl ?_
    refine run_seq ?_
    refine run_region ?_
    refine ov (xmove rfl) rfl rfl rfl ?_
    refine ov (xassign rfl) rfl rfl rfl ?_
    refine ov (xassign rfl) rfl rfl rfl ?_
    refine ov (xassign rfl) rfl rfl rfl ?_
    refine ops_nil ?_
    refine run_ret Try.func83 (res3 rfl rfl rfl rfl) ?_
    obtain rfl : k = s.size := by omega
    have he := nextT_f ha
    exact ⟨_, rfl, by rw [he]; rfl, E⟩
end Go.Proofs.Ytgbedilaiefcbaa
