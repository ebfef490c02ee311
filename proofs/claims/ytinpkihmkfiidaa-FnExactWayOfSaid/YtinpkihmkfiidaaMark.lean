/-
  The marks that a law writes. No condition beyond those written in each theorem.
-/
import Derived.Test.YtinpkihmkfiidaaLists
namespace Go.Proofs.Ytinpkihmkfiidaa
open Go.RowKit
set_option linter.unusedVariables false
set_option linter.unusedSimpArgs false
set_option linter.unusedSectionVars false
set_option maxRecDepth 4000


def markGo : Nat → Nat → ByteArray → ByteArray
  | 0, _, out => out
  | g + 1, k, out => if k = 0 then out else markGo g (k / 10) (oneByte (48 + (k % 10 : Nat)) ++ out)
theorem markGo_zero (g : Nat) (out : ByteArray) : markGo g 0 out = out := by cases g <;> simp [markGo]
/-- the text that marks with k -/
def markT (k : Int) : ByteArray := if k ≤ 0 then ⟨#[109, 48]⟩ else ⟨#[109]⟩ ++ markGo k.toNat k.toNat ⟨#[]⟩


set_option maxHeartbeats 400000 in
theorem markText_ok (k : Int) (w : World) (h0 : 0 ≤ k) (h1 : k ≤ 10000000000000) : Ret Try.prog 107 [.int .i64 k] w (Pv w (.string (markT k))) := by
  refine ret_of_run (N := 20) Try.func107 rfl rfl rfl ?_
  have E : Ext w w := Ext.refl w
  refine run_seq ?_
  refine run_region ?_
  refine ov (xassign rfl) rfl rfl rfl ?_
  refine ops_nil ?_
  refine run_seq ?_
  refine run_seq ?_
  refine run_region ?_
  refine ov (xmove rfl) rfl rfl rfl ?_
  refine ov (xleq rfl rfl _ rfl) rfl rfl rfl ?_
  refine ods (fun c5 => ?_) (fun c5 => ?_)
  ·
    refine ops_nil ?_
    refine run_cond_t rfl ?_
    refine run_seq ?_
    refine run_region ?_
    refine ov (xassign rfl) rfl rfl rfl ?_
    refine ops_nil ?_
    refine run_ret Try.func107 (res1 rfl rfl) ?_
    exact ⟨_, rfl, by rw [markT, if_pos (by omega)], E⟩
  ·
    refine ops_nil ?_
    refine run_cond_f rfl ?_
    refine run_skip ?_
    refine run_seq ?_
    refine run_region ?_
    refine ov (xassign rfl) rfl rfl rfl ?_
    refine ops_nil ?_
    refine run_seq ?_
    refine run_block ?_
    refine run_loop (ι := Nat × Int × ByteArray × World) (fun x_ => match x_ with | (g, kk, out, wr) => (Ext w wr) ∧ (w.heap.size ≤ wr.heap.size) ∧ (0 ≤ kk) ∧ (kk ≤ 10000000000000) ∧ (kk ≤ g) ∧ ((g : Int) ≤ 10000000000000) ∧ (out.size + g ≤ 10000000000000) ∧ (markGo k.toNat k.toNat ⟨#[]⟩ = markGo g kk.toNat out)) (fun x_ => match x_ with | (g, kk, out, wr) => [(0, .int .i64 kk), (3, .string out)]) (fun x_ => match x_ with | (g, kk, out, wr) => wr) (fun x_ => match x_ with | (g, kk, out, wr) => g) ?_ (k.toNat, k, ⟨#[]⟩, w) (⟨E, Nat.le_refl _, by omega, by omega, by omega, by omega, by show 0 + k.toNat ≤ _; omega, rfl⟩) ⟨rfl, rfl, trivial⟩ rfl
    intro i_ hI_ hback4
    obtain ⟨g, kk, out, wr⟩ := i_
    obtain ⟨E, lz_wr, hk, hk1, hg, hgk, ho, hm⟩ := hI_
    try dsimp only
    have zr := E.size
    refine run_seq ?_
    refine run_seq ?_
    refine run_region ?_
    refine ov (xmove rfl) rfl rfl rfl ?_
    refine ov (xgtr rfl rfl _ rfl) rfl rfl rfl ?_
    refine ods (fun c7 => ?_) (fun c7 => ?_)
    ·
      refine ops_nil ?_
      refine run_cond_t rfl ?_
      refine run_skip ?_
      refine run_block ?_
      refine run_seq ?_
      refine run_region ?_
      refine ov (xmove rfl) rfl rfl rfl ?_
      refine ov (v := .int .i64 (kk % 10)) (xrem rfl rfl (by omega) (by omega)) rfl rfl rfl ?_
      refine ov (v := .int .i64 (48 + kk % 10)) (xadd rfl rfl (by unfold I64; omega)) rfl rfl rfl ?_
      refine ov (v := .int .u8 (48 + kk % 10)) (xconvu8 Try.underlying3 Try.underlying5 rfl (by omega) (by omega)) rfl rfl rfl ?_
      refine obuild (cs := [.int .u8 (48 + kk % 10)]) (sz := 1) Try.underlying63 inf5 rfl rfl (by decide) rfl rfl (by simp [Value.cells]) rfl rfl rfl ?_
      intro b1 w1 e1 hb1 hz1 O1
      have E := E.trans e1
      refine ov (xconvs1 Try.underlying63 Try.underlying5 Try.underlying9 rfl O1.cells) rfl rfl rfl ?_
      refine ov (xmove rfl) rfl rfl rfl ?_
      refine ov (xsadd rfl rfl (by rw [oneByte_size]; omega)) rfl rfl rfl ?_
      refine ov (xassign rfl) rfl rfl rfl ?_
      refine ops_nil ?_
      refine run_region ?_
      refine ov (xmove rfl) rfl rfl rfl ?_
      refine ov (v := .int .i64 (kk / 10)) (xquo rfl rfl (by omega) (by omega) (by unfold I64; omega)) rfl rfl rfl ?_
      refine ov (xassign rfl) rfl rfl rfl ?_
      refine ops_nil ?_
      refine run_inBlock ?_
      refine run_sub ?_ (hback4 (g - 1, kk / 10, oneByte (48 + kk % 10) ++ out, w1) (⟨E, by omega, by omega, by omega, by omega, by omega, by simp only [ByteArray.size_append, oneByte_size]; omega, by rw [hm, show g = (g - 1) + 1 from by omega, markGo, if_neg (by omega), Nat.add_sub_cancel, show (kk / 10).toNat = kk.toNat / 10 from by omega, show (48 + kk % 10) = (48 + ((kk.toNat % 10 : Nat) : Int)) from by omega]⟩) (by first | omega | (dsimp only; omega)))
      exact ⟨rfl, rfl, trivial⟩
    ·
      refine ops_nil ?_
      refine run_cond_f rfl ?_
      refine run_exit rfl ?_
      refine run_seq ?_
      refine run_region ?_
      refine ov (xmove rfl) rfl rfl rfl ?_
      refine ov (xsadd rfl rfl (by show 1 + _ ≤ _; omega)) rfl rfl rfl ?_
      refine ov (xassign rfl) rfl rfl rfl ?_
      refine ops_nil ?_
      refine run_ret Try.func107 (res1 rfl rfl) ?_
      obtain rfl : kk = 0 := by omega
      exact ⟨_, rfl, by rw [markT, if_neg (by omega), hm, Int.toNat_zero, markGo_zero], E⟩
end Go.Proofs.Ytinpkihmkfiidaa
