/-
  Marks in slices of numbers and of texts. No condition beyond those written in each theorem.
-/
import Derived.Test.YtinpkihmkfiidaaMark
namespace Go.Proofs.Ytinpkihmkfiidaa
open Go.RowKit
set_option linter.unusedVariables false
set_option linter.unusedSimpArgs false
set_option linter.unusedSectionVars false
set_option maxRecDepth 4000




def mkInt64S (_ : Int) (k : Int) : Int := k

set_option maxHeartbeats 400000 in
theorem markInt64S_a (b n c : Nat) (xs : List Int) (k0 : Int) (lo hi : Nat) (spare : List Value) (w : World) (O : Own w b ((xs.map i64c).flatten ++ spare) 2) (hn : n = xs.length) (h1 : lo ≤ b) (h2 : b < hi) (hk0 : 0 ≤ k0) (hk1 : k0 ≤ 1000000000000) (hn2 : n ≤ 1000000000) : Ret Try.prog 44 [.slice (some ⟨b, 0, none⟩) n c, .int .i64 k0] w (fun v w' => v = .int .i64 (k0 + 1 * n) ∧ Mk lo hi w w' ∧ Own w' b (((markAll mkInt64S 1 xs k0).map i64c).flatten ++ spare) 2) := by
  refine ret_of_run (N := 19) Try.func44 rfl rfl rfl ?_
  have E : Mk lo hi w w := Mk.refl _ _ _
  refine run_seq ?_
  refine run_region ?_
  refine ov (xassign rfl) rfl rfl rfl ?_
  refine ops_nil ?_
  refine run_seq ?_
  refine run_seq ?_
  refine run_region ?_
  refine ov (xassign rfl) rfl rfl rfl ?_
  refine ops_nil ?_
  refine run_block ?_
  refine run_loop (ι := Nat × Int × World) (fun x_ => match x_ with | (i, kk, wr) => (Mk lo hi w wr) ∧ (Own wr b (((markTo mkInt64S 1 xs k0 i).map i64c).flatten ++ spare) 2) ∧ (w.heap.size ≤ wr.heap.size) ∧ (i ≤ n) ∧ (kk = k0 + 1 * (i : Int))) (fun x_ => match x_ with | (i, kk, wr) => [(0, .slice (some ⟨b, 0, none⟩) n c), (1, .int .i64 kk), (5, .int .i64 (i : Int))]) (fun x_ => match x_ with | (i, kk, wr) => wr) (fun x_ => match x_ with | (i, kk, wr) => n - i) ?_ (0, k0, w) (⟨E, by rw [markTo_zero]; exact O, Nat.le_refl _, by omega, by omega⟩) ⟨rfl, rfl, rfl, trivial⟩ rfl
  intro i_ hI_ hback2
  obtain ⟨i, kk, wr⟩ := i_
  obtain ⟨E, O_b, lz_wr, hi, hkk⟩ := hI_
  try dsimp only
  have zr := E.size
  have lt_b := O_b.lt
  refine run_seq ?_
  refine run_seq ?_
  refine run_region ?_
  refine ov (xmove rfl) rfl rfl rfl ?_
  refine ov (xmove rfl) rfl rfl rfl ?_
  refine ov (xlen Try.underlying31 rfl) rfl rfl rfl ?_
  refine ov (xlss rfl rfl _ rfl) rfl rfl rfl ?_
  refine ods (fun c9 => ?_) (fun c9 => ?_)
  ·
    rw [markTo_split (by omega)] at O_b
    refine ops_nil ?_
    refine run_cond_t rfl ?_
    refine run_skip ?_
    refine run_seq ?_
    refine run_block ?_
    refine run_seq ?_
    refine run_region ?_
    refine ov (xmove rfl) rfl rfl rfl ?_
    refine ov (xmove rfl) rfl rfl rfl ?_
    refine ov (xmove rfl) rfl rfl rfl ?_
    refine ov (xindexO (i := i) Try.underlying31 Try.sizeOf2 rfl rfl rfl (by omega)) rfl rfl rfl ?_
    refine ostoreMid (j := 0) (pre := (((markAll mkInt64S 1 xs k0).take i).map i64c).flatten) (row := [.int .i64 xs[i]]) (post := (((xs.drop (i + 1)).map i64c).flatten ++ spare)) Try.sizeOf2 rfl rfl O_b (by rw [markTo_pre (sz := 1) (by omega) (fun _ => rfl)]; omega) (by simp) rfl rfl ?_
    intro w1 on1 O1
    have hz1 := on1.size
    have E := E.trans (Mk.ofOnly on1 (by omega) (by omega))
    replace O1 : Own w1 b ((((markAll mkInt64S 1 xs k0).take i).map i64c).flatten ++ ([.int .i64 kk] ++ (((xs.drop (i + 1)).map i64c).flatten ++ spare))) 2 := O1
    refine ops_nil ?_
    refine run_region ?_
    refine ov (xmove rfl) rfl rfl rfl ?_
    refine ov (v := .int .i64 (kk + 1)) (xadd rfl rfl (by unfold I64; omega)) rfl rfl rfl ?_
    refine ov (xassign rfl) rfl rfl rfl ?_
    refine ops_nil ?_
    refine run_inBlock ?_
    refine run_region ?_
    refine ov (xmove rfl) rfl rfl rfl ?_
    refine ov (xadd rfl rfl (by unfold I64; omega)) rfl rfl rfl ?_
    refine ov (xassign rfl) rfl rfl rfl ?_
    refine ops_nil ?_
    refine run_sub ?_ (hback2 (i + 1, kk + 1, w1) (⟨E, by rw [← markTo_join (by omega) (by rw [← hkk] <;> rfl)]; exact O1, by omega, by omega, by omega⟩) (by dsimp only; omega))
    exact ⟨rfl, rfl, rfl, trivial⟩
  ·
    refine ops_nil ?_
    refine run_cond_f rfl ?_
    refine run_exit rfl ?_
    refine run_seq ?_
    refine run_region ?_
    refine ov (xmove rfl) rfl rfl rfl ?_
    refine ov (xassign rfl) rfl rfl rfl ?_
    refine ops_nil ?_
    refine run_ret Try.func44 (res1 rfl rfl) ?_
    obtain rfl : i = n := by omega
    exact ⟨_, rfl, by rw [hkk], E, by rw [← markTo_all hn]; exact O_b⟩

set_option maxHeartbeats 400000 in
theorem markInt64S_b (p : Option Addr) (c : Nat) (k0 : Int) (w : World) : Ret Try.prog 44 [.slice p 0 c, .int .i64 k0] w (Ps w (.int .i64 k0)) := by
  refine ret_of_run (N := 19) Try.func44 rfl rfl rfl ?_
  have E : Ext w w := Ext.refl w
  refine run_seq ?_
  refine run_region ?_
  refine ov (xassign rfl) rfl rfl rfl ?_
  refine ops_nil ?_
  refine run_seq ?_
  refine run_seq ?_
  refine run_region ?_
  refine ov (xassign rfl) rfl rfl rfl ?_
  refine ops_nil ?_
  refine run_block ?_
  refine run_loop (ι := Unit) (fun _u => (True)) (fun _u => [(0, .slice p 0 c), (1, .int .i64 k0), (5, .int .i64 0)]) (fun _u => w) (fun _u => 0) ?_ () (trivial) ⟨rfl, rfl, rfl, trivial⟩ rfl
  intro _u hI_ hback2
  obtain ⟨_⟩ := hI_
  try dsimp only
  refine run_seq ?_
  refine run_seq ?_
  refine run_region ?_
  refine ov (xmove rfl) rfl rfl rfl ?_
  refine ov (xmove rfl) rfl rfl rfl ?_
  refine ov (xlen Try.underlying31 rfl) rfl rfl rfl ?_
  refine ov (xlss rfl rfl _ rfl) rfl rfl rfl ?_
  refine ods (fun c9 => ?_) (fun c9 => ?_)
  · exfalso; omega
  ·
    refine ops_nil ?_
    refine run_cond_f rfl ?_
    refine run_exit rfl ?_
    refine run_seq ?_
    refine run_region ?_
    refine ov (xmove rfl) rfl rfl rfl ?_
    refine ov (xassign rfl) rfl rfl rfl ?_
    refine ops_nil ?_
    refine run_ret Try.func44 (res1 rfl rfl) ?_
    exact ⟨_, rfl, rfl, rfl⟩


theorem markInt64S_ok (p : Option Addr) (n c : Nat) (xs : List Int) (k0 : Int) (lo hi : Nat) (w : World) (ho : Ow i64c 1 2 w lo hi p n c xs) (hk0 : 0 ≤ k0) (hk1 : k0 ≤ 1000000000000) (hn2 : n ≤ 1000000000) :
    Ret Try.prog 44 [.slice p n c, .int .i64 k0] w (fun v w' => v = .int .i64 (k0 + 1 * n) ∧ Mk lo hi w w' ∧ Ow i64c 1 2 w' lo hi p n c (markAll mkInt64S 1 xs k0)) := by
  rcases ho.row with ⟨h1, h2⟩ | ⟨b, s, h1, h2, h3, h4, h5⟩
  · have hn : n = 0 := by have := ho.cap; omega
    subst hn
    refine (markInt64S_b p c k0 w).mono fun v w' ⟨hv, hw⟩ => ?_
    subst hw
    have hx : xs = [] := by have := ho.len; cases xs with | nil => rfl | cons y r => simp at this
    subst hx
    exact ⟨by rw [hv]; simp, Mk.refl _ _ _, ho⟩
  · subst h1
    exact (markInt64S_a b n c xs k0 lo hi s w h4 ho.len h2 h3 hk0 hk1 hn2).mono fun v w' ⟨hv, hm, hO⟩ =>
      ⟨hv, hm, ⟨by rw [markAll_length]; exact ho.len, ho.cap, ho.big, .inr ⟨b, s, rfl, h2, h3, hO, h5⟩, fun _ _ => rfl⟩⟩
theorem atInt64S {p : Option Addr} {n c : Nat} {xs : List Int} {k0 : Int} {w : World} (H : Sl i64c 1 w p n c (markAll mkInt64S 1 xs k0)) {i : Nat} (hi : i < xs.length) {kk : Int} (hkk : kk = k0 + 1 * (i : Int)) : Cells w (pb p) (po p + i * 1) [.int .i64 kk] := by
  subst hkk
  have h := H.at (i := i) (by rw [markAll_length]; exact hi)
  rw [markAll_at hi] at h
  exact h


set_option maxHeartbeats 400000 in
theorem heldInt64S_ok (p : Option Addr) (n c : Nat) (xs : List Int) (k0 : Int) (w : World) (H : Sl i64c 1 w p n c (markAll mkInt64S 1 xs k0)) (hk0 : 0 ≤ k0) (hk1 : k0 ≤ 1000000000000) (hn2 : n ≤ 1000000000) : Ret Try.prog 45 [.slice p n c, .int .i64 k0] w (Pv w (.int .i64 (k0 + 1 * (n : Int)))) := by
  refine ret_of_run (N := 21) Try.func45 rfl rfl rfl ?_
  have hn := H.len
  rw [markAll_length] at hn
  have E : Ext w w := Ext.refl w
  refine run_seq ?_
  refine run_region ?_
  refine ov (xassign rfl) rfl rfl rfl ?_
  refine ops_nil ?_
  refine run_seq ?_
  refine run_seq ?_
  refine run_region ?_
  refine ov (xassign rfl) rfl rfl rfl ?_
  refine ops_nil ?_
  refine run_block ?_
  refine run_loop (ι := Nat × Int × World) (fun x_ => match x_ with | (i, kk, wr) => (Ext w wr) ∧ (w.heap.size ≤ wr.heap.size) ∧ (i ≤ n) ∧ (kk = k0 + 1 * (i : Int))) (fun x_ => match x_ with | (i, kk, wr) => [(0, .slice p n c), (1, .int .i64 kk), (5, .int .i64 (i : Int))]) (fun x_ => match x_ with | (i, kk, wr) => wr) (fun x_ => match x_ with | (i, kk, wr) => n - i) ?_ (0, k0, w) (⟨E, Nat.le_refl _, by omega, by omega⟩) ⟨rfl, rfl, rfl, trivial⟩ rfl
  intro i_ hI_ hback2
  obtain ⟨i, kk, wr⟩ := i_
  obtain ⟨E, lz_wr, hi, hkk⟩ := hI_
  try dsimp only
  have zr := E.size
  refine run_seq ?_
  refine run_seq ?_
  refine run_region ?_
  refine ov (xmove rfl) rfl rfl rfl ?_
  refine ov (xmove rfl) rfl rfl rfl ?_
  refine ov (xlen Try.underlying31 rfl) rfl rfl rfl ?_
  refine ov (xlss rfl rfl _ rfl) rfl rfl rfl ?_
  refine ods (fun c9 => ?_) (fun c9 => ?_)
  ·
    refine ops_nil ?_
    refine run_cond_t rfl ?_
    refine run_skip ?_
    refine run_seq ?_
    refine run_block ?_
    refine run_seq ?_
    refine run_seq ?_
    refine run_region ?_
    refine ov (xmove rfl) rfl rfl rfl ?_
    refine ov (xmove rfl) rfl rfl rfl ?_
    have h14 := atInt64S (H.ext E) (i := i) (by omega) hkk
    refine ov (xindexN (i := i) Try.underlying31 Try.sizeOf2 rfl rfl rfl ((H.ext E).p (i := i) (by rw [markAll_length]; omega)) (by omega)) rfl rfl rfl ?_
    refine ov (v := .int .i64 kk) (xloadz Try.isAgg2 rfl (h14) rfl) rfl rfl rfl ?_
    refine ov (xmove rfl) rfl rfl rfl ?_
    refine ov (xneq rfl rfl _ rfl) rfl rfl rfl ?_
    refine ods (fun c17 => ?_) (fun c17 => ?_)
    · exfalso; exact absurd rfl c17
    ·
      refine ops_nil ?_
      refine run_cond_f rfl ?_
      refine run_skip ?_
      refine run_region ?_
      refine ov (xmove rfl) rfl rfl rfl ?_
      refine ov (v := .int .i64 (kk + 1)) (xadd rfl rfl (by unfold I64; omega)) rfl rfl rfl ?_
      refine ov (xassign rfl) rfl rfl rfl ?_
      refine ops_nil ?_
      refine run_inBlock ?_
      refine run_region ?_
      refine ov (xmove rfl) rfl rfl rfl ?_
      refine ov (xadd rfl rfl (by unfold I64; omega)) rfl rfl rfl ?_
      refine ov (xassign rfl) rfl rfl rfl ?_
      refine ops_nil ?_
      refine run_sub ?_ (hback2 (i + 1, kk + 1, wr) (⟨E, by omega, by omega, by omega⟩) (by first | omega | (dsimp only; omega)))
      exact ⟨rfl, rfl, rfl, trivial⟩
  ·
    refine ops_nil ?_
    refine run_cond_f rfl ?_
    refine run_exit rfl ?_
    refine run_seq ?_
    refine run_region ?_
    refine ov (xmove rfl) rfl rfl rfl ?_
    refine ov (xassign rfl) rfl rfl rfl ?_
    refine ops_nil ?_
    refine run_ret Try.func45 (res1 rfl rfl) ?_
    obtain rfl : i = n := by omega
    exact ⟨_, rfl, by rw [hkk], E⟩
end Go.Proofs.Ytinpkihmkfiidaa
