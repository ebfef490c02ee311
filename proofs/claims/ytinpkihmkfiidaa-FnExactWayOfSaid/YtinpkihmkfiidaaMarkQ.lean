/-
  Marks in slices of questions. No condition beyond those written in each theorem.
-/
import Derived.Test.YtinpkihmkfiidaaTQues
import Derived.Test.YtinpkihmkfiidaaLists
import Derived.Test.YtinpkihmkfiidaaMark
import Derived.Test.YtinpkihmkfiidaaMarkB
namespace Go.Proofs.Ytinpkihmkfiidaa
open Go.RowKit
set_option linter.unusedVariables false
set_option linter.unusedSimpArgs false
set_option linter.unusedSectionVars false
set_option maxRecDepth 4000

def mkQuestionS (_ : Question) (k : Int) : Question := ⟨markT (k), k + 1, k + 1 + 1⟩

set_option maxHeartbeats 400000 in
theorem markQuestionS_a (b n c : Nat) (xs : List Question) (k0 : Int) (lo hi : Nat) (spare : List Value) (w : World) (O : Own w b ((xs.map Question.cells).flatten ++ spare) 80) (hn : n = xs.length) (h1 : lo ≤ b) (h2 : b < hi) (hk0 : 0 ≤ k0) (hk1 : k0 ≤ 1000000000000) (hn2 : n ≤ 1000000000) : Ret Try.prog 43 [.slice (some ⟨b, 0, none⟩) n c, .int .i64 k0] w (fun v w' => v = .int .i64 (k0 + 3 * n) ∧ Mk lo hi w w' ∧ Own w' b (((markAll mkQuestionS 3 xs k0).map Question.cells).flatten ++ spare) 80) := by
  refine ret_of_run (N := 35) Try.func43 rfl rfl rfl ?_
  have E : Mk lo hi w w := Mk.refl _ _ _
  refine run_seq ?_
  refine run_region ?_
  refine ov (xassign rfl) rfl rfl rfl ?_
  refine ops_nil ?_
  refine run_seq ?_
  refine run_seq ?_
  refine run_region ?_
  refine ov (xassign rfl) rfl rfl rfl ?_
  refine ops_nil ?_
  refine run_block ?_
  refine run_loop (ι := Nat × Int × World) (fun x_ => match x_ with | (i, kk, wr) => (Mk lo hi w wr) ∧ (Own wr b (((markTo mkQuestionS 3 xs k0 i).map Question.cells).flatten ++ spare) 80) ∧ (w.heap.size ≤ wr.heap.size) ∧ (i ≤ n) ∧ (kk = k0 + 3 * (i : Int))) (fun x_ => match x_ with | (i, kk, wr) => [(0, .slice (some ⟨b, 0, none⟩) n c), (1, .int .i64 kk), (5, .int .i64 (i : Int))]) (fun x_ => match x_ with | (i, kk, wr) => wr) (fun x_ => match x_ with | (i, kk, wr) => n - i) ?_ (0, k0, w) (⟨E, by rw [markTo_zero]; exact O, Nat.le_refl _, by omega, by omega⟩) ⟨rfl, rfl, rfl, trivial⟩ rfl
  intro i_ hI_ hback2
  obtain ⟨i, kk, wr⟩ := i_
  obtain ⟨E, O_b, lz_wr, hi, hkk⟩ := hI_
  try dsimp only
  have zr := E.size
  have lt_b := O_b.lt
  refine run_seq ?_
  refine run_seq ?_
  refine run_region ?_
  refine ov (xmove rfl) rfl rfl rfl ?_
  refine ov (xmove rfl) rfl rfl rfl ?_
  refine ov (xlen Try.underlying25 rfl) rfl rfl rfl ?_
  refine ov (xlss rfl rfl _ rfl) rfl rfl rfl ?_
  refine ods (fun c9 => ?_) (fun c9 => ?_)
  ·
    rw [markTo_split (by omega)] at O_b
    refine ops_nil ?_
    refine run_cond_t rfl ?_
    refine run_skip ?_
    refine run_seq ?_
    refine run_block ?_
    refine run_seq ?_
    refine run_region ?_
    refine ov (xmove rfl) rfl rfl rfl ?_
    refine ov (xmove rfl) rfl rfl rfl ?_
    refine ov (xmove rfl) rfl rfl rfl ?_
    refine oc (xcall Try.call107 rfl) rfl rfl rfl (markText_ok (kk) _ (by omega) (by omega)) ?_
    rintro _ w1 ⟨rfl, e1⟩
    have z1 := e1.size
    have E := E.trans (Mk.ofExt e1)
    replace O_b := O_b.ext e1
    refine ov (xindexO (i := i) Try.underlying25 Try.sizeOf80 rfl rfl rfl (by omega)) rfl rfl rfl ?_
    refine ov (xfieldAddr fo80f0 rfl) rfl rfl rfl ?_
    refine ostoreMid (j := 0) (pre := (((markAll mkQuestionS 3 xs k0).take i).map Question.cells).flatten) (row := [.string xs[i].Label, .int .i64 xs[i].Yes, .int .i64 xs[i].No]) (post := (((xs.drop (i + 1)).map Question.cells).flatten ++ spare)) Try.sizeOf9 rfl rfl O_b (by rw [markTo_pre (sz := 3) (by omega) (fun _ => rfl)]; omega) (by simp) rfl rfl ?_
    intro w2 on2 O2
    have hz2 := on2.size
    have E := E.trans (Mk.ofOnly on2 (by omega) (by omega))
    replace O2 : Own w2 b ((((markAll mkQuestionS 3 xs k0).take i).map Question.cells).flatten ++ ([.string (markT kk), .int .i64 xs[i].Yes, .int .i64 xs[i].No] ++ (((xs.drop (i + 1)).map Question.cells).flatten ++ spare))) 80 := O2
    refine ops_nil ?_
    refine run_seq ?_
    refine run_region ?_
    refine ov (xmove rfl) rfl rfl rfl ?_
    refine ov (v := .int .i64 (kk + 1)) (xadd rfl rfl (by unfold I64; omega)) rfl rfl rfl ?_
    refine ov (xassign rfl) rfl rfl rfl ?_
    refine ops_nil ?_
    refine run_seq ?_
    refine run_region ?_
    refine ov (xmove rfl) rfl rfl rfl ?_
    refine ov (xmove rfl) rfl rfl rfl ?_
    refine ov (xmove rfl) rfl rfl rfl ?_
    refine ov (xindexO (i := i) Try.underlying25 Try.sizeOf80 rfl rfl rfl (by omega)) rfl rfl rfl ?_
    refine ov (xfieldAddr fo80f1 rfl) rfl rfl rfl ?_
    refine ostoreMid (j := 1) (pre := (((markAll mkQuestionS 3 xs k0).take i).map Question.cells).flatten) (row := [.string (markT kk), .int .i64 xs[i].Yes, .int .i64 xs[i].No]) (post := (((xs.drop (i + 1)).map Question.cells).flatten ++ spare)) Try.sizeOf2 rfl rfl O2 (by rw [markTo_pre (sz := 3) (by omega) (fun _ => rfl)]; omega) (by simp) rfl rfl ?_
    intro w3 on3 O3
    have hz3 := on3.size
    have E := E.trans (Mk.ofOnly on3 (by omega) (by omega))
    replace O3 : Own w3 b ((((markAll mkQuestionS 3 xs k0).take i).map Question.cells).flatten ++ ([.string (markT kk), .int .i64 (kk + 1), .int .i64 xs[i].No] ++ (((xs.drop (i + 1)).map Question.cells).flatten ++ spare))) 80 := O3
    refine ops_nil ?_
    refine run_seq ?_
    refine run_region ?_
    refine ov (xmove rfl) rfl rfl rfl ?_
    refine ov (v := .int .i64 (kk + 1 + 1)) (xadd rfl rfl (by unfold I64; omega)) rfl rfl rfl ?_
    refine ov (xassign rfl) rfl rfl rfl ?_
    refine ops_nil ?_
    refine run_seq ?_
    refine run_region ?_
    refine ov (xmove rfl) rfl rfl rfl ?_
    refine ov (xmove rfl) rfl rfl rfl ?_
    refine ov (xmove rfl) rfl rfl rfl ?_
    refine ov (xindexO (i := i) Try.underlying25 Try.sizeOf80 rfl rfl rfl (by omega)) rfl rfl rfl ?_
    refine ov (xfieldAddr fo80f2 rfl) rfl rfl rfl ?_
    refine ostoreMid (j := 2) (pre := (((markAll mkQuestionS 3 xs k0).take i).map Question.cells).flatten) (row := [.string (markT kk), .int .i64 (kk + 1), .int .i64 xs[i].No]) (post := (((xs.drop (i + 1)).map Question.cells).flatten ++ spare)) Try.sizeOf2 rfl rfl O3 (by rw [markTo_pre (sz := 3) (by omega) (fun _ => rfl)]; omega) (by simp) rfl rfl ?_
    intro w4 on4 O4
    have hz4 := on4.size
    have E := E.trans (Mk.ofOnly on4 (by omega) (by omega))
    replace O4 : Own w4 b ((((markAll mkQuestionS 3 xs k0).take i).map Question.cells).flatten ++ ([.string (markT kk), .int .i64 (kk + 1), .int .i64 (kk + 1 + 1)] ++ (((xs.drop (i + 1)).map Question.cells).flatten ++ spare))) 80 := O4
    refine ops_nil ?_
    refine run_region ?_
    refine ov (xmove rfl) rfl rfl rfl ?_
    refine ov (v := .int .i64 (kk + 1 + 1 + 1)) (xadd rfl rfl (by unfold I64; omega)) rfl rfl rfl ?_
    refine ov (xassign rfl) rfl rfl rfl ?_
    refine ops_nil ?_
    refine run_inBlock ?_
    refine run_region ?_
    refine ov (xmove rfl) rfl rfl rfl ?_
    refine ov (xadd rfl rfl (by unfold I64; omega)) rfl rfl rfl ?_
    refine ov (xassign rfl) rfl rfl rfl ?_
    refine ops_nil ?_
    refine run_sub ?_ (hback2 (i + 1, kk + 1 + 1 + 1, w4) (⟨E, by rw [← markTo_join (by omega) (by rw [← hkk] <;> rfl)]; exact O4, by omega, by omega, by omega⟩) (by dsimp only; omega))
    exact ⟨rfl, rfl, rfl, trivial⟩
  ·
    refine ops_nil ?_
    refine run_cond_f rfl ?_
    refine run_exit rfl ?_
    refine run_seq ?_
    refine run_region ?_
    refine ov (xmove rfl) rfl rfl rfl ?_
    refine ov (xassign rfl) rfl rfl rfl ?_
    refine ops_nil ?_
    refine run_ret Try.func43 (res1 rfl rfl) ?_
    obtain rfl : i = n := by omega
    exact ⟨_, rfl, by rw [hkk], E, by rw [← markTo_all hn]; exact O_b⟩

set_option maxHeartbeats 400000 in
theorem markQuestionS_b (p : Option Addr) (c : Nat) (k0 : Int) (w : World) : Ret Try.prog 43 [.slice p 0 c, .int .i64 k0] w (Ps w (.int .i64 k0)) := by
  refine ret_of_run (N := 35) Try.func43 rfl rfl rfl ?_
  have E : Ext w w := Ext.refl w
  refine run_seq ?_
  refine run_region ?_
  refine ov (xassign rfl) rfl rfl rfl ?_
  refine ops_nil ?_
  refine run_seq ?_
  refine run_seq ?_
  refine run_region ?_
  refine ov (xassign rfl) rfl rfl rfl ?_
  refine ops_nil ?_
  refine run_block ?_
  refine run_loop (ι := Unit) (fun _u => (True)) (fun _u => [(0, .slice p 0 c), (1, .int .i64 k0), (5, .int .i64 0)]) (fun _u => w) (fun _u => 0) ?_ () (trivial) ⟨rfl, rfl, rfl, trivial⟩ rfl
  intro _u hI_ hback2
  obtain ⟨_⟩ := hI_
  try dsimp only
  refine run_seq ?_
  refine run_seq ?_
  refine run_region ?_
  refine ov (xmove rfl) rfl rfl rfl ?_
  refine ov (xmove rfl) rfl rfl rfl ?_
  refine ov (xlen Try.underlying25 rfl) rfl rfl rfl ?_
  refine ov (xlss rfl rfl _ rfl) rfl rfl rfl ?_
  refine ods (fun c9 => ?_) (fun c9 => ?_)
  · exfalso; omega
  ·
    refine ops_nil ?_
    refine run_cond_f rfl ?_
    refine run_exit rfl ?_
    refine run_seq ?_
    refine run_region ?_
    refine ov (xmove rfl) rfl rfl rfl ?_
    refine ov (xassign rfl) rfl rfl rfl ?_
    refine ops_nil ?_
    refine run_ret Try.func43 (res1 rfl rfl) ?_
    exact ⟨_, rfl, rfl, rfl⟩


theorem markQuestionS_ok (p : Option Addr) (n c : Nat) (xs : List Question) (k0 : Int) (lo hi : Nat) (w : World) (ho : Ow Question.cells 3 80 w lo hi p n c xs) (hk0 : 0 ≤ k0) (hk1 : k0 ≤ 1000000000000) (hn2 : n ≤ 1000000000) :
    Ret Try.prog 43 [.slice p n c, .int .i64 k0] w (fun v w' => v = .int .i64 (k0 + 3 * n) ∧ Mk lo hi w w' ∧ Ow Question.cells 3 80 w' lo hi p n c (markAll mkQuestionS 3 xs k0)) := by
  rcases ho.row with ⟨h1, h2⟩ | ⟨b, s, h1, h2, h3, h4, h5⟩
  · have hn : n = 0 := by have := ho.cap; omega
    subst hn
    refine (markQuestionS_b p c k0 w).mono fun v w' ⟨hv, hw⟩ => ?_
    subst hw
    have hx : xs = [] := by have := ho.len; cases xs with | nil => rfl | cons y r => simp at this
    subst hx
    exact ⟨by rw [hv]; simp, Mk.refl _ _ _, ho⟩
  · subst h1
    exact (markQuestionS_a b n c xs k0 lo hi s w h4 ho.len h2 h3 hk0 hk1 hn2).mono fun v w' ⟨hv, hm, hO⟩ =>
      ⟨hv, hm, ⟨by rw [markAll_length]; exact ho.len, ho.cap, ho.big, .inr ⟨b, s, rfl, h2, h3, hO, h5⟩, fun _ _ => rfl⟩⟩
theorem atQuestionS {p : Option Addr} {n c : Nat} {xs : List Question} {k0 : Int} {w : World} (H : Sl Question.cells 3 w p n c (markAll mkQuestionS 3 xs k0)) {i : Nat} (hi : i < xs.length) {kk : Int} (hkk : kk = k0 + 3 * (i : Int)) : Cells w (pb p) (po p + i * 3) [.string (markT kk), .int .i64 (kk + 1), .int .i64 (kk + 1 + 1)] := by
  subst hkk
  have h := H.at (i := i) (by rw [markAll_length]; exact hi)
  rw [markAll_at hi] at h
  exact h

end Go.Proofs.Ytinpkihmkfiidaa
