/-
  Marks in handings. No condition beyond those written in each theorem.
-/
import Derived.Test.YtnjohcbamblilaaTExh
import Derived.Test.YtnjohcbamblilaaMark
import Derived.Test.YtnjohcbamblilaaMarkB
import Derived.Test.YtnjohcbamblilaaEqB
namespace Go.Proofs.Ytnjohcbamblilaa
open Go.RowKit
set_option linter.unusedVariables false
set_option linter.unusedSimpArgs false
set_option linter.unusedSectionVars false
set_option maxRecDepth 4000

def mkHandingS (_ : Handing) (k : Int) : Handing := ⟨k, markT (k + 1), markT (k + 1 + 1), k + 1 + 1 + 1⟩

set_option maxHeartbeats 400000 in
theorem markHandingS_a (b n c : Nat) (xs : List Handing) (k0 : Int) (lo hi : Nat) (spare : List Value) (w : World) (O : Own w b ((xs.map Handing.cells).flatten ++ spare) 77) (hn : n = xs.length) (h1 : lo ≤ b) (h2 : b < hi) (hk0 : 0 ≤ k0) (hk1 : k0 ≤ 1000000000000) (hn2 : n ≤ 1000000000) : Ret Try.prog 111 [.slice (some ⟨b, 0, none⟩) n c, .int .i64 k0] w (fun v w' => v = .int .i64 (k0 + 4 * n) ∧ Mk lo hi w w' ∧ Own w' b (((markAll mkHandingS 4 xs k0).map Handing.cells).flatten ++ spare) 77) := by
  refine ret_of_run (N := 43) Try.func111 rfl rfl rfl ?_
  have E : Mk lo hi w w := Mk.refl _ _ _
  refine run_seq ?_
  refine run_region ?_
  refine ov (xassign rfl) rfl rfl rfl ?_
  refine ops_nil ?_
  refine run_seq ?_
  refine run_seq ?_
  refine run_region ?_
  refine ov (xassign rfl) rfl rfl rfl ?_
  refine ops_nil ?_
  refine run_block ?_
  refine run_loop (ι := Nat × Int × World) (fun x_ => match x_ with | (i, kk, wr) => (Mk lo hi w wr) ∧ (Own wr b (((markTo mkHandingS 4 xs k0 i).map Handing.cells).flatten ++ spare) 77) ∧ (w.heap.size ≤ wr.heap.size) ∧ (i ≤ n) ∧ (kk = k0 + 4 * (i : Int))) (fun x_ => match x_ with | (i, kk, wr) => [(0, .slice (some ⟨b, 0, none⟩) n c), (1, .int .i64 kk), (5, .int .i64 (i : Int))]) (fun x_ => match x_ with | (i, kk, wr) => wr) (fun x_ => match x_ with | (i, kk, wr) => n - i) ?_ (0, k0, w) (⟨E, by rw [markTo_zero]; exact O, Nat.le_refl _, by omega, by omega⟩) ⟨rfl, rfl, rfl, trivial⟩ rfl
  intro i_ hI_ hback2
  obtain ⟨i, kk, wr⟩ := i_
  obtain ⟨E, O_b, lz_wr, hi, hkk⟩ := hI_
  try dsimp only
  have zr := E.size
  have lt_b := O_b.lt
  refine run_seq ?_
  refine run_seq ?_
  refine run_region ?_
  refine ov (xmove rfl) rfl rfl rfl ?_
  refine ov (xmove rfl) rfl rfl rfl ?_
  refine ov (xlen Try.underlying47 rfl) rfl rfl rfl ?_
  refine ov (xlss rfl rfl _ rfl) rfl rfl rfl ?_
  refine ods (fun c9 => ?_) (fun c9 => ?_)
  ·
    rw [markTo_split (by omega)] at O_b
    refine ops_nil ?_
    refine run_cond_t rfl ?_
    refine run_skip ?_
    refine run_seq ?_
    refine run_block ?_
    refine run_seq ?_
    refine run_region ?_
    refine ov (xmove rfl) rfl rfl rfl ?_
    refine ov (xmove rfl) rfl rfl rfl ?_
    refine ov (xmove rfl) rfl rfl rfl ?_
    refine ov (xindexO (i := i) Try.underlying47 Try.sizeOf77 rfl rfl rfl (by omega)) rfl rfl rfl ?_
    refine ov (xfieldAddr fo77f0 rfl) rfl rfl rfl ?_
    refine ostoreMid (j := 0) (pre := (((markAll mkHandingS 4 xs k0).take i).map Handing.cells).flatten) (row := [.int .i64 xs[i].Day, .string xs[i].From, .string xs[i].To, .int .i64 xs[i].Seal]) (post := (((xs.drop (i + 1)).map Handing.cells).flatten ++ spare)) Try.sizeOf2 rfl rfl O_b (by rw [markTo_pre (sz := 4) (by omega) (fun _ => rfl)]; omega) (by simp) rfl rfl ?_
    intro w1 on1 O1
    have hz1 := on1.size
    have E := E.trans (Mk.ofOnly on1 (by omega) (by omega))
    replace O1 : Own w1 b ((((markAll mkHandingS 4 xs k0).take i).map Handing.cells).flatten ++ ([.int .i64 kk, .string xs[i].From, .string xs[i].To, .int .i64 xs[i].Seal] ++ (((xs.drop (i + 1)).map Handing.cells).flatten ++ spare))) 77 := O1
    refine ops_nil ?_
    refine run_seq ?_
    refine run_region ?_
    refine ov (xmove rfl) rfl rfl rfl ?_
    refine ov (v := .int .i64 (kk + 1)) (xadd rfl rfl (by unfold I64; omega)) rfl rfl rfl ?_
    refine ov (xassign rfl) rfl rfl rfl ?_
    refine ops_nil ?_
    refine run_seq ?_
    refine run_region ?_
    refine ov (xmove rfl) rfl rfl rfl ?_
    refine ov (xmove rfl) rfl rfl rfl ?_
    refine ov (xmove rfl) rfl rfl rfl ?_
    refine oc (xcall Try.call99 rfl) rfl rfl rfl (markText_ok ((kk + 1)) _ (by omega) (by omega)) ?_
    rintro _ w2 ⟨rfl, e2⟩
    have z2 := e2.size
    have E := E.trans (Mk.ofExt e2)
    replace O1 := O1.ext e2
    refine ov (xindexO (i := i) Try.underlying47 Try.sizeOf77 rfl rfl rfl (by omega)) rfl rfl rfl ?_
    refine ov (xfieldAddr fo77f1 rfl) rfl rfl rfl ?_
    refine ostoreMid (j := 1) (pre := (((markAll mkHandingS 4 xs k0).take i).map Handing.cells).flatten) (row := [.int .i64 kk, .string xs[i].From, .string xs[i].To, .int .i64 xs[i].Seal]) (post := (((xs.drop (i + 1)).map Handing.cells).flatten ++ spare)) Try.sizeOf9 rfl rfl O1 (by rw [markTo_pre (sz := 4) (by omega) (fun _ => rfl)]; omega) (by simp) rfl rfl ?_
    intro w3 on3 O3
    have hz3 := on3.size
    have E := E.trans (Mk.ofOnly on3 (by omega) (by omega))
    replace O3 : Own w3 b ((((markAll mkHandingS 4 xs k0).take i).map Handing.cells).flatten ++ ([.int .i64 kk, .string (markT (kk + 1)), .string xs[i].To, .int .i64 xs[i].Seal] ++ (((xs.drop (i + 1)).map Handing.cells).flatten ++ spare))) 77 := O3
    refine ops_nil ?_
    refine run_seq ?_
    refine run_region ?_
    refine ov (xmove rfl) rfl rfl rfl ?_
    refine ov (v := .int .i64 (kk + 1 + 1)) (xadd rfl rfl (by unfold I64; omega)) rfl rfl rfl ?_
    refine ov (xassign rfl) rfl rfl rfl ?_
    refine ops_nil ?_
    refine run_seq ?_
    refine run_region ?_
    refine ov (xmove rfl) rfl rfl rfl ?_
    refine ov (xmove rfl) rfl rfl rfl ?_
    refine ov (xmove rfl) rfl rfl rfl ?_
    refine oc (xcall Try.call99 rfl) rfl rfl rfl (markText_ok ((kk + 1 + 1)) _ (by omega) (by omega)) ?_
    rintro _ w4 ⟨rfl, e4⟩
    have z4 := e4.size
    have E := E.trans (Mk.ofExt e4)
    replace O3 := O3.ext e4
    refine ov (xindexO (i := i) Try.underlying47 Try.sizeOf77 rfl rfl rfl (by omega)) rfl rfl rfl ?_
    refine ov (xfieldAddr fo77f2 rfl) rfl rfl rfl ?_
    refine ostoreMid (j := 2) (pre := (((markAll mkHandingS 4 xs k0).take i).map Handing.cells).flatten) (row := [.int .i64 kk, .string (markT (kk + 1)), .string xs[i].To, .int .i64 xs[i].Seal]) (post := (((xs.drop (i + 1)).map Handing.cells).flatten ++ spare)) Try.sizeOf9 rfl rfl O3 (by rw [markTo_pre (sz := 4) (by omega) (fun _ => rfl)]; omega) (by simp) rfl rfl ?_
    intro w5 on5 O5
    have hz5 := on5.size
    have E := E.trans (Mk.ofOnly on5 (by omega) (by omega))
    replace O5 : Own w5 b ((((markAll mkHandingS 4 xs k0).take i).map Handing.cells).flatten ++ ([.int .i64 kk, .string (markT (kk + 1)), .string (markT (kk + 1 + 1)), .int .i64 xs[i].Seal] ++ (((xs.drop (i + 1)).map Handing.cells).flatten ++ spare))) 77 := O5
    refine ops_nil ?_
    refine run_seq ?_
    refine run_region ?_
    refine ov (xmove rfl) rfl rfl rfl ?_
    refine ov (v := .int .i64 (kk + 1 + 1 + 1)) (xadd rfl rfl (by unfold I64; omega)) rfl rfl rfl ?_
    refine ov (xassign rfl) rfl rfl rfl ?_
    refine ops_nil ?_
    refine run_seq ?_
    refine run_region ?_
    refine ov (xmove rfl) rfl rfl rfl ?_
    refine ov (xmove rfl) rfl rfl rfl ?_
    refine ov (xmove rfl) rfl rfl rfl ?_
    refine ov (xindexO (i := i) Try.underlying47 Try.sizeOf77 rfl rfl rfl (by omega)) rfl rfl rfl ?_
    refine ov (xfieldAddr fo77f3 rfl) rfl rfl rfl ?_
    refine ostoreMid (j := 3) (pre := (((markAll mkHandingS 4 xs k0).take i).map Handing.cells).flatten) (row := [.int .i64 kk, .string (markT (kk + 1)), .string (markT (kk + 1 + 1)), .int .i64 xs[i].Seal]) (post := (((xs.drop (i + 1)).map Handing.cells).flatten ++ spare)) Try.sizeOf2 rfl rfl O5 (by rw [markTo_pre (sz := 4) (by omega) (fun _ => rfl)]; omega) (by simp) rfl rfl ?_
    intro w6 on6 O6
    have hz6 := on6.size
    have E := E.trans (Mk.ofOnly on6 (by omega) (by omega))
    replace O6 : Own w6 b ((((markAll mkHandingS 4 xs k0).take i).map Handing.cells).flatten ++ ([.int .i64 kk, .string (markT (kk + 1)), .string (markT (kk + 1 + 1)), .int .i64 (kk + 1 + 1 + 1)] ++ (((xs.drop (i + 1)).map Handing.cells).flatten ++ spare))) 77 := O6
    refine ops_nil ?_
    refine run_region ?_
    refine ov (xmove rfl) rfl rfl rfl ?_
    refine ov (v := .int .i64 (kk + 1 + 1 + 1 + 1)) (xadd rfl rfl (by unfold I64; omega)) rfl rfl rfl ?_
    refine ov (xassign rfl) rfl rfl rfl ?_
    refine ops_nil ?_
    refine run_inBlock ?_
    refine run_region ?_
    refine ov (xmove rfl) rfl rfl rfl ?_
    refine ov (xadd rfl rfl (by unfold I64; omega)) rfl rfl rfl ?_
    refine ov (xassign rfl) rfl rfl rfl ?_
    refine ops_nil ?_
    refine run_sub ?_ (hback2 (i + 1, kk + 1 + 1 + 1 + 1, w6) (⟨E, by rw [← markTo_join (by omega) (by rw [← hkk] <;> rfl)]; exact O6, by omega, by omega, by omega⟩) (by dsimp only; omega))
    exact ⟨rfl, rfl, rfl, trivial⟩
  ·
    refine ops_nil ?_
    refine run_cond_f rfl ?_
    refine run_exit rfl ?_
    refine run_seq ?_
    refine run_region ?_
    refine ov (xmove rfl) rfl rfl rfl ?_
    refine ov (xassign rfl) rfl rfl rfl ?_
    refine ops_nil ?_
    refine run_ret Try.func111 (res1 rfl rfl) ?_
    obtain rfl : i = n := by omega
    exact ⟨_, rfl, by rw [hkk], E, by rw [← markTo_all hn]; exact O_b⟩

set_option maxHeartbeats 400000 in
theorem markHandingS_b (p : Option Addr) (c : Nat) (k0 : Int) (w : World) : Ret Try.prog 111 [.slice p 0 c, .int .i64 k0] w (Ps w (.int .i64 k0)) := by
  refine ret_of_run (N := 43) Try.func111 rfl rfl rfl ?_
  have E : Ext w w := Ext.refl w
  refine run_seq ?_
  refine run_region ?_
  refine ov (xassign rfl) rfl rfl rfl ?_
  refine ops_nil ?_
  refine run_seq ?_
  refine run_seq ?_
  refine run_region ?_
  refine ov (xassign rfl) rfl rfl rfl ?_
  refine ops_nil ?_
  refine run_block ?_
  refine run_loop (ι := Unit) (fun _u => (True)) (fun _u => [(0, .slice p 0 c), (1, .int .i64 k0), (5, .int .i64 0)]) (fun _u => w) (fun _u => 0) ?_ () (trivial) ⟨rfl, rfl, rfl, trivial⟩ rfl
  intro _u hI_ hback2
  obtain ⟨_⟩ := hI_
  try dsimp only
  refine run_seq ?_
  refine run_seq ?_
  refine run_region ?_
  refine ov (xmove rfl) rfl rfl rfl ?_
  refine ov (xmove rfl) rfl rfl rfl ?_
  refine ov (xlen Try.underlying47 rfl) rfl rfl rfl ?_
  refine ov (xlss rfl rfl _ rfl) rfl rfl rfl ?_
  refine ods (fun c9 => ?_) (fun c9 => ?_)
  · exfalso; omega
  ·
    refine ops_nil ?_
    refine run_cond_f rfl ?_
    refine run_exit rfl ?_
    refine run_seq ?_
    refine run_region ?_
    refine ov (xmove rfl) rfl rfl rfl ?_
    refine ov (xassign rfl) rfl rfl rfl ?_
    refine ops_nil ?_
    refine run_ret Try.func111 (res1 rfl rfl) ?_
    exact ⟨_, rfl, rfl, rfl⟩


theorem markHandingS_ok (p : Option Addr) (n c : Nat) (xs : List Handing) (k0 : Int) (lo hi : Nat) (w : World) (ho : Ow Handing.cells 4 77 w lo hi p n c xs) (hk0 : 0 ≤ k0) (hk1 : k0 ≤ 1000000000000) (hn2 : n ≤ 1000000000) :
    Ret Try.prog 111 [.slice p n c, .int .i64 k0] w (fun v w' => v = .int .i64 (k0 + 4 * n) ∧ Mk lo hi w w' ∧ Ow Handing.cells 4 77 w' lo hi p n c (markAll mkHandingS 4 xs k0)) := by
  rcases ho.row with ⟨h1, h2⟩ | ⟨b, s, h1, h2, h3, h4, h5⟩
  · have hn : n = 0 := by have := ho.cap; omega
    subst hn
    refine (markHandingS_b p c k0 w).mono fun v w' ⟨hv, hw⟩ => ?_
    subst hw
    have hx : xs = [] := by have := ho.len; cases xs with | nil => rfl | cons y r => simp at this
    subst hx
    exact ⟨by rw [hv]; simp, Mk.refl _ _ _, ho⟩
  · subst h1
    exact (markHandingS_a b n c xs k0 lo hi s w h4 ho.len h2 h3 hk0 hk1 hn2).mono fun v w' ⟨hv, hm, hO⟩ =>
      ⟨hv, hm, ⟨by rw [markAll_length]; exact ho.len, ho.cap, ho.big, .inr ⟨b, s, rfl, h2, h3, hO, h5⟩, fun _ _ => rfl⟩⟩
theorem atHandingS {p : Option Addr} {n c : Nat} {xs : List Handing} {k0 : Int} {w : World} (H : Sl Handing.cells 4 w p n c (markAll mkHandingS 4 xs k0)) {i : Nat} (hi : i < xs.length) {kk : Int} (hkk : kk = k0 + 4 * (i : Int)) : Cells w (pb p) (po p + i * 4) [.int .i64 kk, .string (markT (kk + 1)), .string (markT (kk + 1 + 1)), .int .i64 (kk + 1 + 1 + 1)] := by
  subst hkk
  have h := H.at (i := i) (by rw [markAll_length]; exact hi)
  rw [markAll_at hi] at h
  exact h


set_option maxHeartbeats 400000 in
theorem heldHandingS_ok (p : Option Addr) (n c : Nat) (xs : List Handing) (k0 : Int) (w : World) (H : Sl Handing.cells 4 w p n c (markAll mkHandingS 4 xs k0)) (hk0 : 0 ≤ k0) (hk1 : k0 ≤ 1000000000000) (hn2 : n ≤ 1000000000) : Ret Try.prog 119 [.slice p n c, .int .i64 k0] w (Pv w (.int .i64 (k0 + 4 * (n : Int)))) := by
  refine ret_of_run (N := 51) Try.func119 rfl rfl rfl ?_
  have hn := H.len
  rw [markAll_length] at hn
  have E : Ext w w := Ext.refl w
  refine run_seq ?_
  refine run_region ?_
  refine ov (xassign rfl) rfl rfl rfl ?_
  refine ops_nil ?_
  refine run_seq ?_
  refine run_seq ?_
  refine run_region ?_
  refine ov (xassign rfl) rfl rfl rfl ?_
  refine ops_nil ?_
  refine run_block ?_
  refine run_loop (ι := Nat × Int × World) (fun x_ => match x_ with | (i, kk, wr) => (Ext w wr) ∧ (w.heap.size ≤ wr.heap.size) ∧ (i ≤ n) ∧ (kk = k0 + 4 * (i : Int))) (fun x_ => match x_ with | (i, kk, wr) => [(0, .slice p n c), (1, .int .i64 kk), (5, .int .i64 (i : Int))]) (fun x_ => match x_ with | (i, kk, wr) => wr) (fun x_ => match x_ with | (i, kk, wr) => n - i) ?_ (0, k0, w) (⟨E, Nat.le_refl _, by omega, by omega⟩) ⟨rfl, rfl, rfl, trivial⟩ rfl
  intro i_ hI_ hback2
  obtain ⟨i, kk, wr⟩ := i_
  obtain ⟨E, lz_wr, hi, hkk⟩ := hI_
  try dsimp only
  have zr := E.size
  refine run_seq ?_
  refine run_seq ?_
  refine run_region ?_
  refine ov (xmove rfl) rfl rfl rfl ?_
  refine ov (xmove rfl) rfl rfl rfl ?_
  refine ov (xlen Try.underlying47 rfl) rfl rfl rfl ?_
  refine ov (xlss rfl rfl _ rfl) rfl rfl rfl ?_
  refine ods (fun c9 => ?_) (fun c9 => ?_)
  ·
    refine ops_nil ?_
    refine run_cond_t rfl ?_
    refine run_skip ?_
    refine run_seq ?_
    refine run_block ?_
    refine run_seq ?_
    refine run_seq ?_
    refine run_region ?_
    refine ov (xmove rfl) rfl rfl rfl ?_
    refine ov (xmove rfl) rfl rfl rfl ?_
    have h14 := atHandingS (H.ext E) (i := i) (by omega) hkk
    refine ov (xindexN (i := i) Try.underlying47 Try.sizeOf77 rfl rfl rfl ((H.ext E).p (i := i) (by rw [markAll_length]; omega)) (by omega)) rfl rfl rfl ?_
    refine ov (xfieldAddr fo77f0 rfl) rfl rfl rfl ?_
    refine ov (v := .int .i64 kk) (xload1 Try.isAgg2 rfl (h14) rfl) rfl rfl rfl ?_
    refine ov (xmove rfl) rfl rfl rfl ?_
    refine ov (xneq rfl rfl _ rfl) rfl rfl rfl ?_
    refine ods (fun c18 => ?_) (fun c18 => ?_)
    · exfalso; exact absurd rfl c18
    ·
      refine ops_nil ?_
      refine run_cond_f rfl ?_
      refine run_skip ?_
      refine run_seq ?_
      refine run_region ?_
      refine ov (xmove rfl) rfl rfl rfl ?_
      refine ov (v := .int .i64 (kk + 1)) (xadd rfl rfl (by unfold I64; omega)) rfl rfl rfl ?_
      refine ov (xassign rfl) rfl rfl rfl ?_
      refine ops_nil ?_
      refine run_seq ?_
      refine run_seq ?_
      refine run_draw (by kernel_rfl) (by kernel_rfl) ?_
      refine qv (fun w' x_ => xmove rfl) rfl rfl rfl ?_
      refine qv (fun w' x_ => xmove rfl) rfl rfl rfl ?_
      have h23 := atHandingS (H.ext E) (i := i) (by omega) hkk
      refine qv (fun w' x_ => xindexN (i := i) Try.underlying47 Try.sizeOf77 rfl rfl rfl ((H.ext E).p (i := i) (by rw [markAll_length]; omega)) (by omega)) rfl rfl rfl ?_
      refine qv (fun w' x_ => xfieldAddr fo77f1 rfl) rfl rfl rfl ?_
      refine qv (v := .string (markT (kk + 1))) (fun w' x_ => xload1 Try.isAgg9 rfl ((h23).ext x_) rfl) rfl rfl rfl ?_
      refine qv (fun w' x_ => xmove rfl) rfl rfl rfl ?_
      have t27 := fun (w' : World) (x_ : Ext wr w') => Ret.q (w := w') (markText_ok ((kk + 1)) _ (by omega) (by omega))
      refine qc (fun w' => xcall Try.call99 rfl) rfl rfl rfl t27 ?_
      clear t27
      refine qv (fun w' x_ => xsneq rfl rfl _ rfl) rfl rfl rfl ?_
      refine qds (fun c28 => ?_) (fun c28 => ?_)
      · exfalso; exact absurd rfl c28
      ·
        refine q_nil ?_
        intro w1 e1
        have z1 := e1.size
        have E := E.trans e1
        refine run_cond_f rfl ?_
        refine run_skip ?_
        refine run_seq ?_
        refine run_region ?_
        refine ov (xmove rfl) rfl rfl rfl ?_
        refine ov (v := .int .i64 (kk + 1 + 1)) (xadd rfl rfl (by unfold I64; omega)) rfl rfl rfl ?_
        refine ov (xassign rfl) rfl rfl rfl ?_
        refine ops_nil ?_
        refine run_seq ?_
        refine run_seq ?_
        refine run_draw (by kernel_rfl) (by kernel_rfl) ?_
        refine qv (fun w' x_ => xmove rfl) rfl rfl rfl ?_
        refine qv (fun w' x_ => xmove rfl) rfl rfl rfl ?_
        have h33 := atHandingS (H.ext E) (i := i) (by omega) hkk
        refine qv (fun w' x_ => xindexN (i := i) Try.underlying47 Try.sizeOf77 rfl rfl rfl ((H.ext E).p (i := i) (by rw [markAll_length]; omega)) (by omega)) rfl rfl rfl ?_
        refine qv (fun w' x_ => xfieldAddr fo77f2 rfl) rfl rfl rfl ?_
        refine qv (v := .string (markT (kk + 1 + 1))) (fun w' x_ => xload1 Try.isAgg9 rfl ((h33).ext x_) rfl) rfl rfl rfl ?_
        refine qv (fun w' x_ => xmove rfl) rfl rfl rfl ?_
        have t37 := fun (w' : World) (x_ : Ext w1 w') => Ret.q (w := w') (markText_ok ((kk + 1 + 1)) _ (by omega) (by omega))
        refine qc (fun w' => xcall Try.call99 rfl) rfl rfl rfl t37 ?_
        clear t37
        refine qv (fun w' x_ => xsneq rfl rfl _ rfl) rfl rfl rfl ?_
        refine qds (fun c38 => ?_) (fun c38 => ?_)
        · exfalso; exact absurd rfl c38
        ·
          refine q_nil ?_
          intro w2 e2
          have z2 := e2.size
          have E := E.trans e2
          refine run_cond_f rfl ?_
          refine run_skip ?_
          refine run_seq ?_
          refine run_region ?_
          refine ov (xmove rfl) rfl rfl rfl ?_
          refine ov (v := .int .i64 (kk + 1 + 1 + 1)) (xadd rfl rfl (by unfold I64; omega)) rfl rfl rfl ?_
          refine ov (xassign rfl) rfl rfl rfl ?_
          refine ops_nil ?_
          refine run_seq ?_
          refine run_seq ?_
          refine run_region ?_
          refine ov (xmove rfl) rfl rfl rfl ?_
          refine ov (xmove rfl) rfl rfl rfl ?_
          have h43 := atHandingS (H.ext E) (i := i) (by omega) hkk
          refine ov (xindexN (i := i) Try.underlying47 Try.sizeOf77 rfl rfl rfl ((H.ext E).p (i := i) (by rw [markAll_length]; omega)) (by omega)) rfl rfl rfl ?_
          refine ov (xfieldAddr fo77f3 rfl) rfl rfl rfl ?_
          refine ov (v := .int .i64 (kk + 1 + 1 + 1)) (xload1 Try.isAgg2 rfl (h43) rfl) rfl rfl rfl ?_
          refine ov (xmove rfl) rfl rfl rfl ?_
          refine ov (xneq rfl rfl _ rfl) rfl rfl rfl ?_
          refine ods (fun c47 => ?_) (fun c47 => ?_)
          · exfalso; exact absurd rfl c47
          ·
            refine ops_nil ?_
            refine run_cond_f rfl ?_
            refine run_skip ?_
            refine run_region ?_
            refine ov (xmove rfl) rfl rfl rfl ?_
            refine ov (v := .int .i64 (kk + 1 + 1 + 1 + 1)) (xadd rfl rfl (by unfold I64; omega)) rfl rfl rfl ?_
            refine ov (xassign rfl) rfl rfl rfl ?_
            refine ops_nil ?_
            refine run_inBlock ?_
            refine run_region ?_
            refine ov (xmove rfl) rfl rfl rfl ?_
            refine ov (xadd rfl rfl (by unfold I64; omega)) rfl rfl rfl ?_
            refine ov (xassign rfl) rfl rfl rfl ?_
            refine ops_nil ?_
            refine run_sub ?_ (hback2 (i + 1, kk + 1 + 1 + 1 + 1, w2) (⟨E, by omega, by omega, by omega⟩) (by first | omega | (dsimp only; omega)))
            exact ⟨rfl, rfl, rfl, trivial⟩
  ·
    refine ops_nil ?_
    refine run_cond_f rfl ?_
    refine run_exit rfl ?_
    refine run_seq ?_
    refine run_region ?_
    refine ov (xmove rfl) rfl rfl rfl ?_
    refine ov (xassign rfl) rfl rfl rfl ?_
    refine ops_nil ?_
    refine run_ret Try.func119 (res1 rfl rfl) ?_
    obtain rfl : i = n := by omega
    exact ⟨_, rfl, by rw [hkk], E⟩

set_option maxHeartbeats 400000 in
theorem markExhibit_ok (f0 : ByteArray) (f1 : ByteArray) (f2 : Int) (f3 : Int) (p : Option Addr) (n c : Nat) (xs : List Handing) (k0 : Int) (lo hi : Nat) (w : World) (ho : Ow Handing.cells 4 77 w lo hi p n c xs) (hh : hi ≤ w.heap.size) (hk0 : 0 ≤ k0) (hk1 : k0 ≤ 1000000000000) (hn2 : n ≤ 1000000000) : Ret Try.prog 41 [.agg #[.string f0, .string f1, .int .i64 f2, .int .i64 f3, .slice p n c], .int .i64 k0] w (fun v w' => v = .int .i64 (k0 + 4 * (n : Int)) ∧ Mk lo hi w w' ∧ Ow Handing.cells 4 77 w' lo hi p n c (markAll mkHandingS 4 xs k0)) := by
  refine ret_of_run (N := 10) Try.func41 rfl rfl rfl ?_
  have E : Mk lo hi w w := Mk.refl _ _ _
  refine run_seq ?_
  refine run_region ?_
  refine obox rfl rfl rfl ?_
  intro b1 w1 e1 hb1 hz1 O1
  have E := E.trans (Mk.ofExt e1)
  replace ho := ho.ext e1
  replace O1 : Own w1 b1 [.string f0, .string f1, .int .i64 f2, .int .i64 f3, .slice p n c] 49 := O1
  refine ov (xassign rfl) rfl rfl rfl ?_
  refine ops_nil ?_
  refine run_seq ?_
  refine run_region ?_
  refine ov (xfieldAddr fo49f4 rfl) rfl rfl rfl ?_
  refine ov (v := .slice p n c) (xload1 Try.isAgg47 rfl (O1.cells) rfl) rfl rfl rfl ?_
  refine ov (xmove rfl) rfl rfl rfl ?_
  refine oc (xcall Try.call111 rfl) rfl rfl rfl (markHandingS_ok _ _ _ _ _ _ _ _ ho (by omega) (by omega) (by omega)) ?_
  rintro _ w2 ⟨rfl, m2, g2⟩
  have z2 := m2.size
  have E := E.trans m2
  replace O1 := m2.own O1 (by omega)
  replace ho := g2
  refine ov (xassign rfl) rfl rfl rfl ?_
  refine ops_nil ?_
  refine run_seq ?_
  refine run_region ?_
  refine ov (xmove rfl) rfl rfl rfl ?_
  refine ov (xassign rfl) rfl rfl rfl ?_
  refine ops_nil ?_
  refine run_ret Try.func41 (res1 rfl rfl) ?_
  exact ⟨_, rfl, rfl, E, ho⟩

set_option maxHeartbeats 400000 in
theorem heldExhibit_ok (f0 : ByteArray) (f1 : ByteArray) (f2 : Int) (f3 : Int) (p : Option Addr) (n c : Nat) (xs : List Handing) (k0 : Int) (w : World) (H : Sl Handing.cells 4 w p n c (markAll mkHandingS 4 xs k0)) (hk0 : 0 ≤ k0) (hk1 : k0 ≤ 1000000000000) (hn2 : n ≤ 1000000000) : Ret Try.prog 57 [.agg #[.string f0, .string f1, .int .i64 f2, .int .i64 f3, .slice p n c], .int .i64 k0] w (Pv w (.int .i64 (k0 + 4 * (n : Int)))) := by
  refine ret_of_run (N := 12) Try.func57 rfl rfl rfl ?_
  have E : Ext w w := Ext.refl w
  refine run_seq ?_
  refine run_region ?_
  refine obox rfl rfl rfl ?_
  intro b1 w1 e1 hb1 hz1 O1
  have E := E.trans e1
  replace O1 : Own w1 b1 [.string f0, .string f1, .int .i64 f2, .int .i64 f3, .slice p n c] 49 := O1
  refine ov (xassign rfl) rfl rfl rfl ?_
  refine ops_nil ?_
  refine run_seq ?_
  refine run_region ?_
  refine ov (xfieldAddr fo49f4 rfl) rfl rfl rfl ?_
  refine ov (v := .slice p n c) (xload1 Try.isAgg47 rfl (O1.cells) rfl) rfl rfl rfl ?_
  refine ov (xmove rfl) rfl rfl rfl ?_
  refine oc (xcall Try.call119 rfl) rfl rfl rfl (heldHandingS_ok _ _ _ _ _ _ (H.ext E) (by omega) (by omega) (by omega)) ?_
  rintro _ w2 ⟨rfl, e2⟩
  have z2 := e2.size
  have E := E.trans e2
  replace O1 := O1.ext e2
  refine ov (xassign rfl) rfl rfl rfl ?_
  refine ops_nil ?_
  refine run_seq ?_
  refine run_seq ?_
  refine run_region ?_
  refine ov (xmove rfl) rfl rfl rfl ?_
  refine ov (xlss rfl rfl _ rfl) rfl rfl rfl ?_
  refine ods (fun c10 => ?_) (fun c10 => ?_)
  · exfalso; omega
  ·
    refine ops_nil ?_
    refine run_cond_f rfl ?_
    refine run_skip ?_
    refine run_seq ?_
    refine run_region ?_
    refine ov (xmove rfl) rfl rfl rfl ?_
    refine ov (xassign rfl) rfl rfl rfl ?_
    refine ops_nil ?_
    refine run_ret Try.func57 (res1 rfl rfl) ?_
    exact ⟨_, rfl, pv E⟩
end Go.Proofs.Ytnjohcbamblilaa
