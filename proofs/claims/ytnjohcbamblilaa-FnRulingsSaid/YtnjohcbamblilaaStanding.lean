/-
  The standing of an exhibit. No condition beyond those written in each theorem.
-/
import Derived.Test.YtnjohcbamblilaaRulings
namespace Go.Proofs.Ytnjohcbamblilaa
open Go.RowKit
set_option linter.unusedVariables false
set_option linter.unusedSimpArgs false
set_option linter.unusedSectionVars false
set_option maxRecDepth 4000


def stStep (code : ByteArray) (day : Int) (kd : Int) (r : Ruling) : Int := if r.Code = code ∧ r.Day ≤ day ∧ kd ≠ 3 then r.Kind else kd
def standing (xs : List Ruling) (code : ByteArray) (day : Int) : Int := xs.foldl (stStep code day) 2
def standingOn (xs : List Ruling) (code : ByteArray) (day : Int) : Int × Int :=
  if areRulings xs = false ∨ isWord code = false then (0, 1) else if inR 0 20000 day = false then (0, 2) else (standing xs code day, 0)


set_option maxHeartbeats 400000 in
theorem standing_ok (p : Option Addr) (n c : Nat) (xs : List Ruling) (code : ByteArray) (day : Int) (w : World) (H : Sl Ruling.cells 3 w p n c xs) : Ret Try.prog 97 [.slice p n c, .string code, .int .i64 day] w (Pv w (.int .i64 (standing xs code day))) := by
  refine ret_of_run (N := 34) Try.func97 rfl rfl rfl ?_
  have hn := H.len
  have hn6 := H.n64
  have E : Ext w w := Ext.refl w
  refine run_seq ?_
  refine run_region ?_
  refine ov (xassign rfl) rfl rfl rfl ?_
  refine ops_nil ?_
  refine run_seq ?_
  refine run_region ?_
  refine ov (xassign rfl) rfl rfl rfl ?_
  refine ops_nil ?_
  refine run_seq ?_
  refine run_seq ?_
  refine run_region ?_
  refine ov (xmove rfl) rfl rfl rfl ?_
  refine ov (xlen Try.underlying25 rfl) rfl rfl rfl ?_
  refine ov (xmove rfl) rfl rfl rfl ?_
  refine ops_nil ?_
  refine run_block ?_
  refine run_loop (ι := Nat × Int × World) (fun x_ => match x_ with | (k, kd, wr) => (Ext w wr) ∧ (w.heap.size ≤ wr.heap.size) ∧ (k ≤ n) ∧ (standing xs code day = (xs.drop k).foldl (stStep code day) kd)) (fun x_ => match x_ with | (k, kd, wr) => [(1, .string code), (2, .int .i64 day), (7, .int .i64 kd), (10, .slice p n c), (11, .int .i64 (n : Int)), (12, .int .i64 (k : Int))]) (fun x_ => match x_ with | (k, kd, wr) => wr) (fun x_ => match x_ with | (k, kd, wr) => n - k) ?_ (0, 2, w) (⟨E, Nat.le_refl _, by omega, rfl⟩) ⟨rfl, rfl, rfl, rfl, rfl, rfl, trivial⟩ rfl
  intro i_ hI_ hback3
  obtain ⟨k, kd, wr⟩ := i_
  obtain ⟨E, lz_wr, hk, hg⟩ := hI_
  try dsimp only
  have zr := E.size
  refine run_seq ?_
  refine run_region ?_
  refine ov (xlss rfl rfl _ rfl) rfl rfl rfl ?_
  refine ods (fun c13 => ?_) (fun c13 => ?_)
  ·
    refine ops_nil ?_
    refine run_seq ?_
    refine run_cond_t rfl ?_
    refine run_skip ?_
    refine run_seq ?_
    refine run_block ?_
    refine run_seq ?_
    refine run_region ?_
    have h14 := (H.ext E).at (i := k) (by omega)
    refine ov (xindexN (i := k) Try.underlying25 Try.sizeOf37 rfl rfl rfl ((H.ext E).p (i := k) (by omega)) (by have := (H.ext E).len; omega)) rfl rfl rfl ?_
    refine ov (v := .agg #[.int .i64 xs[k].Day, .string xs[k].Code, .int .i64 xs[k].Kind]) (xloadN Try.isAgg37 Try.sizeOf37 rfl (h14) rfl) rfl rfl rfl ?_
    refine oalloc Try.zeroValue37 rfl rfl ?_
    intro b1 w1 e1 hb1 hz1 O1
    have E := E.trans e1
    replace O1 : Own w1 b1 [.int .i64 0, .string ⟨#[]⟩, .int .i64 0] 37 := O1
    refine ostoreN (vs := _) Try.sizeOf37 rfl rfl O1 rfl (by simp) (by simp [Value.oneCell']) rfl ?_
    intro w2 on2 O2
    have hz2 := on2.size
    have E := on2.ext E (by omega)
    replace O2 : Own w2 b1 [.int .i64 xs[k].Day, .string xs[k].Code, .int .i64 xs[k].Kind] 37 := O2
    refine ops_nil ?_
    refine run_seq ?_
    refine run_region ?_
    refine ov (xfieldAddr fo37f1 rfl) rfl rfl rfl ?_
    refine ov (v := .string xs[k].Code) (xload1 Try.isAgg9 rfl (O2.cells) rfl) rfl rfl rfl ?_
    refine ov (xmove rfl) rfl rfl rfl ?_
    refine ov (xseql rfl rfl _ rfl) rfl rfl rfl ?_
    refine ods (fun c19 => ?_) (fun c19 => ?_)
    ·
      refine ov (xmove rfl) rfl rfl rfl ?_
      refine ov (xfieldAddr fo37f0 rfl) rfl rfl rfl ?_
      refine ov (v := .int .i64 xs[k].Day) (xload1 Try.isAgg2 rfl (O2.cells) rfl) rfl rfl rfl ?_
      refine ov (xmove rfl) rfl rfl rfl ?_
      refine ov (xleq rfl rfl _ rfl) rfl rfl rfl ?_
      refine ods (fun c24 => ?_) (fun c24 => ?_)
      ·
        refine ov (xpick_t rfl rfl) rfl rfl rfl ?_
        refine ov (xmove rfl) rfl rfl rfl ?_
        refine ov (xmove rfl) rfl rfl rfl ?_
        refine ov (xneq rfl rfl _ rfl) rfl rfl rfl ?_
        refine ods (fun c28 => ?_) (fun c28 => ?_)
        ·
          refine ov (xpick_t rfl rfl) rfl rfl rfl ?_
          refine ops_nil ?_
          refine run_cond_t rfl ?_
          refine run_region ?_
          refine ov (xfieldAddr fo37f2 rfl) rfl rfl rfl ?_
          refine ov (v := .int .i64 xs[k].Kind) (xload1 Try.isAgg2 rfl (O2.cells) rfl) rfl rfl rfl ?_
          refine ov (xassign rfl) rfl rfl rfl ?_
          refine ops_nil ?_
          refine run_inBlock ?_
          refine run_region ?_
          refine ov (xadd rfl rfl (by unfold I64; omega)) rfl rfl rfl ?_
          refine ov (xmove rfl) rfl rfl rfl ?_
          refine ops_nil ?_
          refine run_sub ?_ (hback3 (k + 1, xs[k].Kind, w2) (⟨E, by omega, by omega, by rw [hg, List.drop_eq_getElem_cons (by omega), List.foldl_cons]; congr 1; simp [stStep, c13, c19, c24, c28]⟩) (by first | omega | (dsimp only; omega)))
          exact ⟨rfl, rfl, rfl, rfl, rfl, rfl, trivial⟩
        ·
          refine ov (xpick_t rfl rfl) rfl rfl rfl ?_
          refine ops_nil ?_
          refine run_cond_f rfl ?_
          refine run_skip ?_
          refine run_inBlock ?_
          refine run_region ?_
          refine ov (xadd rfl rfl (by unfold I64; omega)) rfl rfl rfl ?_
          refine ov (xmove rfl) rfl rfl rfl ?_
          refine ops_nil ?_
          refine run_sub ?_ (hback3 (k + 1, kd, w2) (⟨E, by omega, by omega, by rw [hg, List.drop_eq_getElem_cons (by omega), List.foldl_cons]; congr 1; simp [stStep, c13, c19, c24, c28]⟩) (by first | omega | (dsimp only; omega)))
          exact ⟨rfl, rfl, rfl, rfl, rfl, rfl, trivial⟩
      ·
        refine ov (xpick_t rfl rfl) rfl rfl rfl ?_
        refine ov (xmove rfl) rfl rfl rfl ?_
        refine og rfl rfl rfl ?_
        refine og rfl rfl rfl ?_
        refine ov (xpick_f rfl rfl) rfl rfl rfl ?_
        refine ops_nil ?_
        refine run_cond_f rfl ?_
        refine run_skip ?_
        refine run_inBlock ?_
        refine run_region ?_
        refine ov (xadd rfl rfl (by unfold I64; omega)) rfl rfl rfl ?_
        refine ov (xmove rfl) rfl rfl rfl ?_
        refine ops_nil ?_
        refine run_sub ?_ (hback3 (k + 1, kd, w2) (⟨E, by omega, by omega, by rw [hg, List.drop_eq_getElem_cons (by omega), List.foldl_cons]; congr 1; simp [stStep, c13, c19, c24]⟩) (by first | omega | (dsimp only; omega)))
        exact ⟨rfl, rfl, rfl, rfl, rfl, rfl, trivial⟩
    ·
      refine ov (xmove rfl) rfl rfl rfl ?_
      refine og rfl rfl rfl ?_
      refine og rfl rfl rfl ?_
      refine og rfl rfl rfl ?_
      refine og rfl rfl rfl ?_
      refine ov (xpick_f rfl rfl) rfl rfl rfl ?_
      refine ov (xmove rfl) rfl rfl rfl ?_
      refine og rfl rfl rfl ?_
      refine og rfl rfl rfl ?_
      refine ov (xpick_f rfl rfl) rfl rfl rfl ?_
      refine ops_nil ?_
      refine run_cond_f rfl ?_
      refine run_skip ?_
      refine run_inBlock ?_
      refine run_region ?_
      refine ov (xadd rfl rfl (by unfold I64; omega)) rfl rfl rfl ?_
      refine ov (xmove rfl) rfl rfl rfl ?_
      refine ops_nil ?_
      refine run_sub ?_ (hback3 (k + 1, kd, w2) (⟨E, by omega, by omega, by rw [hg, List.drop_eq_getElem_cons (by omega), List.foldl_cons]; congr 1; simp [stStep, c13, c19]⟩) (by first | omega | (dsimp only; omega)))
      exact ⟨rfl, rfl, rfl, rfl, rfl, rfl, trivial⟩
  ·
    refine ops_nil ?_
    refine run_seq ?_
    refine run_cond_f rfl ?_
    refine run_exit rfl ?_
    refine run_seq ?_
    refine run_region ?_
    refine ov (xmove rfl) rfl rfl rfl ?_
    refine ov (xassign rfl) rfl rfl rfl ?_
    refine ops_nil ?_
    refine run_ret Try.func97 (res1 rfl rfl) ?_
    obtain rfl : k = n := by omega
    exact ⟨_, rfl, by rw [hg, hn, List.drop_length]; rfl, E⟩

set_option maxHeartbeats 400000 in
theorem sStanding_ok (p : Option Addr) (n c : Nat) (xs : List Ruling) (code : ByteArray) (day : Int) (w : World) (H : Sl Ruling.cells 3 w p n c xs) : Ret Try.prog 94 [.slice p n c, .string code, .int .i64 day] w (Pv w (.int .i64 (standing xs code day))) := by
  refine ret_of_run (N := 41) Try.func94 rfl rfl rfl ?_
  have hn := H.len
  have hn6 := H.n64
  have E : Ext w w := Ext.refl w
  refine run_seq ?_
  refine run_region ?_
  refine ov (xassign rfl) rfl rfl rfl ?_
  refine ops_nil ?_
  refine run_seq ?_
  refine run_region ?_
  refine ov (xassign rfl) rfl rfl rfl ?_
  refine ops_nil ?_
  refine run_seq ?_
  refine run_seq ?_
  refine run_region ?_
  refine ov (xassign rfl) rfl rfl rfl ?_
  refine ops_nil ?_
  refine run_block ?_
  refine run_loop (ι := Nat × Int × World) (fun x_ => match x_ with | (k, kd, wr) => (Ext w wr) ∧ (w.heap.size ≤ wr.heap.size) ∧ (k ≤ n) ∧ (standing xs code day = (xs.drop k).foldl (stStep code day) kd)) (fun x_ => match x_ with | (k, kd, wr) => [(0, .slice p n c), (1, .string code), (2, .int .i64 day), (7, .int .i64 kd), (8, .int .i64 (k : Int))]) (fun x_ => match x_ with | (k, kd, wr) => wr) (fun x_ => match x_ with | (k, kd, wr) => n - k) ?_ (0, 2, w) (⟨E, Nat.le_refl _, by omega, rfl⟩) ⟨rfl, rfl, rfl, rfl, rfl, trivial⟩ rfl
  intro i_ hI_ hback3
  obtain ⟨k, kd, wr⟩ := i_
  obtain ⟨E, lz_wr, hk, hg⟩ := hI_
  try dsimp only
  have zr := E.size
  refine run_seq ?_
  refine run_seq ?_
  refine run_region ?_
  refine ov (xmove rfl) rfl rfl rfl ?_
  refine ov (xmove rfl) rfl rfl rfl ?_
  refine ov (xlen Try.underlying25 rfl) rfl rfl rfl ?_
  refine ov (xlss rfl rfl _ rfl) rfl rfl rfl ?_
  refine ods (fun c12 => ?_) (fun c12 => ?_)
  ·
    refine ops_nil ?_
    refine run_cond_t rfl ?_
    refine run_skip ?_
    refine run_seq ?_
    refine run_block ?_
    refine run_seq ?_
    refine run_region ?_
    refine ov (xmove rfl) rfl rfl rfl ?_
    refine ov (xmove rfl) rfl rfl rfl ?_
    have h17 := (H.ext E).at (i := k) (by omega)
    refine ov (xindexN (i := k) Try.underlying25 Try.sizeOf37 rfl rfl rfl ((H.ext E).p (i := k) (by omega)) (by have := (H.ext E).len; omega)) rfl rfl rfl ?_
    refine ov (xfieldAddr fo37f1 rfl) rfl rfl rfl ?_
    refine ov (v := .string xs[k].Code) (xload1 Try.isAgg9 rfl (h17) rfl) rfl rfl rfl ?_
    refine ov (xmove rfl) rfl rfl rfl ?_
    refine ov (xseql rfl rfl _ rfl) rfl rfl rfl ?_
    refine ods (fun c21 => ?_) (fun c21 => ?_)
    ·
      refine ov (xmove rfl) rfl rfl rfl ?_
      refine ov (xmove rfl) rfl rfl rfl ?_
      refine ov (xmove rfl) rfl rfl rfl ?_
      have h25 := (H.ext E).at (i := k) (by omega)
      refine ov (xindexN (i := k) Try.underlying25 Try.sizeOf37 rfl rfl rfl ((H.ext E).p (i := k) (by omega)) (by have := (H.ext E).len; omega)) rfl rfl rfl ?_
      refine ov (xfieldAddr fo37f0 rfl) rfl rfl rfl ?_
      refine ov (v := .int .i64 xs[k].Day) (xload1 Try.isAgg2 rfl (h25) rfl) rfl rfl rfl ?_
      refine ov (xmove rfl) rfl rfl rfl ?_
      refine ov (xleq rfl rfl _ rfl) rfl rfl rfl ?_
      refine ods (fun c29 => ?_) (fun c29 => ?_)
      ·
        refine ov (xpick_t rfl rfl) rfl rfl rfl ?_
        refine ov (xmove rfl) rfl rfl rfl ?_
        refine ov (xmove rfl) rfl rfl rfl ?_
        refine ov (xneq rfl rfl _ rfl) rfl rfl rfl ?_
        refine ods (fun c33 => ?_) (fun c33 => ?_)
        ·
          refine ov (xpick_t rfl rfl) rfl rfl rfl ?_
          refine ops_nil ?_
          refine run_cond_t rfl ?_
          refine run_region ?_
          refine ov (xmove rfl) rfl rfl rfl ?_
          refine ov (xmove rfl) rfl rfl rfl ?_
          have h37 := (H.ext E).at (i := k) (by omega)
          refine ov (xindexN (i := k) Try.underlying25 Try.sizeOf37 rfl rfl rfl ((H.ext E).p (i := k) (by omega)) (by have := (H.ext E).len; omega)) rfl rfl rfl ?_
          refine ov (xfieldAddr fo37f2 rfl) rfl rfl rfl ?_
          refine ov (v := .int .i64 xs[k].Kind) (xload1 Try.isAgg2 rfl (h37) rfl) rfl rfl rfl ?_
          refine ov (xassign rfl) rfl rfl rfl ?_
          refine ops_nil ?_
          refine run_inBlock ?_
          refine run_region ?_
          refine ov (xmove rfl) rfl rfl rfl ?_
          refine ov (xadd rfl rfl (by unfold I64; omega)) rfl rfl rfl ?_
          refine ov (xassign rfl) rfl rfl rfl ?_
          refine ops_nil ?_
          refine run_sub ?_ (hback3 (k + 1, xs[k].Kind, wr) (⟨E, by omega, by omega, by rw [hg, List.drop_eq_getElem_cons (by omega), List.foldl_cons]; congr 1; simp [stStep, c12, c21, c29, c33]⟩) (by first | omega | (dsimp only; omega)))
          exact ⟨rfl, rfl, rfl, rfl, rfl, trivial⟩
        ·
          refine ov (xpick_t rfl rfl) rfl rfl rfl ?_
          refine ops_nil ?_
          refine run_cond_f rfl ?_
          refine run_skip ?_
          refine run_inBlock ?_
          refine run_region ?_
          refine ov (xmove rfl) rfl rfl rfl ?_
          refine ov (xadd rfl rfl (by unfold I64; omega)) rfl rfl rfl ?_
          refine ov (xassign rfl) rfl rfl rfl ?_
          refine ops_nil ?_
          refine run_sub ?_ (hback3 (k + 1, kd, wr) (⟨E, by omega, by omega, by rw [hg, List.drop_eq_getElem_cons (by omega), List.foldl_cons]; congr 1; simp [stStep, c12, c21, c29, c33]⟩) (by first | omega | (dsimp only; omega)))
          exact ⟨rfl, rfl, rfl, rfl, rfl, trivial⟩
      ·
        refine ov (xpick_t rfl rfl) rfl rfl rfl ?_
        refine ov (xmove rfl) rfl rfl rfl ?_
        refine og rfl rfl rfl ?_
        refine og rfl rfl rfl ?_
        refine ov (xpick_f rfl rfl) rfl rfl rfl ?_
        refine ops_nil ?_
        refine run_cond_f rfl ?_
        refine run_skip ?_
        refine run_inBlock ?_
        refine run_region ?_
        refine ov (xmove rfl) rfl rfl rfl ?_
        refine ov (xadd rfl rfl (by unfold I64; omega)) rfl rfl rfl ?_
        refine ov (xassign rfl) rfl rfl rfl ?_
        refine ops_nil ?_
        refine run_sub ?_ (hback3 (k + 1, kd, wr) (⟨E, by omega, by omega, by rw [hg, List.drop_eq_getElem_cons (by omega), List.foldl_cons]; congr 1; simp [stStep, c12, c21, c29]⟩) (by first | omega | (dsimp only; omega)))
        exact ⟨rfl, rfl, rfl, rfl, rfl, trivial⟩
    ·
      refine ov (xmove rfl) rfl rfl rfl ?_
      refine og rfl rfl rfl ?_
      refine og rfl rfl rfl ?_
      refine og rfl rfl rfl ?_
      refine og rfl rfl rfl ?_
      refine og rfl rfl rfl ?_
      refine og rfl rfl rfl ?_
      refine og rfl rfl rfl ?_
      refine ov (xpick_f rfl rfl) rfl rfl rfl ?_
      refine ov (xmove rfl) rfl rfl rfl ?_
      refine og rfl rfl rfl ?_
      refine og rfl rfl rfl ?_
      refine ov (xpick_f rfl rfl) rfl rfl rfl ?_
      refine ops_nil ?_
      refine run_cond_f rfl ?_
      refine run_skip ?_
      refine run_inBlock ?_
      refine run_region ?_
      refine ov (xmove rfl) rfl rfl rfl ?_
      refine ov (xadd rfl rfl (by unfold I64; omega)) rfl rfl rfl ?_
      refine ov (xassign rfl) rfl rfl rfl ?_
      refine ops_nil ?_
      refine run_sub ?_ (hback3 (k + 1, kd, wr) (⟨E, by omega, by omega, by rw [hg, List.drop_eq_getElem_cons (by omega), List.foldl_cons]; congr 1; simp [stStep, c12, c21]⟩) (by first | omega | (dsimp only; omega)))
      exact ⟨rfl, rfl, rfl, rfl, rfl, trivial⟩
  ·
    refine ops_nil ?_
    refine run_cond_f rfl ?_
    refine run_exit rfl ?_
    refine run_seq ?_
    refine run_region ?_
    refine ov (xmove rfl) rfl rfl rfl ?_
    refine ov (xassign rfl) rfl rfl rfl ?_
    refine ops_nil ?_
    refine run_ret Try.func94 (res1 rfl rfl) ?_
    obtain rfl : k = n := by omega
    exact ⟨_, rfl, by rw [hg, hn, List.drop_length]; rfl, E⟩

set_option maxHeartbeats 400000 in
theorem StandingOn_ok (p : Option Addr) (n c : Nat) (xs : List Ruling) (code : ByteArray) (day : Int) (w : World) (H : Sl Ruling.cells 3 w p n c xs) (hx : ∀ x ∈ xs, x.Code.size ≤ 9223372036854775807) (hs : code.size ≤ 9223372036854775807) : Ret Try.prog 24 [.slice p n c, .string code, .int .i64 day] w (Pv w (.tuple #[.int .i64 (standingOn xs code day).1, .int .i64 (standingOn xs code day).2])) := by
  refine ret_of_run (N := 23) Try.func24 rfl rfl rfl ?_
  have E : Ext w w := Ext.refl w
  refine run_seq ?_
  refine run_region ?_
  refine ov (xassign rfl) rfl rfl rfl ?_
  refine ov (xassign rfl) rfl rfl rfl ?_
  refine ops_nil ?_
  refine run_seq ?_
  refine run_seq ?_
  refine run_region ?_
  refine ov (xmove rfl) rfl rfl rfl ?_
  refine oc (xcall Try.call21 rfl) rfl rfl rfl (AreRulings_ok _ _ _ _ _ (H.ext E) (by assumption)) ?_
  rintro _ w1 ⟨rfl, e1⟩
  have z1 := e1.size
  have E := E.trans e1
  refine obs (fun c9 => ?_) (fun c9 => ?_)
  ·
    refine ov (xnot rfl) rfl rfl rfl ?_
    refine ov (xmove rfl) rfl rfl rfl ?_
    refine ov (xmove rfl) rfl rfl rfl ?_
    refine oc (xcall Try.call95 rfl) rfl rfl rfl (IsWord_ok (code) _ (by first | assumption | omega)) ?_
    rintro _ w_ ⟨rfl, hw_⟩
    replace hw_ := hw_.symm
    subst hw_
    refine obs (fun c13 => ?_) (fun c13 => ?_)
    ·
      refine ov (xnot rfl) rfl rfl rfl ?_
      refine ov (xpick_f rfl rfl) rfl rfl rfl ?_
      refine ops_nil ?_
      refine run_cond_f rfl ?_
      refine run_skip ?_
      refine run_seq ?_
      refine run_seq ?_
      refine run_region ?_
      refine ov (xmove rfl) rfl rfl rfl ?_
      refine oc (xcall Try.call96 rfl) rfl rfl rfl (isDay_ok (day) _) ?_
      rintro _ w_ ⟨rfl, hw_⟩
      replace hw_ := hw_.symm
      subst hw_
      refine obs (fun c17 => ?_) (fun c17 => ?_)
      ·
        refine ov (xnot rfl) rfl rfl rfl ?_
        refine ops_nil ?_
        refine run_cond_f rfl ?_
        refine run_skip ?_
        refine run_seq ?_
        refine run_region ?_
        refine ov (xmove rfl) rfl rfl rfl ?_
        refine ov (xmove rfl) rfl rfl rfl ?_
        refine ov (xmove rfl) rfl rfl rfl ?_
        refine oc (xcall Try.call97 rfl) rfl rfl rfl (standing_ok _ _ _ _ _ _ _ (H.ext E)) ?_
        rintro _ w2 ⟨rfl, e2⟩
        have z2 := e2.size
        have E := E.trans e2
        refine ov (xassign rfl) rfl rfl rfl ?_
        refine ov (xassign rfl) rfl rfl rfl ?_
        refine ops_nil ?_
        refine run_ret Try.func24 (res2 rfl rfl rfl) ?_
        exact ⟨_, rfl, by simp [standingOn, c9, c13, c17], E⟩
      ·
        refine ov (xnot rfl) rfl rfl rfl ?_
        refine ops_nil ?_
        refine run_cond_t rfl ?_
        refine run_seq ?_
        refine run_region ?_
        refine ov (xassign rfl) rfl rfl rfl ?_
        refine ov (xassign rfl) rfl rfl rfl ?_
        refine ops_nil ?_
        refine run_ret Try.func24 (res2 rfl rfl rfl) ?_
        exact ⟨_, rfl, by simp [standingOn, c9, c13, c17], E⟩
    ·
      refine ov (xnot rfl) rfl rfl rfl ?_
      refine ov (xpick_f rfl rfl) rfl rfl rfl ?_
      refine ops_nil ?_
      refine run_cond_t rfl ?_
      refine run_seq ?_
      refine run_region ?_
      refine ov (xassign rfl) rfl rfl rfl ?_
      refine ov (xassign rfl) rfl rfl rfl ?_
      refine ops_nil ?_
      refine run_ret Try.func24 (res2 rfl rfl rfl) ?_
      exact ⟨_, rfl, by simp [standingOn, c9, c13], E⟩
  ·
    refine ov (xnot rfl) rfl rfl rfl ?_
    refine ov (xmove rfl) rfl rfl rfl ?_
    refine og rfl rfl rfl ?_
    refine og rfl rfl rfl ?_
    refine og rfl rfl rfl ?_
    refine ov (xpick_t rfl rfl) rfl rfl rfl ?_
    refine ops_nil ?_
    refine run_cond_t rfl ?_
    refine run_seq ?_
    refine run_region ?_
    refine ov (xassign rfl) rfl rfl rfl ?_
    refine ov (xassign rfl) rfl rfl rfl ?_
    refine ops_nil ?_
    refine run_ret Try.func24 (res2 rfl rfl rfl) ?_
    exact ⟨_, rfl, by simp [standingOn, c9], E⟩

set_option maxHeartbeats 400000 in
theorem sStandingOn_ok (p : Option Addr) (n c : Nat) (xs : List Ruling) (code : ByteArray) (day : Int) (w : World) (H : Sl Ruling.cells 3 w p n c xs) (hx : ∀ x ∈ xs, x.Code.size ≤ 9223372036854775807) (hs : code.size ≤ 9223372036854775807) : Ret Try.prog 23 [.slice p n c, .string code, .int .i64 day] w (Pv w (.tuple #[.int .i64 (standingOn xs code day).1, .int .i64 (standingOn xs code day).2])) := by
  refine ret_of_run (N := 23) Try.func23 rfl rfl rfl ?_
  have E : Ext w w := Ext.refl w
  refine run_seq ?_
  refine run_region ?_
  refine ov (xassign rfl) rfl rfl rfl ?_
  refine ov (xassign rfl) rfl rfl rfl ?_
  refine ops_nil ?_
  refine run_seq ?_
  refine run_seq ?_
  refine run_region ?_
  refine ov (xmove rfl) rfl rfl rfl ?_
  refine oc (xcall Try.call19 rfl) rfl rfl rfl (sAreRulings_ok _ _ _ _ _ (H.ext E) (by assumption)) ?_
  rintro _ w1 ⟨rfl, e1⟩
  have z1 := e1.size
  have E := E.trans e1
  refine obs (fun c9 => ?_) (fun c9 => ?_)
  ·
    refine ov (xnot rfl) rfl rfl rfl ?_
    refine ov (xmove rfl) rfl rfl rfl ?_
    refine ov (xmove rfl) rfl rfl rfl ?_
    refine oc (xcall Try.call92 rfl) rfl rfl rfl (sIsWord_ok (code) _ (by first | assumption | omega)) ?_
    rintro _ w_ ⟨rfl, hw_⟩
    replace hw_ := hw_.symm
    subst hw_
    refine obs (fun c13 => ?_) (fun c13 => ?_)
    ·
      refine ov (xnot rfl) rfl rfl rfl ?_
      refine ov (xpick_f rfl rfl) rfl rfl rfl ?_
      refine ops_nil ?_
      refine run_cond_f rfl ?_
      refine run_skip ?_
      refine run_seq ?_
      refine run_seq ?_
      refine run_region ?_
      refine ov (xmove rfl) rfl rfl rfl ?_
      refine oc (xcall Try.call93 rfl) rfl rfl rfl (l02Is_ok (day) _) ?_
      rintro _ w_ ⟨rfl, hw_⟩
      replace hw_ := hw_.symm
      subst hw_
      refine obs (fun c17 => ?_) (fun c17 => ?_)
      ·
        refine ov (xnot rfl) rfl rfl rfl ?_
        refine ops_nil ?_
        refine run_cond_f rfl ?_
        refine run_skip ?_
        refine run_seq ?_
        refine run_region ?_
        refine ov (xmove rfl) rfl rfl rfl ?_
        refine ov (xmove rfl) rfl rfl rfl ?_
        refine ov (xmove rfl) rfl rfl rfl ?_
        refine oc (xcall Try.call94 rfl) rfl rfl rfl (sStanding_ok _ _ _ _ _ _ _ (H.ext E)) ?_
        rintro _ w2 ⟨rfl, e2⟩
        have z2 := e2.size
        have E := E.trans e2
        refine ov (xassign rfl) rfl rfl rfl ?_
        refine ov (xassign rfl) rfl rfl rfl ?_
        refine ops_nil ?_
        refine run_ret Try.func23 (res2 rfl rfl rfl) ?_
        exact ⟨_, rfl, by simp [standingOn, c9, c13, c17], E⟩
      ·
        refine ov (xnot rfl) rfl rfl rfl ?_
        refine ops_nil ?_
        refine run_cond_t rfl ?_
        refine run_seq ?_
        refine run_region ?_
        refine ov (xassign rfl) rfl rfl rfl ?_
        refine ov (xassign rfl) rfl rfl rfl ?_
        refine ops_nil ?_
        refine run_ret Try.func23 (res2 rfl rfl rfl) ?_
        exact ⟨_, rfl, by simp [standingOn, c9, c13, c17], E⟩
    ·
      refine ov (xnot rfl) rfl rfl rfl ?_
      refine ov (xpick_f rfl rfl) rfl rfl rfl ?_
      refine ops_nil ?_
      refine run_cond_t rfl ?_
      refine run_seq ?_
      refine run_region ?_
      refine ov (xassign rfl) rfl rfl rfl ?_
      refine ov (xassign rfl) rfl rfl rfl ?_
      refine ops_nil ?_
      refine run_ret Try.func23 (res2 rfl rfl rfl) ?_
      exact ⟨_, rfl, by simp [standingOn, c9, c13], E⟩
  ·
    refine ov (xnot rfl) rfl rfl rfl ?_
    refine ov (xmove rfl) rfl rfl rfl ?_
    refine og rfl rfl rfl ?_
    refine og rfl rfl rfl ?_
    refine og rfl rfl rfl ?_
    refine ov (xpick_t rfl rfl) rfl rfl rfl ?_
    refine ops_nil ?_
    refine run_cond_t rfl ?_
    refine run_seq ?_
    refine run_region ?_
    refine ov (xassign rfl) rfl rfl rfl ?_
    refine ov (xassign rfl) rfl rfl rfl ?_
    refine ops_nil ?_
    refine run_ret Try.func23 (res2 rfl rfl rfl) ?_
    exact ⟨_, rfl, by simp [standingOn, c9], E⟩
end Go.Proofs.Ytnjohcbamblilaa
