/-
  Records: the walks. No condition beyond those written in each theorem.
-/
import Derived.Test.YtchblgaklknkcaaGreatJur12
namespace Go.Proofs.YtchblgaklknkcaaGreat
open Go.RowKit
set_option linter.unusedVariables false
set_option linter.unusedSimpArgs false
set_option linter.unusedSectionVars false
set_option maxRecDepth 4000
set_option maxHeartbeats 1000000 in
theorem IsRecord_ok (u1 : Option Addr) (n1 v1 : Nat) (u2 : Option Addr) (n2 v2 : Nat) (u3 : Option Addr) (n3 v3 : Nat) (r : Rec) (w : World) (H1 : Sl i64c 1 w u1 n1 v1 r.N) (H2 : Sl i64c 1 w u2 n2 v2 r.Sk) (H3 : Sl i64c 1 w u3 n3 v3 r.Mv) : Ret Tryz.prog 38 [.agg #[.int .i64 r.C, .int .i64 r.St, .int .i64 r.Sa, .slice u1 n1 v1, .int .i64 r.Se, .slice u2 n2 v2, .slice u3 n3 v3, .int .i64 r.Me, .int .i64 r.Al]] w (Pv w (.bool (isRec r))) := by
 refine ret_of_run (N := 55) Tryz.func38 rfl rfl rfl ?_
 have hn1 := H1.len
 have hn2 := H2.len
 have hn3 := H3.len
 have E : Ext w w := Ext.refl w
 refine sr_ ?_
 refine obox rfl rfl rfl ?_
 intro b1 w1 e1 hb1 hz1 O1
 have E := E.trans e1
 replace O1 : Own w1 b1 [.int .i64 r.C, .int .i64 r.St, .int .i64 r.Sa, .slice u1 n1 v1, .int .i64 r.Se, .slice u2 n2 v2, .slice u3 n3 v3, .int .i64 r.Me, .int .i64 r.Al] 26 := O1
 refine vn_ rfl rfl rfl ?_
 refine run_seq ?_
 refine sr_ ?_
 refine oz_ (xfieldAddr fo26f0 rfl) rfl rfl ?_
 refine oz_ (v := .int .i64 r.C) (xload1 Tryz.isAgg2 rfl (O1.cells) rfl) rfl rfl ?_
 refine oc (xcall Tryz.call79 rfl) rfl rfl rfl (isSalt_ok (r.C) _) ?_
 rintro _ w_ ⟨rfl, hw_⟩
 replace hw_ := hw_.symm
 subst hw_
 refine obs (fun c5 => ?_) (fun c5 => ?_)
 rotate_left
 ·
  refine oz_ (xnot rfl) rfl rfl ?_
  refine vm_ rfl rfl rfl ?_
  refine o2_ rfl rfl rfl rfl ?_
  refine o2_ rfl rfl rfl rfl ?_
  refine oz_ (xpick_t rfl rfl) rfl rfl ?_
  refine vm_ rfl rfl rfl ?_
  refine o2_ rfl rfl rfl rfl ?_
  refine o2_ rfl rfl rfl rfl ?_
  refine oz_ (xpick_t rfl rfl) rfl rfl ?_
  refine vm_ rfl rfl rfl ?_
  refine o2_ rfl rfl rfl rfl ?_
  refine o2_ rfl rfl rfl rfl ?_
  refine oz_ (xpick_t rfl rfl) rfl rfl ?_
  refine vm_ rfl rfl rfl ?_
  refine o2_ rfl rfl rfl rfl ?_
  refine o2_ rfl rfl rfl rfl ?_
  refine oz_ (xpick_t rfl rfl) rfl rfl ?_
  refine ct_ rfl ?_
  refine sr_ ?_
  refine vn_ rfl rfl rfl ?_
  refine run_ret Tryz.func38 (res1 rfl rfl) ?_
  exact ⟨_, rfl, congrArg Value.bool (by unfold isRec; simp only [c5, Bool.true_and, Bool.false_and, Bool.and_false, Bool.and_true]), E⟩
 refine oz_ (xnot rfl) rfl rfl ?_
 refine vm_ rfl rfl rfl ?_
 refine oz_ (xfieldAddr fo26f1 rfl) rfl rfl ?_
 refine oz_ (v := .int .i64 r.St) (xload1 Tryz.isAgg2 rfl (O1.cells) rfl) rfl rfl ?_
 refine oc (xcall Tryz.call80 rfl) rfl rfl rfl (isState_ok (r.St) _) ?_
 rintro _ w_ ⟨rfl, hw_⟩
 replace hw_ := hw_.symm
 subst hw_
 refine obs (fun c10 => ?_) (fun c10 => ?_)
 rotate_left
 ·
  refine oz_ (xnot rfl) rfl rfl ?_
  refine oz_ (xpick_f rfl rfl) rfl rfl ?_
  refine vm_ rfl rfl rfl ?_
  refine o2_ rfl rfl rfl rfl ?_
  refine o2_ rfl rfl rfl rfl ?_
  refine oz_ (xpick_t rfl rfl) rfl rfl ?_
  refine vm_ rfl rfl rfl ?_
  refine o2_ rfl rfl rfl rfl ?_
  refine o2_ rfl rfl rfl rfl ?_
  refine oz_ (xpick_t rfl rfl) rfl rfl ?_
  refine vm_ rfl rfl rfl ?_
  refine o2_ rfl rfl rfl rfl ?_
  refine o2_ rfl rfl rfl rfl ?_
  refine oz_ (xpick_t rfl rfl) rfl rfl ?_
  refine ct_ rfl ?_
  refine sr_ ?_
  refine vn_ rfl rfl rfl ?_
  refine run_ret Tryz.func38 (res1 rfl rfl) ?_
  exact ⟨_, rfl, congrArg Value.bool (by unfold isRec; simp only [c5, c10, Bool.true_and, Bool.false_and, Bool.and_false, Bool.and_true]), E⟩
 refine oz_ (xnot rfl) rfl rfl ?_
 refine oz_ (xpick_f rfl rfl) rfl rfl ?_
 refine vm_ rfl rfl rfl ?_
 refine oz_ (xfieldAddr fo26f2 rfl) rfl rfl ?_
 refine oz_ (v := .int .i64 r.Sa) (xload1 Tryz.isAgg2 rfl (O1.cells) rfl) rfl rfl ?_
 refine oc (xcall Tryz.call79 rfl) rfl rfl rfl (isSalt_ok (r.Sa) _) ?_
 rintro _ w_ ⟨rfl, hw_⟩
 replace hw_ := hw_.symm
 subst hw_
 refine obs (fun c16 => ?_) (fun c16 => ?_)
 rotate_left
 ·
  refine oz_ (xnot rfl) rfl rfl ?_
  refine oz_ (xpick_f rfl rfl) rfl rfl ?_
  refine vm_ rfl rfl rfl ?_
  refine o2_ rfl rfl rfl rfl ?_
  refine o2_ rfl rfl rfl rfl ?_
  refine oz_ (xpick_t rfl rfl) rfl rfl ?_
  refine vm_ rfl rfl rfl ?_
  refine o2_ rfl rfl rfl rfl ?_
  refine o2_ rfl rfl rfl rfl ?_
  refine oz_ (xpick_t rfl rfl) rfl rfl ?_
  refine ct_ rfl ?_
  refine sr_ ?_
  refine vn_ rfl rfl rfl ?_
  refine run_ret Tryz.func38 (res1 rfl rfl) ?_
  exact ⟨_, rfl, congrArg Value.bool (by unfold isRec; simp only [c5, c10, c16, Bool.true_and, Bool.false_and, Bool.and_false, Bool.and_true]), E⟩
 refine oz_ (xnot rfl) rfl rfl ?_
 refine oz_ (xpick_f rfl rfl) rfl rfl ?_
 refine vm_ rfl rfl rfl ?_
 refine oz_ (xfieldAddr fo26f3 rfl) rfl rfl ?_
 refine oz_ (v := .slice u1 n1 v1) (xload1 Tryz.isAgg24 rfl (O1.cells) rfl) rfl rfl ?_
 refine oc (xcall Tryz.call81 rfl) rfl rfl rfl (areNumbers_ok _ _ _ _ _ (H1.ext E)) ?_
 rintro _ w2 ⟨rfl, e2⟩
 have z2 := e2.size
 have E := E.trans e2
 replace O1 := O1.ext e2
 refine obs (fun c22 => ?_) (fun c22 => ?_)
 rotate_left
 ·
  refine oz_ (xnot rfl) rfl rfl ?_
  refine oz_ (xpick_f rfl rfl) rfl rfl ?_
  refine vm_ rfl rfl rfl ?_
  refine o2_ rfl rfl rfl rfl ?_
  refine o2_ rfl rfl rfl rfl ?_
  refine oz_ (xpick_t rfl rfl) rfl rfl ?_
  refine ct_ rfl ?_
  refine sr_ ?_
  refine vn_ rfl rfl rfl ?_
  refine run_ret Tryz.func38 (res1 rfl rfl) ?_
  exact ⟨_, rfl, congrArg Value.bool (by unfold isRec; simp only [c5, c10, c16, c22, Bool.true_and, Bool.false_and, Bool.and_false, Bool.and_true]), E⟩
 refine oz_ (xnot rfl) rfl rfl ?_
 refine oz_ (xpick_f rfl rfl) rfl rfl ?_
 refine vm_ rfl rfl rfl ?_
 refine oz_ (xfieldAddr fo26f4 rfl) rfl rfl ?_
 refine oz_ (v := .int .i64 r.Se) (xload1 Tryz.isAgg2 rfl (O1.cells) rfl) rfl rfl ?_
 refine oc (xcall Tryz.call42 rfl) rfl rfl rfl (isSeats_ok (r.Se) _) ?_
 rintro _ w_ ⟨rfl, hw_⟩
 replace hw_ := hw_.symm
 subst hw_
 refine obs (fun c28 => ?_) (fun c28 => ?_)
 rotate_left
 ·
  refine oz_ (xnot rfl) rfl rfl ?_
  refine oz_ (xpick_f rfl rfl) rfl rfl ?_
  refine ct_ rfl ?_
  refine sr_ ?_
  refine vn_ rfl rfl rfl ?_
  refine run_ret Tryz.func38 (res1 rfl rfl) ?_
  exact ⟨_, rfl, congrArg Value.bool (by unfold isRec; simp only [c5, c10, c16, c22, c28, Bool.true_and, Bool.false_and, Bool.and_false, Bool.and_true]), E⟩
 refine oz_ (xnot rfl) rfl rfl ?_
 refine oz_ (xpick_f rfl rfl) rfl rfl ?_
 refine cf_ rfl ?_
 refine sr_ ?_
 refine oz_ (xfieldAddr fo26f5 rfl) rfl rfl ?_
 refine oz_ (v := .slice u2 n2 v2) (xload1 Tryz.isAgg24 rfl (O1.cells) rfl) rfl rfl ?_
 refine oc (xcall Tryz.call82 rfl) rfl rfl rfl (areStrikes_ok _ _ _ _ _ (H2.ext E)) ?_
 rintro _ w3 ⟨rfl, e3⟩
 have z3 := e3.size
 have E := E.trans e3
 replace O1 := O1.ext e3
 refine obs (fun c33 => ?_) (fun c33 => ?_)
 rotate_left
 ·
  refine vm_ rfl rfl rfl ?_
  refine o2_ rfl rfl rfl rfl ?_
  refine o2_ rfl rfl rfl rfl ?_
  refine oz_ (xpick_f rfl rfl) rfl rfl ?_
  refine vm_ rfl rfl rfl ?_
  refine o2_ rfl rfl rfl rfl ?_
  refine og rfl rfl rfl ?_
  refine oz_ (xpick_f rfl rfl) rfl rfl ?_
  refine vm_ rfl rfl rfl ?_
  refine o2_ rfl rfl rfl rfl ?_
  refine og rfl rfl rfl ?_
  refine oz_ (xpick_f rfl rfl) rfl rfl ?_
  refine vm_ rfl rfl rfl ?_
  refine o2_ rfl rfl rfl rfl ?_
  refine og rfl rfl rfl ?_
  refine oz_ (xpick_f rfl rfl) rfl rfl ?_
  refine vn_ rfl rfl rfl ?_
  refine run_ret Tryz.func38 (res1 rfl rfl) ?_
  exact ⟨_, rfl, congrArg Value.bool (by unfold isRec; simp only [c5, c10, c16, c22, c28, c33, Bool.true_and, Bool.false_and, Bool.and_false, Bool.and_true]), E⟩
 refine vm_ rfl rfl rfl ?_
 refine oz_ (xfieldAddr fo26f6 rfl) rfl rfl ?_
 refine oz_ (v := .slice u3 n3 v3) (xload1 Tryz.isAgg24 rfl (O1.cells) rfl) rfl rfl ?_
 refine oz_ (xlen Tryz.underlying24 rfl) rfl rfl ?_
 refine oc (xcall Tryz.call43 rfl) rfl rfl rfl (few_ok ((n3 : Int)) (40) _) ?_
 rintro _ w_ ⟨rfl, hw_⟩
 replace hw_ := hw_.symm
 subst hw_
 refine obs (fun c38 => ?_) (fun c38 => ?_)
 rotate_left
 ·
  refine oz_ (xpick_t rfl rfl) rfl rfl ?_
  refine vm_ rfl rfl rfl ?_
  refine o2_ rfl rfl rfl rfl ?_
  refine og rfl rfl rfl ?_
  refine oz_ (xpick_f rfl rfl) rfl rfl ?_
  refine vm_ rfl rfl rfl ?_
  refine o2_ rfl rfl rfl rfl ?_
  refine og rfl rfl rfl ?_
  refine oz_ (xpick_f rfl rfl) rfl rfl ?_
  refine vm_ rfl rfl rfl ?_
  refine o2_ rfl rfl rfl rfl ?_
  refine og rfl rfl rfl ?_
  refine oz_ (xpick_f rfl rfl) rfl rfl ?_
  refine vn_ rfl rfl rfl ?_
  refine run_ret Tryz.func38 (res1 rfl rfl) ?_
  have hL : decide (r.Mv.length ≤ 40) = false := decide_eq_false (by simp only [decide_eq_false_iff_not] at c38; omega)
  exact ⟨_, rfl, congrArg Value.bool (by unfold isRec; simp only [c5, c10, c16, c22, c28, c33, hL, Bool.true_and, Bool.false_and, Bool.and_false, Bool.and_true]), E⟩
 refine oz_ (xpick_t rfl rfl) rfl rfl ?_
 refine vm_ rfl rfl rfl ?_
 refine oz_ (xfieldAddr fo26f6 rfl) rfl rfl ?_
 refine oz_ (v := .slice u3 n3 v3) (xload1 Tryz.isAgg24 rfl (O1.cells) rfl) rfl rfl ?_
 refine oc (xcall Tryz.call83 rfl) rfl rfl rfl (areMoves_ok _ _ _ _ _ (H3.ext E)) ?_
 rintro _ w4 ⟨rfl, e4⟩
 have z4 := e4.size
 have E := E.trans e4
 replace O1 := O1.ext e4
 refine obs (fun c43 => ?_) (fun c43 => ?_)
 rotate_left
 ·
  refine oz_ (xpick_t rfl rfl) rfl rfl ?_
  refine vm_ rfl rfl rfl ?_
  refine o2_ rfl rfl rfl rfl ?_
  refine og rfl rfl rfl ?_
  refine oz_ (xpick_f rfl rfl) rfl rfl ?_
  refine vm_ rfl rfl rfl ?_
  refine o2_ rfl rfl rfl rfl ?_
  refine og rfl rfl rfl ?_
  refine oz_ (xpick_f rfl rfl) rfl rfl ?_
  refine vn_ rfl rfl rfl ?_
  refine run_ret Tryz.func38 (res1 rfl rfl) ?_
  have hL : decide (r.Mv.length ≤ 40) = true := decide_eq_true (by simp only [decide_eq_true_eq] at c38; omega)
  exact ⟨_, rfl, congrArg Value.bool (by unfold isRec; simp only [c5, c10, c16, c22, c28, c33, c43, hL, Bool.true_and, Bool.false_and, Bool.and_false, Bool.and_true]), E⟩
 refine oz_ (xpick_t rfl rfl) rfl rfl ?_
 refine vm_ rfl rfl rfl ?_
 refine oz_ (xfieldAddr fo26f7 rfl) rfl rfl ?_
 refine oz_ (v := .int .i64 r.Me) (xload1 Tryz.isAgg2 rfl (O1.cells) rfl) rfl rfl ?_
 refine oc (xcall Tryz.call42 rfl) rfl rfl rfl (isSeats_ok (r.Me) _) ?_
 rintro _ w_ ⟨rfl, hw_⟩
 replace hw_ := hw_.symm
 subst hw_
 refine obs (fun c48 => ?_) (fun c48 => ?_)
 ·
  refine oz_ (xpick_t rfl rfl) rfl rfl ?_
  refine vm_ rfl rfl rfl ?_
  refine oz_ (xfieldAddr fo26f8 rfl) rfl rfl ?_
  refine oz_ (v := .int .i64 r.Al) (xload1 Tryz.isAgg2 rfl (O1.cells) rfl) rfl rfl ?_
  refine oc (xcall Tryz.call84 rfl) rfl rfl rfl (isAlternates_ok (r.Al) _) ?_
  rintro _ w_ ⟨rfl, hw_⟩
  replace hw_ := hw_.symm
  subst hw_
  refine oz_ (xpick_t rfl rfl) rfl rfl ?_
  refine vn_ rfl rfl rfl ?_
  refine run_ret Tryz.func38 (res1 rfl rfl) ?_
  have hL : decide (r.Mv.length ≤ 40) = true := decide_eq_true (by simp only [decide_eq_true_eq] at c38; omega)
  exact ⟨_, rfl, congrArg Value.bool (by unfold isRec; simp only [c5, c10, c16, c22, c28, c33, c43, c48, hL, Bool.true_and, Bool.false_and, Bool.and_false, Bool.and_true]), E⟩
 refine oz_ (xpick_t rfl rfl) rfl rfl ?_
 refine vm_ rfl rfl rfl ?_
 refine o2_ rfl rfl rfl rfl ?_
 refine og rfl rfl rfl ?_
 refine oz_ (xpick_f rfl rfl) rfl rfl ?_
 refine vn_ rfl rfl rfl ?_
 refine run_ret Tryz.func38 (res1 rfl rfl) ?_
 have hL : decide (r.Mv.length ≤ 40) = true := decide_eq_true (by simp only [decide_eq_true_eq] at c38; omega)
 exact ⟨_, rfl, congrArg Value.bool (by unfold isRec; simp only [c5, c10, c16, c22, c28, c33, c43, c48, hL, Bool.true_and, Bool.false_and, Bool.and_false, Bool.and_true]), E⟩
set_option maxHeartbeats 2000000 in
theorem sIsRecord_ok (u1 : Option Addr) (n1 v1 : Nat) (u2 : Option Addr) (n2 v2 : Nat) (u3 : Option Addr) (n3 v3 : Nat) (r : Rec) (w : World) (H1 : Sl i64c 1 w u1 n1 v1 r.N) (H2 : Sl i64c 1 w u2 n2 v2 r.Sk) (H3 : Sl i64c 1 w u3 n3 v3 r.Mv) : Ret Tryz.prog 53 [.agg #[.int .i64 r.C, .int .i64 r.St, .int .i64 r.Sa, .slice u1 n1 v1, .int .i64 r.Se, .slice u2 n2 v2, .slice u3 n3 v3, .int .i64 r.Me, .int .i64 r.Al]] w (Pv w (.bool (isRec r))) := by
 refine ret_of_run (N := 109) Tryz.func53 rfl rfl rfl ?_
 have hn1 := H1.len
 have hn2 := H2.len
 have hn3 := H3.len
 have hn16 := H1.n64
 have hn36 := H3.n64
 have E : Ext w w := Ext.refl w
 refine sr_ ?_
 refine obox rfl rfl rfl ?_
 intro b1 w1 e1 hb1 hz1 O1
 have E := E.trans e1
 replace O1 : Own w1 b1 [.int .i64 r.C, .int .i64 r.St, .int .i64 r.Sa, .slice u1 n1 v1, .int .i64 r.Se, .slice u2 n2 v2, .slice u3 n3 v3, .int .i64 r.Me, .int .i64 r.Al] 26 := O1
 refine vn_ rfl rfl rfl ?_
 refine run_seq ?_
 refine sr_ ?_
 refine vn_ rfl rfl rfl ?_
 refine run_block ?_
 refine run_loop (ι := Nat × World) (fun x_ => match x_ with | (k, wr) => (Ext w wr) ∧ (Own wr b1 ([.int .i64 r.C, .int .i64 r.St, .int .i64 r.Sa, .slice u1 n1 v1, .int .i64 r.Se, .slice u2 n2 v2, .slice u3 n3 v3, .int .i64 r.Me, .int .i64 r.Al]) 26) ∧ (w1.heap.size ≤ wr.heap.size) ∧ (k ≤ n1) ∧ (allB k (allI (incP r.N) r.N) = true)) (fun x_ => match x_ with | (k, wr) => [(1, .pointer (some ⟨b1, 0, none⟩)), (3, .int .i64 (k : Int))]) (fun x_ => match x_ with | (k, wr) => wr) (fun x_ => match x_ with | (k, wr) => n1 - k) ?_ (0, w1) (⟨E, O1, Nat.le_refl _, by omega, allB_zero⟩) ⟨rfl, rfl, trivial⟩ rfl
 intro i_ hI_ hback2
 obtain ⟨k, wr⟩ := i_
 obtain ⟨E, O_b1, lz_wr, hk, ha⟩ := hI_
 try dsimp only
 have zr := E.size
 have lt_b1 := O_b1.lt
 refine run_seq ?_
 refine sr_ ?_
 refine vm_ rfl rfl rfl ?_
 refine oz_ (xfieldAddr fo26f3 rfl) rfl rfl ?_
 refine oz_ (v := .slice u1 n1 v1) (xload1 Tryz.isAgg24 rfl (O_b1.cells) rfl) rfl rfl ?_
 refine oz_ (xlen Tryz.underlying24 rfl) rfl rfl ?_
 refine oz_ (xlss rfl rfl _ rfl) rfl rfl ?_
 refine ods (fun c9 => ?_) (fun c9 => ?_)
 ·
  refine ct_ rfl ?_
  refine run_skip ?_
  refine run_seq ?_
  refine run_block ?_
  refine run_seq ?_
  refine run_draw (by kernel_rfl) (by kernel_rfl) ?_
  refine qv (fun w' x_ => xfieldAddr fo26f3 rfl) rfl rfl rfl ?_
  refine qv (v := .slice u1 n1 v1) (fun w' x_ => xload1 Tryz.isAgg24 rfl ((O_b1.cells).ext x_) rfl) rfl rfl rfl ?_
  refine qv (fun w' x_ => xmove rfl) rfl rfl rfl ?_
  have h15 := (H1.ext E).at (i := k) (by omega)
  refine qv (fun w' x_ => xindexN (i := k) Tryz.underlying24 Tryz.sizeOf2 rfl rfl rfl ((H1.ext E).p (i := k) (by omega)) (by have := (H1.ext E).len; omega)) rfl rfl rfl ?_
  refine qv (v := .int .i64 r.N[k]) (fun w' x_ => xloadz Tryz.isAgg2 rfl ((h15).ext x_) rfl) rfl rfl rfl ?_
  have t17 := fun (w' : World) (x_ : Ext wr w') => Ret.toq (w := w') (l01In_ok (r.N[k]) (1) (1000000) _)
  refine qc (fun w' => xcall Tryz.call68 rfl) rfl rfl rfl t17 ?_
  clear t17
  refine qbs (fun c17 => ?_) (fun c17 => ?_)
  rotate_left
  ·
   refine qv (fun w' x_ => xnot rfl) rfl rfl rfl ?_
   refine qv (fun w' x_ => xmove rfl) rfl rfl rfl ?_
   refine qg rfl rfl rfl ?_
   refine qg rfl rfl rfl ?_
   refine qg rfl rfl rfl ?_
   refine qg rfl rfl rfl ?_
   refine qg rfl rfl rfl ?_
   refine qg rfl rfl rfl ?_
   refine qg rfl rfl rfl ?_
   refine qg rfl rfl rfl ?_
   refine qg rfl rfl rfl ?_
   refine qg rfl rfl rfl ?_
   refine qg rfl rfl rfl ?_
   refine qg rfl rfl rfl ?_
   refine qg rfl rfl rfl ?_
   refine qg rfl rfl rfl ?_
   refine qg rfl rfl rfl ?_
   refine qg rfl rfl rfl ?_
   refine qv (fun w' x_ => xpick_t rfl rfl) rfl rfl rfl ?_
   refine q_nil ?_
   intro w2 e2
   have z2 := e2.size
   have E := E.trans e2
   refine run_cond_t rfl ?_
   refine sr_ ?_
   refine vn_ rfl rfl rfl ?_
   refine run_ret Tryz.func53 (res1 rfl rfl) ?_
   exact ⟨_, rfl, by unfold isRec; rw [incr_f (k := k) (by omega) (incP_f1 c17)]; simp, E⟩
  refine qv (fun w' x_ => xnot rfl) rfl rfl rfl ?_
  refine qv (fun w' x_ => xmove rfl) rfl rfl rfl ?_
  refine qv (fun w' x_ => xmove rfl) rfl rfl rfl ?_
  refine qv (fun w' x_ => xgtr rfl rfl _ rfl) rfl rfl rfl ?_
  refine qds (fun c21 => ?_) (fun c21 => ?_)
  rotate_left
  ·
   refine qv (fun w' x_ => xmove rfl) rfl rfl rfl ?_
   refine qg rfl rfl rfl ?_
   refine qg rfl rfl rfl ?_
   refine qg rfl rfl rfl ?_
   refine qg rfl rfl rfl ?_
   refine qg rfl rfl rfl ?_
   refine qg rfl rfl rfl ?_
   refine qg rfl rfl rfl ?_
   refine qg rfl rfl rfl ?_
   refine qg rfl rfl rfl ?_
   refine qg rfl rfl rfl ?_
   refine qg rfl rfl rfl ?_
   refine qg rfl rfl rfl ?_
   refine qv (fun w' x_ => xpick_f rfl rfl) rfl rfl rfl ?_
   refine qv (fun w' x_ => xpick_f rfl rfl) rfl rfl rfl ?_
   refine q_nil ?_
   intro w2 e2
   have z2 := e2.size
   have E := E.trans e2
   replace O_b1 := O_b1.ext e2
   refine run_cond_f rfl ?_
   refine run_skip ?_
   refine run_inBlock ?_
   refine run_region ?_
   refine vm_ rfl rfl rfl ?_
   refine oz_ (xadd rfl rfl (by unfold I64; omega)) rfl rfl ?_
   refine vn_ rfl rfl rfl ?_
   refine run_sub ?_ (hback2 (k + 1, w2) (⟨E, O_b1, by omega, by omega, allB_succ ha (by rw [allI_of (by omega)]; exact incP_t c17 (.inl (by omega)))⟩) (by first | omega | (dsimp only; omega)))
   exact ⟨rfl, rfl, trivial⟩
  refine qv (fun w' x_ => xmove rfl) rfl rfl rfl ?_
  refine qv (fun w' x_ => xfieldAddr fo26f3 rfl) rfl rfl rfl ?_
  refine qv (v := .slice u1 n1 v1) (fun w' x_ => xload1 Tryz.isAgg24 rfl ((O_b1.cells).ext x_) rfl) rfl rfl rfl ?_
  refine qv (fun w' x_ => xmove rfl) rfl rfl rfl ?_
  have h26 := (H1.ext E).at (i := k) (by omega)
  refine qv (fun w' x_ => xindexN (i := k) Tryz.underlying24 Tryz.sizeOf2 rfl rfl rfl ((H1.ext E).p (i := k) (by omega)) (by have := (H1.ext E).len; omega)) rfl rfl rfl ?_
  refine qv (v := .int .i64 r.N[k]) (fun w' x_ => xloadz Tryz.isAgg2 rfl ((h26).ext x_) rfl) rfl rfl rfl ?_
  refine qv (fun w' x_ => xfieldAddr fo26f3 rfl) rfl rfl rfl ?_
  refine qv (v := .slice u1 n1 v1) (fun w' x_ => xload1 Tryz.isAgg24 rfl ((O_b1.cells).ext x_) rfl) rfl rfl rfl ?_
  refine qv (fun w' x_ => xmove rfl) rfl rfl rfl ?_
  refine qv (fun w' x_ => xsub rfl rfl (by unfold I64; omega)) rfl rfl rfl ?_
  have h32 := (H1.ext E).at (i := (k - 1)) (by omega)
  refine qv (fun w' x_ => xindexN (i := (k - 1)) Tryz.underlying24 Tryz.sizeOf2 rfl rfl (by omega) ((H1.ext E).p (i := (k - 1)) (by omega)) (by have := (H1.ext E).len; omega)) rfl rfl rfl ?_
  refine qv (v := .int .i64 r.N[(k - 1)]) (fun w' x_ => xloadz Tryz.isAgg2 rfl ((h32).ext x_) rfl) rfl rfl rfl ?_
  refine qv (fun w' x_ => xleq rfl rfl _ rfl) rfl rfl rfl ?_
  refine qds (fun c34 => ?_) (fun c34 => ?_)
  ·
   refine qv (fun w' x_ => xpick_t rfl rfl) rfl rfl rfl ?_
   refine qv (fun w' x_ => xpick_f rfl rfl) rfl rfl rfl ?_
   refine q_nil ?_
   intro w2 e2
   have z2 := e2.size
   have E := E.trans e2
   refine run_cond_t rfl ?_
   refine sr_ ?_
   refine vn_ rfl rfl rfl ?_
   refine run_ret Tryz.func53 (res1 rfl rfl) ?_
   exact ⟨_, rfl, by unfold isRec; rw [incr_f (k := k) (by omega) (incP_f2 (by omega) (by rw [atI_of (by omega)]; omega))]; simp, E⟩
  refine qv (fun w' x_ => xpick_t rfl rfl) rfl rfl rfl ?_
  refine qv (fun w' x_ => xpick_f rfl rfl) rfl rfl rfl ?_
  refine q_nil ?_
  intro w2 e2
  have z2 := e2.size
  have E := E.trans e2
  replace O_b1 := O_b1.ext e2
  refine run_cond_f rfl ?_
  refine run_skip ?_
  refine run_inBlock ?_
  refine run_region ?_
  refine vm_ rfl rfl rfl ?_
  refine oz_ (xadd rfl rfl (by unfold I64; omega)) rfl rfl ?_
  refine vn_ rfl rfl rfl ?_
  refine run_sub ?_ (hback2 (k + 1, w2) (⟨E, O_b1, by omega, by omega, allB_succ ha (by rw [allI_of (by omega)]; exact incP_t c17 (.inr (by rw [atI_of (by omega)]; omega)))⟩) (by first | omega | (dsimp only; omega)))
  exact ⟨rfl, rfl, trivial⟩
 refine cg_ rfl ?_
 refine run_exit rfl ?_
 refine run_seq ?_
 refine sr_ ?_
 refine vn_ rfl rfl rfl ?_
 refine run_block ?_
 refine run_loop (ι := Nat × World) (fun x_ => match x_ with | (i, wr2) => (Ext w wr2) ∧ (Own wr2 b1 ([.int .i64 r.C, .int .i64 r.St, .int .i64 r.Sa, .slice u1 n1 v1, .int .i64 r.Se, .slice u2 n2 v2, .slice u3 n3 v3, .int .i64 r.Me, .int .i64 r.Al]) 26) ∧ (wr.heap.size ≤ wr2.heap.size) ∧ (i ≤ n3) ∧ (∀ j (hj : j < r.Mv.length), j < i → mvP r.Mv[j] = true)) (fun x_ => match x_ with | (i, wr2) => [(1, .pointer (some ⟨b1, 0, none⟩)), (4, .int .i64 (i : Int))]) (fun x_ => match x_ with | (i, wr2) => wr2) (fun x_ => match x_ with | (i, wr2) => n3 - i) ?_ (0, wr) (⟨E, O_b1, Nat.le_refl _, by omega, fun j hj h => absurd h (Nat.not_lt_zero j)⟩) ⟨rfl, rfl, trivial⟩ rfl
 intro i_ hI_ hback7
 obtain ⟨i, wr2⟩ := i_
 obtain ⟨E, O_b1, lz_wr2, hi, ha2⟩ := hI_
 try dsimp only
 have zr := E.size
 have lt_b1 := O_b1.lt
 refine run_seq ?_
 refine sr_ ?_
 refine vm_ rfl rfl rfl ?_
 refine oz_ (xfieldAddr fo26f6 rfl) rfl rfl ?_
 refine oz_ (v := .slice u3 n3 v3) (xload1 Tryz.isAgg24 rfl (O_b1.cells) rfl) rfl rfl ?_
 refine oz_ (xlen Tryz.underlying24 rfl) rfl rfl ?_
 refine oz_ (xlss rfl rfl _ rfl) rfl rfl ?_
 refine ods (fun c41 => ?_) (fun c41 => ?_)
 ·
  refine ct_ rfl ?_
  refine run_skip ?_
  refine run_seq ?_
  refine run_block ?_
  refine sr_ ?_
  refine oz_ (xfieldAddr fo26f6 rfl) rfl rfl ?_
  refine oz_ (v := .slice u3 n3 v3) (xload1 Tryz.isAgg24 rfl (O_b1.cells) rfl) rfl rfl ?_
  refine vm_ rfl rfl rfl ?_
  have h47 := (H3.ext E).at (i := i) (by omega)
  refine oz_ (xindexN (i := i) Tryz.underlying24 Tryz.sizeOf2 rfl rfl rfl ((H3.ext E).p (i := i) (by omega)) (by have := (H3.ext E).len; omega)) rfl rfl ?_
  refine oz_ (v := .int .i64 r.Mv[i]) (xloadz Tryz.isAgg2 rfl (h47) rfl) rfl rfl ?_
  refine oc (xcall Tryz.call68 rfl) rfl rfl rfl (l01In_ok (r.Mv[i]) ((-1)) (11) _) ?_
  rintro _ w_ ⟨rfl, hw_⟩
  replace hw_ := hw_.symm
  subst hw_
  refine obs (fun c49 => ?_) (fun c49 => ?_)
  ·
   refine oz_ (xnot rfl) rfl rfl ?_
   refine cf_ rfl ?_
   refine run_inBlock ?_
   refine run_region ?_
   refine vm_ rfl rfl rfl ?_
   refine oz_ (xadd rfl rfl (by unfold I64; omega)) rfl rfl ?_
   refine vn_ rfl rfl rfl ?_
   refine run_sub ?_ (hback7 (i + 1, wr2) (⟨E, O_b1, by omega, by omega, below_succ (q := fun y => mvP y = true) ha2 (fun _ => c49)⟩) (by first | omega | (dsimp only; omega)))
   exact ⟨rfl, rfl, trivial⟩
  refine oz_ (xnot rfl) rfl rfl ?_
  refine ct_ rfl ?_
  refine sr_ ?_
  refine vn_ rfl rfl rfl ?_
  refine run_ret Tryz.func53 (res1 rfl rfl) ?_
  have hI : incr r.N = true := by rw [incr, ← hn1, ← show k = n1 by omega, ha]
  exact ⟨_, rfl, by unfold isRec; rw [areMv, all_f (p := mvP) (k := i) (by omega) c49]; simp, E⟩
 refine cg_ rfl ?_
 refine run_exit rfl ?_
 refine run_seq ?_
 refine sr_ ?_
 refine oz_ (xfieldAddr fo26f3 rfl) rfl rfl ?_
 refine oz_ (v := .slice u1 n1 v1) (xload1 Tryz.isAgg24 rfl (O_b1.cells) rfl) rfl rfl ?_
 refine oz_ (xlen Tryz.underlying24 rfl) rfl rfl ?_
 refine oz_ (xgtr rfl rfl _ rfl) rfl rfl ?_
 refine ods (fun c54 => ?_) (fun c54 => ?_)
 ·
  refine vm_ rfl rfl rfl ?_
  refine o2_ rfl rfl rfl rfl ?_
  refine o2_ rfl rfl rfl rfl ?_
  refine oz_ (xpick_t rfl rfl) rfl rfl ?_
  refine vm_ rfl rfl rfl ?_
  refine o2_ rfl rfl rfl rfl ?_
  refine o2_ rfl rfl rfl rfl ?_
  refine oz_ (xpick_t rfl rfl) rfl rfl ?_
  refine ct_ rfl ?_
  refine sr_ ?_
  refine vn_ rfl rfl rfl ?_
  refine run_ret Tryz.func53 (res1 rfl rfl) ?_
  have hI : incr r.N = true := by rw [incr, ← hn1, ← show k = n1 by omega, ha]
  have hV : areMv r.Mv = true := by rw [areMv, all_of ha2 (by omega)]
  have hd54 : decide (r.N.length ≤ 60) = false := decide_eq_false (by omega)
  exact ⟨_, rfl, congrArg Value.bool (by unfold isRec areStr; simp only [hI, hV, hd54, Bool.true_and, Bool.false_and, Bool.and_false, Bool.and_true]), E⟩
 refine vm_ rfl rfl rfl ?_
 refine oz_ (xfieldAddr fo26f6 rfl) rfl rfl ?_
 refine oz_ (v := .slice u3 n3 v3) (xload1 Tryz.isAgg24 rfl (O_b1.cells) rfl) rfl rfl ?_
 refine oz_ (xlen Tryz.underlying24 rfl) rfl rfl ?_
 refine oz_ (xgtr rfl rfl _ rfl) rfl rfl ?_
 refine ods (fun c59 => ?_) (fun c59 => ?_)
 ·
  refine oz_ (xpick_f rfl rfl) rfl rfl ?_
  refine vm_ rfl rfl rfl ?_
  refine o2_ rfl rfl rfl rfl ?_
  refine o2_ rfl rfl rfl rfl ?_
  refine oz_ (xpick_t rfl rfl) rfl rfl ?_
  refine ct_ rfl ?_
  refine sr_ ?_
  refine vn_ rfl rfl rfl ?_
  refine run_ret Tryz.func53 (res1 rfl rfl) ?_
  have hI : incr r.N = true := by rw [incr, ← hn1, ← show k = n1 by omega, ha]
  have hV : areMv r.Mv = true := by rw [areMv, all_of ha2 (by omega)]
  have hd54 : decide (r.N.length ≤ 60) = true := decide_eq_true (by omega)
  have hd59 : decide (r.Mv.length ≤ 40) = false := decide_eq_false (by omega)
  exact ⟨_, rfl, congrArg Value.bool (by unfold isRec areStr; simp only [hI, hV, hd54, hd59, Bool.true_and, Bool.false_and, Bool.and_false, Bool.and_true]), E⟩
 refine oz_ (xpick_f rfl rfl) rfl rfl ?_
 refine vm_ rfl rfl rfl ?_
 refine oz_ (xfieldAddr fo26f5 rfl) rfl rfl ?_
 refine oz_ (v := .slice u2 n2 v2) (xload1 Tryz.isAgg24 rfl (O_b1.cells) rfl) rfl rfl ?_
 refine oz_ (xlen Tryz.underlying24 rfl) rfl rfl ?_
 refine oz_ (xneq rfl rfl _ rfl) rfl rfl ?_
 refine ods (fun c65 => ?_) (fun c65 => ?_)
 ·
  refine oz_ (xpick_f rfl rfl) rfl rfl ?_
  refine ct_ rfl ?_
  refine sr_ ?_
  refine vn_ rfl rfl rfl ?_
  refine run_ret Tryz.func53 (res1 rfl rfl) ?_
  have hI : incr r.N = true := by rw [incr, ← hn1, ← show k = n1 by omega, ha]
  have hV : areMv r.Mv = true := by rw [areMv, all_of ha2 (by omega)]
  have hd54 : decide (r.N.length ≤ 60) = true := decide_eq_true (by omega)
  have hd59 : decide (r.Mv.length ≤ 40) = true := decide_eq_true (by omega)
  have hd65 : decide (r.Sk.length = 2) = false := decide_eq_false (by omega)
  exact ⟨_, rfl, congrArg Value.bool (by unfold isRec areStr; simp only [hI, hV, hd54, hd59, hd65, Bool.true_and, Bool.false_and, Bool.and_false, Bool.and_true]), E⟩
 refine oz_ (xpick_f rfl rfl) rfl rfl ?_
 refine cf_ rfl ?_
 refine sr_ ?_
 refine oz_ (xfieldAddr fo26f0 rfl) rfl rfl ?_
 refine oz_ (v := .int .i64 r.C) (xload1 Tryz.isAgg2 rfl (O_b1.cells) rfl) rfl rfl ?_
 refine oc (xcall Tryz.call68 rfl) rfl rfl rfl (l01In_ok (r.C) (0) (2147483646) _) ?_
 rintro _ w_ ⟨rfl, hw_⟩
 replace hw_ := hw_.symm
 subst hw_
 refine obs (fun c69 => ?_) (fun c69 => ?_)
 rotate_left
 ·
  refine vm_ rfl rfl rfl ?_
  refine o2_ rfl rfl rfl rfl ?_
  refine og rfl rfl rfl ?_
  refine oz_ (xpick_f rfl rfl) rfl rfl ?_
  refine vm_ rfl rfl rfl ?_
  refine o2_ rfl rfl rfl rfl ?_
  refine og rfl rfl rfl ?_
  refine oz_ (xpick_f rfl rfl) rfl rfl ?_
  refine vm_ rfl rfl rfl ?_
  refine o2_ rfl rfl rfl rfl ?_
  refine og rfl rfl rfl ?_
  refine oz_ (xpick_f rfl rfl) rfl rfl ?_
  refine vm_ rfl rfl rfl ?_
  refine o2_ rfl rfl rfl rfl ?_
  refine o2_ rfl rfl rfl rfl ?_
  refine og rfl rfl rfl ?_
  refine oz_ (xpick_f rfl rfl) rfl rfl ?_
  refine vm_ rfl rfl rfl ?_
  refine o2_ rfl rfl rfl rfl ?_
  refine o2_ rfl rfl rfl rfl ?_
  refine og rfl rfl rfl ?_
  refine oz_ (xpick_f rfl rfl) rfl rfl ?_
  refine vm_ rfl rfl rfl ?_
  refine o2_ rfl rfl rfl rfl ?_
  refine og rfl rfl rfl ?_
  refine oz_ (xpick_f rfl rfl) rfl rfl ?_
  refine vm_ rfl rfl rfl ?_
  refine o2_ rfl rfl rfl rfl ?_
  refine og rfl rfl rfl ?_
  refine oz_ (xpick_f rfl rfl) rfl rfl ?_
  refine vn_ rfl rfl rfl ?_
  refine run_ret Tryz.func53 (res1 rfl rfl) ?_
  have hI : incr r.N = true := by rw [incr, ← hn1, ← show k = n1 by omega, ha]
  have hV : areMv r.Mv = true := by rw [areMv, all_of ha2 (by omega)]
  have hd54 : decide (r.N.length ≤ 60) = true := decide_eq_true (by omega)
  have hd59 : decide (r.Mv.length ≤ 40) = true := decide_eq_true (by omega)
  have hd65 : decide (r.Sk.length = 2) = true := decide_eq_true (by omega)
  have eA := atI_of (show 0 < r.Sk.length by omega)
  have eB := atI_of (show 1 < r.Sk.length by omega)
  exact ⟨_, rfl, congrArg Value.bool (by unfold isRec areStr; simp only [hI, hV, hd54, hd59, hd65, eA, eB, c69, Bool.true_and, Bool.false_and, Bool.and_false, Bool.and_true]), E⟩
 refine vm_ rfl rfl rfl ?_
 refine oz_ (xfieldAddr fo26f1 rfl) rfl rfl ?_
 refine oz_ (v := .int .i64 r.St) (xload1 Tryz.isAgg2 rfl (O_b1.cells) rfl) rfl rfl ?_
 refine oc (xcall Tryz.call98 rfl) rfl rfl rfl (l03Is_ok (r.St) _) ?_
 rintro _ w_ ⟨rfl, hw_⟩
 replace hw_ := hw_.symm
 subst hw_
 refine obs (fun c73 => ?_) (fun c73 => ?_)
 rotate_left
 ·
  refine oz_ (xpick_t rfl rfl) rfl rfl ?_
  refine vm_ rfl rfl rfl ?_
  refine o2_ rfl rfl rfl rfl ?_
  refine og rfl rfl rfl ?_
  refine oz_ (xpick_f rfl rfl) rfl rfl ?_
  refine vm_ rfl rfl rfl ?_
  refine o2_ rfl rfl rfl rfl ?_
  refine og rfl rfl rfl ?_
  refine oz_ (xpick_f rfl rfl) rfl rfl ?_
  refine vm_ rfl rfl rfl ?_
  refine o2_ rfl rfl rfl rfl ?_
  refine o2_ rfl rfl rfl rfl ?_
  refine og rfl rfl rfl ?_
  refine oz_ (xpick_f rfl rfl) rfl rfl ?_
  refine vm_ rfl rfl rfl ?_
  refine o2_ rfl rfl rfl rfl ?_
  refine o2_ rfl rfl rfl rfl ?_
  refine og rfl rfl rfl ?_
  refine oz_ (xpick_f rfl rfl) rfl rfl ?_
  refine vm_ rfl rfl rfl ?_
  refine o2_ rfl rfl rfl rfl ?_
  refine og rfl rfl rfl ?_
  refine oz_ (xpick_f rfl rfl) rfl rfl ?_
  refine vm_ rfl rfl rfl ?_
  refine o2_ rfl rfl rfl rfl ?_
  refine og rfl rfl rfl ?_
  refine oz_ (xpick_f rfl rfl) rfl rfl ?_
  refine vn_ rfl rfl rfl ?_
  refine run_ret Tryz.func53 (res1 rfl rfl) ?_
  have hI : incr r.N = true := by rw [incr, ← hn1, ← show k = n1 by omega, ha]
  have hV : areMv r.Mv = true := by rw [areMv, all_of ha2 (by omega)]
  have hd54 : decide (r.N.length ≤ 60) = true := decide_eq_true (by omega)
  have hd59 : decide (r.Mv.length ≤ 40) = true := decide_eq_true (by omega)
  have hd65 : decide (r.Sk.length = 2) = true := decide_eq_true (by omega)
  have eA := atI_of (show 0 < r.Sk.length by omega)
  have eB := atI_of (show 1 < r.Sk.length by omega)
  exact ⟨_, rfl, congrArg Value.bool (by unfold isRec areStr; simp only [hI, hV, hd54, hd59, hd65, eA, eB, c69, c73, Bool.true_and, Bool.false_and, Bool.and_false, Bool.and_true]), E⟩
 refine oz_ (xpick_t rfl rfl) rfl rfl ?_
 refine vm_ rfl rfl rfl ?_
 refine oz_ (xfieldAddr fo26f2 rfl) rfl rfl ?_
 refine oz_ (v := .int .i64 r.Sa) (xload1 Tryz.isAgg2 rfl (O_b1.cells) rfl) rfl rfl ?_
 refine oc (xcall Tryz.call68 rfl) rfl rfl rfl (l01In_ok (r.Sa) (0) (2147483646) _) ?_
 rintro _ w_ ⟨rfl, hw_⟩
 replace hw_ := hw_.symm
 subst hw_
 refine obs (fun c78 => ?_) (fun c78 => ?_)
 rotate_left
 ·
  refine oz_ (xpick_t rfl rfl) rfl rfl ?_
  refine vm_ rfl rfl rfl ?_
  refine o2_ rfl rfl rfl rfl ?_
  refine og rfl rfl rfl ?_
  refine oz_ (xpick_f rfl rfl) rfl rfl ?_
  refine vm_ rfl rfl rfl ?_
  refine o2_ rfl rfl rfl rfl ?_
  refine o2_ rfl rfl rfl rfl ?_
  refine og rfl rfl rfl ?_
  refine oz_ (xpick_f rfl rfl) rfl rfl ?_
  refine vm_ rfl rfl rfl ?_
  refine o2_ rfl rfl rfl rfl ?_
  refine o2_ rfl rfl rfl rfl ?_
  refine og rfl rfl rfl ?_
  refine oz_ (xpick_f rfl rfl) rfl rfl ?_
  refine vm_ rfl rfl rfl ?_
  refine o2_ rfl rfl rfl rfl ?_
  refine og rfl rfl rfl ?_
  refine oz_ (xpick_f rfl rfl) rfl rfl ?_
  refine vm_ rfl rfl rfl ?_
  refine o2_ rfl rfl rfl rfl ?_
  refine og rfl rfl rfl ?_
  refine oz_ (xpick_f rfl rfl) rfl rfl ?_
  refine vn_ rfl rfl rfl ?_
  refine run_ret Tryz.func53 (res1 rfl rfl) ?_
  have hI : incr r.N = true := by rw [incr, ← hn1, ← show k = n1 by omega, ha]
  have hV : areMv r.Mv = true := by rw [areMv, all_of ha2 (by omega)]
  have hd54 : decide (r.N.length ≤ 60) = true := decide_eq_true (by omega)
  have hd59 : decide (r.Mv.length ≤ 40) = true := decide_eq_true (by omega)
  have hd65 : decide (r.Sk.length = 2) = true := decide_eq_true (by omega)
  have eA := atI_of (show 0 < r.Sk.length by omega)
  have eB := atI_of (show 1 < r.Sk.length by omega)
  exact ⟨_, rfl, congrArg Value.bool (by unfold isRec areStr; simp only [hI, hV, hd54, hd59, hd65, eA, eB, c69, c73, c78, Bool.true_and, Bool.false_and, Bool.and_false, Bool.and_true]), E⟩
 refine oz_ (xpick_t rfl rfl) rfl rfl ?_
 refine vm_ rfl rfl rfl ?_
 refine oz_ (xfieldAddr fo26f4 rfl) rfl rfl ?_
 refine oz_ (v := .int .i64 r.Se) (xload1 Tryz.isAgg2 rfl (O_b1.cells) rfl) rfl rfl ?_
 refine oc (xcall Tryz.call68 rfl) rfl rfl rfl (l01In_ok (r.Se) (1) (12) _) ?_
 rintro _ w_ ⟨rfl, hw_⟩
 replace hw_ := hw_.symm
 subst hw_
 refine obs (fun c83 => ?_) (fun c83 => ?_)
 rotate_left
 ·
  refine oz_ (xpick_t rfl rfl) rfl rfl ?_
  refine vm_ rfl rfl rfl ?_
  refine o2_ rfl rfl rfl rfl ?_
  refine o2_ rfl rfl rfl rfl ?_
  refine og rfl rfl rfl ?_
  refine oz_ (xpick_f rfl rfl) rfl rfl ?_
  refine vm_ rfl rfl rfl ?_
  refine o2_ rfl rfl rfl rfl ?_
  refine o2_ rfl rfl rfl rfl ?_
  refine og rfl rfl rfl ?_
  refine oz_ (xpick_f rfl rfl) rfl rfl ?_
  refine vm_ rfl rfl rfl ?_
  refine o2_ rfl rfl rfl rfl ?_
  refine og rfl rfl rfl ?_
  refine oz_ (xpick_f rfl rfl) rfl rfl ?_
  refine vm_ rfl rfl rfl ?_
  refine o2_ rfl rfl rfl rfl ?_
  refine og rfl rfl rfl ?_
  refine oz_ (xpick_f rfl rfl) rfl rfl ?_
  refine vn_ rfl rfl rfl ?_
  refine run_ret Tryz.func53 (res1 rfl rfl) ?_
  have hI : incr r.N = true := by rw [incr, ← hn1, ← show k = n1 by omega, ha]
  have hV : areMv r.Mv = true := by rw [areMv, all_of ha2 (by omega)]
  have hd54 : decide (r.N.length ≤ 60) = true := decide_eq_true (by omega)
  have hd59 : decide (r.Mv.length ≤ 40) = true := decide_eq_true (by omega)
  have hd65 : decide (r.Sk.length = 2) = true := decide_eq_true (by omega)
  have eA := atI_of (show 0 < r.Sk.length by omega)
  have eB := atI_of (show 1 < r.Sk.length by omega)
  exact ⟨_, rfl, congrArg Value.bool (by unfold isRec areStr; simp only [hI, hV, hd54, hd59, hd65, eA, eB, c69, c73, c78, c83, Bool.true_and, Bool.false_and, Bool.and_false, Bool.and_true]), E⟩
 refine oz_ (xpick_t rfl rfl) rfl rfl ?_
 refine vm_ rfl rfl rfl ?_
 refine oz_ (xfieldAddr fo26f5 rfl) rfl rfl ?_
 refine oz_ (v := .slice u2 n2 v2) (xload1 Tryz.isAgg24 rfl (O_b1.cells) rfl) rfl rfl ?_
 have h88 := (H2.ext E).at (i := 0) (by omega)
 refine oz_ (xindexN (i := 0) Tryz.underlying24 Tryz.sizeOf2 rfl rfl (by omega) ((H2.ext E).p (i := 0) (by omega)) (by have := (H2.ext E).len; omega)) rfl rfl ?_
 refine oz_ (v := .int .i64 r.Sk[0]) (xloadz Tryz.isAgg2 rfl (h88) rfl) rfl rfl ?_
 refine oc (xcall Tryz.call68 rfl) rfl rfl rfl (l01In_ok (r.Sk[0]) (0) (10) _) ?_
 rintro _ w_ ⟨rfl, hw_⟩
 replace hw_ := hw_.symm
 subst hw_
 refine obs (fun c90 => ?_) (fun c90 => ?_)
 rotate_left
 ·
  refine oz_ (xpick_t rfl rfl) rfl rfl ?_
  refine vm_ rfl rfl rfl ?_
  refine o2_ rfl rfl rfl rfl ?_
  refine o2_ rfl rfl rfl rfl ?_
  refine og rfl rfl rfl ?_
  refine oz_ (xpick_f rfl rfl) rfl rfl ?_
  refine vm_ rfl rfl rfl ?_
  refine o2_ rfl rfl rfl rfl ?_
  refine og rfl rfl rfl ?_
  refine oz_ (xpick_f rfl rfl) rfl rfl ?_
  refine vm_ rfl rfl rfl ?_
  refine o2_ rfl rfl rfl rfl ?_
  refine og rfl rfl rfl ?_
  refine oz_ (xpick_f rfl rfl) rfl rfl ?_
  refine vn_ rfl rfl rfl ?_
  refine run_ret Tryz.func53 (res1 rfl rfl) ?_
  have hI : incr r.N = true := by rw [incr, ← hn1, ← show k = n1 by omega, ha]
  have hV : areMv r.Mv = true := by rw [areMv, all_of ha2 (by omega)]
  have hd54 : decide (r.N.length ≤ 60) = true := decide_eq_true (by omega)
  have hd59 : decide (r.Mv.length ≤ 40) = true := decide_eq_true (by omega)
  have hd65 : decide (r.Sk.length = 2) = true := decide_eq_true (by omega)
  have eA := atI_of (show 0 < r.Sk.length by omega)
  have eB := atI_of (show 1 < r.Sk.length by omega)
  exact ⟨_, rfl, congrArg Value.bool (by unfold isRec areStr; simp only [hI, hV, hd54, hd59, hd65, eA, eB, c69, c73, c78, c83, c90, Bool.true_and, Bool.false_and, Bool.and_false, Bool.and_true]), E⟩
 refine oz_ (xpick_t rfl rfl) rfl rfl ?_
 refine vm_ rfl rfl rfl ?_
 refine oz_ (xfieldAddr fo26f5 rfl) rfl rfl ?_
 refine oz_ (v := .slice u2 n2 v2) (xload1 Tryz.isAgg24 rfl (O_b1.cells) rfl) rfl rfl ?_
 have h95 := (H2.ext E).at (i := 1) (by omega)
 refine oz_ (xindexN (i := 1) Tryz.underlying24 Tryz.sizeOf2 rfl rfl (by omega) ((H2.ext E).p (i := 1) (by omega)) (by have := (H2.ext E).len; omega)) rfl rfl ?_
 refine oz_ (v := .int .i64 r.Sk[1]) (xloadz Tryz.isAgg2 rfl (h95) rfl) rfl rfl ?_
 refine oc (xcall Tryz.call68 rfl) rfl rfl rfl (l01In_ok (r.Sk[1]) (0) (10) _) ?_
 rintro _ w_ ⟨rfl, hw_⟩
 replace hw_ := hw_.symm
 subst hw_
 refine obs (fun c97 => ?_) (fun c97 => ?_)
 rotate_left
 ·
  refine oz_ (xpick_t rfl rfl) rfl rfl ?_
  refine vm_ rfl rfl rfl ?_
  refine o2_ rfl rfl rfl rfl ?_
  refine og rfl rfl rfl ?_
  refine oz_ (xpick_f rfl rfl) rfl rfl ?_
  refine vm_ rfl rfl rfl ?_
  refine o2_ rfl rfl rfl rfl ?_
  refine og rfl rfl rfl ?_
  refine oz_ (xpick_f rfl rfl) rfl rfl ?_
  refine vn_ rfl rfl rfl ?_
  refine run_ret Tryz.func53 (res1 rfl rfl) ?_
  have hI : incr r.N = true := by rw [incr, ← hn1, ← show k = n1 by omega, ha]
  have hV : areMv r.Mv = true := by rw [areMv, all_of ha2 (by omega)]
  have hd54 : decide (r.N.length ≤ 60) = true := decide_eq_true (by omega)
  have hd59 : decide (r.Mv.length ≤ 40) = true := decide_eq_true (by omega)
  have hd65 : decide (r.Sk.length = 2) = true := decide_eq_true (by omega)
  have eA := atI_of (show 0 < r.Sk.length by omega)
  have eB := atI_of (show 1 < r.Sk.length by omega)
  exact ⟨_, rfl, congrArg Value.bool (by unfold isRec areStr; simp only [hI, hV, hd54, hd59, hd65, eA, eB, c69, c73, c78, c83, c90, c97, Bool.true_and, Bool.false_and, Bool.and_false, Bool.and_true]), E⟩
 refine oz_ (xpick_t rfl rfl) rfl rfl ?_
 refine vm_ rfl rfl rfl ?_
 refine oz_ (xfieldAddr fo26f7 rfl) rfl rfl ?_
 refine oz_ (v := .int .i64 r.Me) (xload1 Tryz.isAgg2 rfl (O_b1.cells) rfl) rfl rfl ?_
 refine oc (xcall Tryz.call68 rfl) rfl rfl rfl (l01In_ok (r.Me) (1) (12) _) ?_
 rintro _ w_ ⟨rfl, hw_⟩
 replace hw_ := hw_.symm
 subst hw_
 refine obs (fun c102 => ?_) (fun c102 => ?_)
 ·
  refine oz_ (xpick_t rfl rfl) rfl rfl ?_
  refine vm_ rfl rfl rfl ?_
  refine oz_ (xfieldAddr fo26f8 rfl) rfl rfl ?_
  refine oz_ (v := .int .i64 r.Al) (xload1 Tryz.isAgg2 rfl (O_b1.cells) rfl) rfl rfl ?_
  refine oc (xcall Tryz.call68 rfl) rfl rfl rfl (l01In_ok (r.Al) (0) (6) _) ?_
  rintro _ w_ ⟨rfl, hw_⟩
  replace hw_ := hw_.symm
  subst hw_
  refine oz_ (xpick_t rfl rfl) rfl rfl ?_
  refine vn_ rfl rfl rfl ?_
  refine run_ret Tryz.func53 (res1 rfl rfl) ?_
  have hI : incr r.N = true := by rw [incr, ← hn1, ← show k = n1 by omega, ha]
  have hV : areMv r.Mv = true := by rw [areMv, all_of ha2 (by omega)]
  have hd54 : decide (r.N.length ≤ 60) = true := decide_eq_true (by omega)
  have hd59 : decide (r.Mv.length ≤ 40) = true := decide_eq_true (by omega)
  have hd65 : decide (r.Sk.length = 2) = true := decide_eq_true (by omega)
  have eA := atI_of (show 0 < r.Sk.length by omega)
  have eB := atI_of (show 1 < r.Sk.length by omega)
  exact ⟨_, rfl, congrArg Value.bool (by unfold isRec areStr; simp only [hI, hV, hd54, hd59, hd65, eA, eB, c69, c73, c78, c83, c90, c97, c102, Bool.true_and, Bool.false_and, Bool.and_false, Bool.and_true]), E⟩
 refine oz_ (xpick_t rfl rfl) rfl rfl ?_
 refine vm_ rfl rfl rfl ?_
 refine o2_ rfl rfl rfl rfl ?_
 refine og rfl rfl rfl ?_
 refine oz_ (xpick_f rfl rfl) rfl rfl ?_
 refine vn_ rfl rfl rfl ?_
 refine run_ret Tryz.func53 (res1 rfl rfl) ?_
 have hI : incr r.N = true := by rw [incr, ← hn1, ← show k = n1 by omega, ha]
 have hV : areMv r.Mv = true := by rw [areMv, all_of ha2 (by omega)]
 have hd54 : decide (r.N.length ≤ 60) = true := decide_eq_true (by omega)
 have hd59 : decide (r.Mv.length ≤ 40) = true := decide_eq_true (by omega)
 have hd65 : decide (r.Sk.length = 2) = true := decide_eq_true (by omega)
 have eA := atI_of (show 0 < r.Sk.length by omega)
 have eB := atI_of (show 1 < r.Sk.length by omega)
 exact ⟨_, rfl, congrArg Value.bool (by unfold isRec areStr; simp only [hI, hV, hd54, hd59, hd65, eA, eB, c69, c73, c78, c83, c90, c97, c102, Bool.true_and, Bool.false_and, Bool.and_false, Bool.and_true]), E⟩
end Go.Proofs.YtchblgaklknkcaaGreat
