/-
  Who may see what. No condition beyond those written in each theorem.
-/
import Derived.Test.YtbihpggbabmebaaSeal
namespace Go.Proofs.Ytbihpggbabmebaa
open Go.RowKit
set_option linter.unusedVariables false
set_option linter.unusedSimpArgs false
set_option linter.unusedSectionVars false
set_option maxRecDepth 4000

set_option maxHeartbeats 400000 in
theorem reaches_ok (l : Int) (p : Option Addr) (n c : Nat) (gs : List ByteArray) (o : Int) (q : Option Addr) (m d : Nat) (os : List ByteArray) (w : World) (H : Sl strc 1 w p n c gs) (K : Sl strc 1 w q m d os) : Ret Try.prog 74 [.int .i64 l, .slice p n c, .int .i64 o, .slice q m d] w (Pv w (.bool (reaches l gs o os))) := by
  refine ret_of_run (N := 25) Try.func74 rfl rfl rfl ?_
  have hn := H.len
  have hn6 := H.n64
  have hm := K.len
  have hm6 := K.n64
  have E : Ext w w := Ext.refl w
  refine run_seq ?_
  refine run_region ?_
  refine ov (xassign rfl) rfl rfl rfl ?_
  refine ops_nil ?_
  refine run_seq ?_
  refine run_seq ?_
  refine run_region ?_
  refine ov (xmove rfl) rfl rfl rfl ?_
  refine ov (xlen Try.underlying49 rfl) rfl rfl rfl ?_
  refine ov (xmove rfl) rfl rfl rfl ?_
  refine ops_nil ?_
  refine run_block ?_
  refine run_loop (ι := Nat × World) (fun x_ => match x_ with | (k, wr) => (Ext w wr) ∧ (w.heap.size ≤ wr.heap.size) ∧ (k ≤ m) ∧ (allB k (allI (fun _ g => hasS gs g) os) = true)) (fun x_ => match x_ with | (k, wr) => [(0, .int .i64 l), (1, .slice p n c), (2, .int .i64 o), (11, .slice q m d), (12, .int .i64 (m : Int)), (13, .int .i64 (k : Int))]) (fun x_ => match x_ with | (k, wr) => wr) (fun x_ => match x_ with | (k, wr) => m - k) ?_ (0, w) (⟨E, Nat.le_refl _, by omega, allB_zero⟩) ⟨rfl, rfl, rfl, rfl, rfl, rfl, trivial⟩ rfl
  intro i_ hI_ hback2
  obtain ⟨k, wr⟩ := i_
  obtain ⟨E, lz_wr, hk, ha⟩ := hI_
  try dsimp only
  have zr := E.size
  refine run_seq ?_
  refine run_region ?_
  refine ov (xlss rfl rfl _ rfl) rfl rfl rfl ?_
  refine ods (fun c14 => ?_) (fun c14 => ?_)
  ·
    refine ops_nil ?_
    refine run_seq ?_
    refine run_cond_t rfl ?_
    refine run_skip ?_
    refine run_seq ?_
    refine run_block ?_
    refine run_seq ?_
    refine run_region ?_
    have h15 := (K.ext E).at (i := k) (by omega)
    refine ov (xindexN (i := k) Try.underlying49 Try.sizeOf9 rfl rfl rfl ((K.ext E).p (i := k) (by omega)) (by have := (K.ext E).len; omega)) rfl rfl rfl ?_
    refine ov (v := .string os[k]) (xloadz Try.isAgg9 rfl (h15) rfl) rfl rfl rfl ?_
    refine ov (xassign rfl) rfl rfl rfl ?_
    refine ops_nil ?_
    refine run_seq ?_
    refine run_region ?_
    refine ov (xmove rfl) rfl rfl rfl ?_
    refine ov (xmove rfl) rfl rfl rfl ?_
    refine oc (xcall Try.call98 rfl) rfl rfl rfl (hasS_ok _ _ _ _ (os[k]) _ (H.ext E)) ?_
    rintro _ w1 ⟨rfl, e1⟩
    have z1 := e1.size
    have E := E.trans e1
    refine obs (fun c19 => ?_) (fun c19 => ?_)
    ·
      refine ov (xnot rfl) rfl rfl rfl ?_
      refine ops_nil ?_
      refine run_cond_f rfl ?_
      refine run_skip ?_
      refine run_inBlock ?_
      refine run_region ?_
      refine ov (xadd rfl rfl (by unfold I64; omega)) rfl rfl rfl ?_
      refine ov (xmove rfl) rfl rfl rfl ?_
      refine ops_nil ?_
      refine run_sub ?_ (hback2 (k + 1, w1) (⟨E, by omega, by omega, allB_succ ha (by rw [allI_of (by omega)]; exact c19)⟩) (by first | omega | (dsimp only; omega)))
      exact ⟨rfl, rfl, rfl, rfl, rfl, rfl, trivial⟩
    ·
      refine ov (xnot rfl) rfl rfl rfl ?_
      refine ops_nil ?_
      refine run_cond_t rfl ?_
      refine run_seq ?_
      refine run_region ?_
      refine ov (xassign rfl) rfl rfl rfl ?_
      refine ops_nil ?_
      refine run_ret Try.func74 (res1 rfl rfl) ?_
      exact ⟨_, rfl, by rw [reaches, allB_false (i := k) (by omega) (by rw [allI_of (by omega)]; exact c19)]; rfl, E⟩
  ·
    refine ops_nil ?_
    refine run_seq ?_
    refine run_cond_f rfl ?_
    refine run_exit rfl ?_
    refine run_seq ?_
    refine run_region ?_
    refine ov (xmove rfl) rfl rfl rfl ?_
    refine ov (xmove rfl) rfl rfl rfl ?_
    refine ov (xgeq rfl rfl _ rfl) rfl rfl rfl ?_
    refine ov (xassign rfl) rfl rfl rfl ?_
    refine ops_nil ?_
    refine run_ret Try.func74 (res1 rfl rfl) ?_
    obtain rfl : k = m := by omega
    exact ⟨_, rfl, by rw [reaches, ← hm, ha, Bool.true_and], E⟩

set_option maxHeartbeats 400000 in
theorem l24Above_ok (l : Int) (p : Option Addr) (n c : Nat) (gs : List ByteArray) (o : Int) (q : Option Addr) (m d : Nat) (os : List ByteArray) (w : World) (H : Sl strc 1 w p n c gs) (K : Sl strc 1 w q m d os) : Ret Try.prog 73 [.int .i64 l, .slice p n c, .int .i64 o, .slice q m d] w (Pv w (.bool (reaches l gs o os))) := by
  refine ret_of_run (N := 26) Try.func73 rfl rfl rfl ?_
  have hn := H.len
  have hn6 := H.n64
  have hm := K.len
  have hm6 := K.n64
  have E : Ext w w := Ext.refl w
  refine run_seq ?_
  refine run_region ?_
  refine ov (xassign rfl) rfl rfl rfl ?_
  refine ops_nil ?_
  refine run_seq ?_
  refine run_seq ?_
  refine run_region ?_
  refine ov (xassign rfl) rfl rfl rfl ?_
  refine ops_nil ?_
  refine run_block ?_
  refine run_loop (ι := Nat × World) (fun x_ => match x_ with | (k, wr) => (Ext w wr) ∧ (w.heap.size ≤ wr.heap.size) ∧ (k ≤ m) ∧ (allB k (allI (fun _ g => hasS gs g) os) = true)) (fun x_ => match x_ with | (k, wr) => [(0, .int .i64 l), (1, .slice p n c), (2, .int .i64 o), (3, .slice q m d), (9, .int .i64 (k : Int))]) (fun x_ => match x_ with | (k, wr) => wr) (fun x_ => match x_ with | (k, wr) => m - k) ?_ (0, w) (⟨E, Nat.le_refl _, by omega, allB_zero⟩) ⟨rfl, rfl, rfl, rfl, rfl, trivial⟩ rfl
  intro i_ hI_ hback2
  obtain ⟨k, wr⟩ := i_
  obtain ⟨E, lz_wr, hk, ha⟩ := hI_
  try dsimp only
  have zr := E.size
  refine run_seq ?_
  refine run_seq ?_
  refine run_region ?_
  refine ov (xmove rfl) rfl rfl rfl ?_
  refine ov (xmove rfl) rfl rfl rfl ?_
  refine ov (xlen Try.underlying49 rfl) rfl rfl rfl ?_
  refine ov (xlss rfl rfl _ rfl) rfl rfl rfl ?_
  refine ods (fun c13 => ?_) (fun c13 => ?_)
  ·
    refine ops_nil ?_
    refine run_cond_t rfl ?_
    refine run_skip ?_
    refine run_seq ?_
    refine run_block ?_
    refine run_seq ?_
    refine run_region ?_
    refine ov (xmove rfl) rfl rfl rfl ?_
    refine ov (xmove rfl) rfl rfl rfl ?_
    refine ov (xmove rfl) rfl rfl rfl ?_
    have h19 := (K.ext E).at (i := k) (by omega)
    refine ov (xindexN (i := k) Try.underlying49 Try.sizeOf9 rfl rfl rfl ((K.ext E).p (i := k) (by omega)) (by have := (K.ext E).len; omega)) rfl rfl rfl ?_
    refine ov (v := .string os[k]) (xloadz Try.isAgg9 rfl (h19) rfl) rfl rfl rfl ?_
    refine oc (xcall Try.call97 rfl) rfl rfl rfl (l13Word_ok _ _ _ _ (os[k]) _ (H.ext E)) ?_
    rintro _ w1 ⟨rfl, e1⟩
    have z1 := e1.size
    have E := E.trans e1
    refine obs (fun c21 => ?_) (fun c21 => ?_)
    ·
      refine ov (xnot rfl) rfl rfl rfl ?_
      refine ops_nil ?_
      refine run_cond_f rfl ?_
      refine run_skip ?_
      refine run_inBlock ?_
      refine run_region ?_
      refine ov (xmove rfl) rfl rfl rfl ?_
      refine ov (xadd rfl rfl (by unfold I64; omega)) rfl rfl rfl ?_
      refine ov (xassign rfl) rfl rfl rfl ?_
      refine ops_nil ?_
      refine run_sub ?_ (hback2 (k + 1, w1) (⟨E, by omega, by omega, allB_succ ha (by rw [allI_of (by omega)]; exact c21)⟩) (by first | omega | (dsimp only; omega)))
      exact ⟨rfl, rfl, rfl, rfl, rfl, trivial⟩
    ·
      refine ov (xnot rfl) rfl rfl rfl ?_
      refine ops_nil ?_
      refine run_cond_t rfl ?_
      refine run_seq ?_
      refine run_region ?_
      refine ov (xassign rfl) rfl rfl rfl ?_
      refine ops_nil ?_
      refine run_ret Try.func73 (res1 rfl rfl) ?_
      exact ⟨_, rfl, by rw [reaches, allB_false (i := k) (by omega) (by rw [allI_of (by omega)]; exact c21)]; rfl, E⟩
  ·
    refine ops_nil ?_
    refine run_cond_f rfl ?_
    refine run_exit rfl ?_
    refine run_seq ?_
    refine run_region ?_
    refine ov (xmove rfl) rfl rfl rfl ?_
    refine ov (xmove rfl) rfl rfl rfl ?_
    refine ov (xgeq rfl rfl _ rfl) rfl rfl rfl ?_
    refine ov (xassign rfl) rfl rfl rfl ?_
    refine ops_nil ?_
    refine run_ret Try.func73 (res1 rfl rfl) ?_
    obtain rfl : k = m := by omega
    exact ⟨_, rfl, by rw [reaches, ← hm, ha, Bool.true_and], E⟩

set_option maxHeartbeats 400000 in
theorem maySee_ok (r : Role) (h : Hd) (f : File) (k : Hd) (day : Int) (w : World) (H : Sl strc 1 w h.p h.n h.c r.Groups) (K : Sl strc 1 w k.p k.n k.c f.Groups) : Ret Try.prog 79 [.agg #[.string r.Name, .int .i64 r.Level, .slice h.p h.n h.c], .agg #[.string f.Code, .int .i64 f.Level, .slice k.p k.n k.c, .int .i64 f.Until], .int .i64 day] w (Pv w (.bool (seeP r f day))) := by
  refine ret_of_run (N := 22) Try.func79 rfl rfl rfl ?_
  have E : Ext w w := Ext.refl w
  refine run_seq ?_
  refine run_region ?_
  refine obox rfl rfl rfl ?_
  intro b1 w1 e1 hb1 hz1 O1
  have E := E.trans e1
  replace O1 : Own w1 b1 [.string r.Name, .int .i64 r.Level, .slice h.p h.n h.c] 71 := O1
  refine obox rfl rfl rfl ?_
  intro b2 w2 e2 hb2 hz2 O2
  have E := E.trans e2
  replace O1 := O1.ext e2
  replace O2 : Own w2 b2 [.string f.Code, .int .i64 f.Level, .slice k.p k.n k.c, .int .i64 f.Until] 54 := O2
  refine ov (xassign rfl) rfl rfl rfl ?_
  refine ops_nil ?_
  refine run_seq ?_
  refine run_region ?_
  refine ov (xmove rfl) rfl rfl rfl ?_
  refine ov (xfieldAddr fo54f3 rfl) rfl rfl rfl ?_
  refine ov (v := .int .i64 f.Until) (xload1 Try.isAgg2 rfl (O2.cells) rfl) rfl rfl rfl ?_
  refine ov (xgtr rfl rfl _ rfl) rfl rfl rfl ?_
  refine ods (fun c10 => ?_) (fun c10 => ?_)
  ·
    refine ov (xmove rfl) rfl rfl rfl ?_
    refine og rfl rfl rfl ?_
    refine og rfl rfl rfl ?_
    refine og rfl rfl rfl ?_
    refine og rfl rfl rfl ?_
    refine og rfl rfl rfl ?_
    refine og rfl rfl rfl ?_
    refine og rfl rfl rfl ?_
    refine og rfl rfl rfl ?_
    refine og rfl rfl rfl ?_
    refine ov (xpick_t rfl rfl) rfl rfl rfl ?_
    refine ov (xassign rfl) rfl rfl rfl ?_
    refine ops_nil ?_
    refine run_ret Try.func79 (res1 rfl rfl) ?_
    exact ⟨_, rfl, by simp [seeP, c10], E⟩
  ·
    refine ov (xmove rfl) rfl rfl rfl ?_
    refine ov (xfieldAddr fo71f1 rfl) rfl rfl rfl ?_
    refine ov (v := .int .i64 r.Level) (xload1 Try.isAgg2 rfl (O1.cells) rfl) rfl rfl rfl ?_
    refine ov (xfieldAddr fo71f2 rfl) rfl rfl rfl ?_
    refine ov (v := .slice h.p h.n h.c) (xload1 Try.isAgg49 rfl (O1.cells) rfl) rfl rfl rfl ?_
    refine ov (xfieldAddr fo54f1 rfl) rfl rfl rfl ?_
    refine ov (v := .int .i64 f.Level) (xload1 Try.isAgg2 rfl (O2.cells) rfl) rfl rfl rfl ?_
    refine ov (xfieldAddr fo54f2 rfl) rfl rfl rfl ?_
    refine ov (v := .slice k.p k.n k.c) (xload1 Try.isAgg49 rfl (O2.cells) rfl) rfl rfl rfl ?_
    refine oc (xcall Try.call74 rfl) rfl rfl rfl (reaches_ok (r.Level) _ _ _ _ (f.Level) _ _ _ _ _ (H.ext E) (K.ext E)) ?_
    rintro _ w3 ⟨rfl, e3⟩
    have z3 := e3.size
    have E := E.trans e3
    replace O1 := O1.ext e3
    replace O2 := O2.ext e3
    refine ov (xpick_f rfl rfl) rfl rfl rfl ?_
    refine ov (xassign rfl) rfl rfl rfl ?_
    refine ops_nil ?_
    refine run_ret Try.func79 (res1 rfl rfl) ?_
    exact ⟨_, rfl, by simp [seeP, c10], E⟩

set_option maxHeartbeats 400000 in
theorem l24Sees_ok (r : Role) (h : Hd) (f : File) (k : Hd) (day : Int) (w : World) (H : Sl strc 1 w h.p h.n h.c r.Groups) (K : Sl strc 1 w k.p k.n k.c f.Groups) : Ret Try.prog 77 [.agg #[.string r.Name, .int .i64 r.Level, .slice h.p h.n h.c], .agg #[.string f.Code, .int .i64 f.Level, .slice k.p k.n k.c, .int .i64 f.Until], .int .i64 day] w (Pv w (.bool (seeP r f day))) := by
  refine ret_of_run (N := 22) Try.func77 rfl rfl rfl ?_
  have E : Ext w w := Ext.refl w
  refine run_seq ?_
  refine run_region ?_
  refine obox rfl rfl rfl ?_
  intro b1 w1 e1 hb1 hz1 O1
  have E := E.trans e1
  replace O1 : Own w1 b1 [.string r.Name, .int .i64 r.Level, .slice h.p h.n h.c] 71 := O1
  refine obox rfl rfl rfl ?_
  intro b2 w2 e2 hb2 hz2 O2
  have E := E.trans e2
  replace O1 := O1.ext e2
  replace O2 : Own w2 b2 [.string f.Code, .int .i64 f.Level, .slice k.p k.n k.c, .int .i64 f.Until] 54 := O2
  refine ov (xassign rfl) rfl rfl rfl ?_
  refine ops_nil ?_
  refine run_seq ?_
  refine run_region ?_
  refine ov (xmove rfl) rfl rfl rfl ?_
  refine ov (xfieldAddr fo54f3 rfl) rfl rfl rfl ?_
  refine ov (v := .int .i64 f.Until) (xload1 Try.isAgg2 rfl (O2.cells) rfl) rfl rfl rfl ?_
  refine ov (xgtr rfl rfl _ rfl) rfl rfl rfl ?_
  refine ods (fun c10 => ?_) (fun c10 => ?_)
  ·
    refine ov (xmove rfl) rfl rfl rfl ?_
    refine og rfl rfl rfl ?_
    refine og rfl rfl rfl ?_
    refine og rfl rfl rfl ?_
    refine og rfl rfl rfl ?_
    refine og rfl rfl rfl ?_
    refine og rfl rfl rfl ?_
    refine og rfl rfl rfl ?_
    refine og rfl rfl rfl ?_
    refine og rfl rfl rfl ?_
    refine ov (xpick_t rfl rfl) rfl rfl rfl ?_
    refine ov (xassign rfl) rfl rfl rfl ?_
    refine ops_nil ?_
    refine run_ret Try.func77 (res1 rfl rfl) ?_
    exact ⟨_, rfl, by simp [seeP, c10], E⟩
  ·
    refine ov (xmove rfl) rfl rfl rfl ?_
    refine ov (xfieldAddr fo71f1 rfl) rfl rfl rfl ?_
    refine ov (v := .int .i64 r.Level) (xload1 Try.isAgg2 rfl (O1.cells) rfl) rfl rfl rfl ?_
    refine ov (xfieldAddr fo71f2 rfl) rfl rfl rfl ?_
    refine ov (v := .slice h.p h.n h.c) (xload1 Try.isAgg49 rfl (O1.cells) rfl) rfl rfl rfl ?_
    refine ov (xfieldAddr fo54f1 rfl) rfl rfl rfl ?_
    refine ov (v := .int .i64 f.Level) (xload1 Try.isAgg2 rfl (O2.cells) rfl) rfl rfl rfl ?_
    refine ov (xfieldAddr fo54f2 rfl) rfl rfl rfl ?_
    refine ov (v := .slice k.p k.n k.c) (xload1 Try.isAgg49 rfl (O2.cells) rfl) rfl rfl rfl ?_
    refine oc (xcall Try.call73 rfl) rfl rfl rfl (l24Above_ok (r.Level) _ _ _ _ (f.Level) _ _ _ _ _ (H.ext E) (K.ext E)) ?_
    rintro _ w3 ⟨rfl, e3⟩
    have z3 := e3.size
    have E := E.trans e3
    replace O1 := O1.ext e3
    replace O2 := O2.ext e3
    refine ov (xpick_f rfl rfl) rfl rfl rfl ?_
    refine ov (xassign rfl) rfl rfl rfl ?_
    refine ops_nil ?_
    refine run_ret Try.func77 (res1 rfl rfl) ?_
    exact ⟨_, rfl, by simp [seeP, c10], E⟩

set_option maxHeartbeats 400000 in
theorem sealCode_ok (p : Option Addr) (n c : Nat) (xs : List Role) (q : Option Addr) (m d : Nat) (ys : List File) (day : Int) (w : World) (H0 : SnRoleS w p n c xs) (K0 : SnFileS w q m d ys) (hx : ∀ x ∈ xs, x.ok) (hy : ∀ x ∈ ys, x.ok) : Ret Try.prog 78 [.slice p n c, .slice q m d, .int .i64 day] w (Pv w (.int .i64 (sealCode xs ys day))) := by
  refine ret_of_run (N := 18) Try.func78 rfl rfl rfl ?_
  have E : Ext w w := Ext.refl w
  refine run_seq ?_
  refine run_region ?_
  refine ov (xassign rfl) rfl rfl rfl ?_
  refine ops_nil ?_
  refine run_seq ?_
  refine run_seq ?_
  refine run_region ?_
  refine ov (xmove rfl) rfl rfl rfl ?_
  refine oc (xcall Try.call17 rfl) rfl rfl rfl (AreRoles_ok _ _ _ _ _ (H0.ext E).sn (by assumption)) ?_
  rintro _ w1 ⟨rfl, e1⟩
  have z1 := e1.size
  have E := E.trans e1
  refine obs (fun c8 => ?_) (fun c8 => ?_)
  ·
    refine ov (xnot rfl) rfl rfl rfl ?_
    refine ov (xmove rfl) rfl rfl rfl ?_
    refine ov (xmove rfl) rfl rfl rfl ?_
    refine oc (xcall Try.call22 rfl) rfl rfl rfl (AreFiles_ok _ _ _ _ _ (K0.ext E).sn (by assumption)) ?_
    rintro _ w2 ⟨rfl, e2⟩
    have z2 := e2.size
    have E := E.trans e2
    refine obs (fun c12 => ?_) (fun c12 => ?_)
    ·
      refine ov (xnot rfl) rfl rfl rfl ?_
      refine ov (xpick_f rfl rfl) rfl rfl rfl ?_
      refine ops_nil ?_
      refine run_cond_f rfl ?_
      refine run_skip ?_
      refine run_seq ?_
      refine run_seq ?_
      refine run_region ?_
      refine ov (xmove rfl) rfl rfl rfl ?_
      refine oc (xcall Try.call69 rfl) rfl rfl rfl (isDay_ok (day) _) ?_
      rintro _ w_ ⟨rfl, hw_⟩
      replace hw_ := hw_.symm
      subst hw_
      refine obs (fun c16 => ?_) (fun c16 => ?_)
      ·
        refine ov (xnot rfl) rfl rfl rfl ?_
        refine ops_nil ?_
        refine run_cond_f rfl ?_
        refine run_skip ?_
        refine run_seq ?_
        refine run_region ?_
        refine ov (xassign rfl) rfl rfl rfl ?_
        refine ops_nil ?_
        refine run_ret Try.func78 (res1 rfl rfl) ?_
        exact ⟨_, rfl, by simp [sealCode, c8, c12, c16], E⟩
      ·
        refine ov (xnot rfl) rfl rfl rfl ?_
        refine ops_nil ?_
        refine run_cond_t rfl ?_
        refine run_seq ?_
        refine run_region ?_
        refine ov (xassign rfl) rfl rfl rfl ?_
        refine ops_nil ?_
        refine run_ret Try.func78 (res1 rfl rfl) ?_
        exact ⟨_, rfl, by simp [sealCode, c8, c12, c16], E⟩
    ·
      refine ov (xnot rfl) rfl rfl rfl ?_
      refine ov (xpick_f rfl rfl) rfl rfl rfl ?_
      refine ops_nil ?_
      refine run_cond_t rfl ?_
      refine run_seq ?_
      refine run_region ?_
      refine ov (xassign rfl) rfl rfl rfl ?_
      refine ops_nil ?_
      refine run_ret Try.func78 (res1 rfl rfl) ?_
      exact ⟨_, rfl, by simp [sealCode, c8, c12], E⟩
  ·
    refine ov (xnot rfl) rfl rfl rfl ?_
    refine ov (xmove rfl) rfl rfl rfl ?_
    refine og rfl rfl rfl ?_
    refine og rfl rfl rfl ?_
    refine og rfl rfl rfl ?_
    refine ov (xpick_t rfl rfl) rfl rfl rfl ?_
    refine ops_nil ?_
    refine run_cond_t rfl ?_
    refine run_seq ?_
    refine run_region ?_
    refine ov (xassign rfl) rfl rfl rfl ?_
    refine ops_nil ?_
    refine run_ret Try.func78 (res1 rfl rfl) ?_
    exact ⟨_, rfl, by simp [sealCode, c8], E⟩

set_option maxHeartbeats 400000 in
theorem l24Code_ok (p : Option Addr) (n c : Nat) (xs : List Role) (q : Option Addr) (m d : Nat) (ys : List File) (day : Int) (w : World) (H0 : SnRoleS w p n c xs) (K0 : SnFileS w q m d ys) (hx : ∀ x ∈ xs, x.ok) (hy : ∀ x ∈ ys, x.ok) : Ret Try.prog 72 [.slice p n c, .slice q m d, .int .i64 day] w (Pv w (.int .i64 (sealCode xs ys day))) := by
  refine ret_of_run (N := 18) Try.func72 rfl rfl rfl ?_
  have E : Ext w w := Ext.refl w
  refine run_seq ?_
  refine run_region ?_
  refine ov (xassign rfl) rfl rfl rfl ?_
  refine ops_nil ?_
  refine run_seq ?_
  refine run_seq ?_
  refine run_region ?_
  refine ov (xmove rfl) rfl rfl rfl ?_
  refine oc (xcall Try.call15 rfl) rfl rfl rfl (sAreRoles_ok _ _ _ _ _ (H0.ext E).sn (by assumption)) ?_
  rintro _ w1 ⟨rfl, e1⟩
  have z1 := e1.size
  have E := E.trans e1
  refine obs (fun c8 => ?_) (fun c8 => ?_)
  ·
    refine ov (xnot rfl) rfl rfl rfl ?_
    refine ov (xmove rfl) rfl rfl rfl ?_
    refine ov (xmove rfl) rfl rfl rfl ?_
    refine oc (xcall Try.call20 rfl) rfl rfl rfl (sAreFiles_ok _ _ _ _ _ (K0.ext E).sn (by assumption)) ?_
    rintro _ w2 ⟨rfl, e2⟩
    have z2 := e2.size
    have E := E.trans e2
    refine obs (fun c12 => ?_) (fun c12 => ?_)
    ·
      refine ov (xnot rfl) rfl rfl rfl ?_
      refine ov (xpick_f rfl rfl) rfl rfl rfl ?_
      refine ops_nil ?_
      refine run_cond_f rfl ?_
      refine run_skip ?_
      refine run_seq ?_
      refine run_seq ?_
      refine run_region ?_
      refine ov (xmove rfl) rfl rfl rfl ?_
      refine oc (xcall Try.call66 rfl) rfl rfl rfl (l02Is_ok (day) _) ?_
      rintro _ w_ ⟨rfl, hw_⟩
      replace hw_ := hw_.symm
      subst hw_
      refine obs (fun c16 => ?_) (fun c16 => ?_)
      ·
        refine ov (xnot rfl) rfl rfl rfl ?_
        refine ops_nil ?_
        refine run_cond_f rfl ?_
        refine run_skip ?_
        refine run_seq ?_
        refine run_region ?_
        refine ov (xassign rfl) rfl rfl rfl ?_
        refine ops_nil ?_
        refine run_ret Try.func72 (res1 rfl rfl) ?_
        exact ⟨_, rfl, by simp [sealCode, c8, c12, c16], E⟩
      ·
        refine ov (xnot rfl) rfl rfl rfl ?_
        refine ops_nil ?_
        refine run_cond_t rfl ?_
        refine run_seq ?_
        refine run_region ?_
        refine ov (xassign rfl) rfl rfl rfl ?_
        refine ops_nil ?_
        refine run_ret Try.func72 (res1 rfl rfl) ?_
        exact ⟨_, rfl, by simp [sealCode, c8, c12, c16], E⟩
    ·
      refine ov (xnot rfl) rfl rfl rfl ?_
      refine ov (xpick_f rfl rfl) rfl rfl rfl ?_
      refine ops_nil ?_
      refine run_cond_t rfl ?_
      refine run_seq ?_
      refine run_region ?_
      refine ov (xassign rfl) rfl rfl rfl ?_
      refine ops_nil ?_
      refine run_ret Try.func72 (res1 rfl rfl) ?_
      exact ⟨_, rfl, by simp [sealCode, c8, c12], E⟩
  ·
    refine ov (xnot rfl) rfl rfl rfl ?_
    refine ov (xmove rfl) rfl rfl rfl ?_
    refine og rfl rfl rfl ?_
    refine og rfl rfl rfl ?_
    refine og rfl rfl rfl ?_
    refine ov (xpick_t rfl rfl) rfl rfl rfl ?_
    refine ops_nil ?_
    refine run_cond_t rfl ?_
    refine run_seq ?_
    refine run_region ?_
    refine ov (xassign rfl) rfl rfl rfl ?_
    refine ops_nil ?_
    refine run_ret Try.func72 (res1 rfl rfl) ?_
    exact ⟨_, rfl, by simp [sealCode, c8], E⟩

set_option maxHeartbeats 1000000 in
theorem MaySee_ok (p : Option Addr) (n c : Nat) (xs : List Role) (q : Option Addr) (m d : Nat) (ys : List File) (role file : ByteArray) (day : Int) (w : World) (H0 : SnRoleS w p n c xs) (K0 : SnFileS w q m d ys) (hx : ∀ x ∈ xs, x.ok) (hy : ∀ x ∈ ys, x.ok) : Ret Try.prog 31 [.slice p n c, .slice q m d, .string role, .string file, .int .i64 day] w (Pv w (.tuple #[.bool (maySee xs ys role file day).1, .int .i64 (maySee xs ys role file day).2])) := by
  refine ret_of_run (N := 44) Try.func31 rfl rfl rfl ?_
  obtain ⟨hd, H⟩ := H0
  have hn := H.len
  have hn6 := H.n64
  obtain ⟨he_, K⟩ := K0
  have hm := K.len
  have hm6 := K.n64
  have hrl := roleOf_lt xs role
  have hfl := fileOf_lt ys file
  have E : Ext w w := Ext.refl w
  refine run_seq ?_
  refine run_region ?_
  refine ov (xassign rfl) rfl rfl rfl ?_
  refine ov (xassign rfl) rfl rfl rfl ?_
  refine ops_nil ?_
  refine run_seq ?_
  refine run_seq ?_
  refine run_region ?_
  refine ov (xmove rfl) rfl rfl rfl ?_
  refine ov (xmove rfl) rfl rfl rfl ?_
  refine ov (xmove rfl) rfl rfl rfl ?_
  refine oc (xcall Try.call78 rfl) rfl rfl rfl (sealCode_ok _ _ _ _ _ _ _ _ (day) _ (H.ext E).sn (K.ext E).sn (by assumption) (by assumption)) ?_
  rintro _ w1 ⟨rfl, e1⟩
  have z1 := e1.size
  have E := E.trans e1
  refine ov (xassign rfl) rfl rfl rfl ?_
  refine ops_nil ?_
  refine run_seq ?_
  refine run_region ?_
  refine ov (xmove rfl) rfl rfl rfl ?_
  refine ov (xneq rfl rfl _ rfl) rfl rfl rfl ?_
  refine ods (fun c20 => ?_) (fun c20 => ?_)
  ·
    refine ops_nil ?_
    refine run_cond_t rfl ?_
    refine run_seq ?_
    refine run_region ?_
    refine ov (xmove rfl) rfl rfl rfl ?_
    refine ov (xassign rfl) rfl rfl rfl ?_
    refine ov (xassign rfl) rfl rfl rfl ?_
    refine ops_nil ?_
    refine run_ret Try.func31 (res2 rfl rfl rfl) ?_
    have he : maySee xs ys role file day = (false, (sealCode xs ys day)) := by unfold maySee; (repeat' split) <;> first | rfl | (exfalso; omega) | (rw [getR_eq (by omega), getF_eq (by omega)]) | (rw [getR_eq (by omega)]) | (rw [getF_eq (by omega)]) | (exfalso; simp_all; done)
    exact ⟨_, rfl, by rw [he], E⟩
  ·
    refine ops_nil ?_
    refine run_cond_f rfl ?_
    refine run_skip ?_
    refine run_seq ?_
    refine run_region ?_
    refine ov (xmove rfl) rfl rfl rfl ?_
    refine ov (xmove rfl) rfl rfl rfl ?_
    refine oc (xcall Try.call62 rfl) rfl rfl rfl (roleOf_ok _ _ _ _ (role) _ (H.ext E).sn) ?_
    rintro _ w2 ⟨rfl, e2⟩
    have z2 := e2.size
    have E := E.trans e2
    refine ov (xmove rfl) rfl rfl rfl ?_
    refine ov (xmove rfl) rfl rfl rfl ?_
    refine oc (xcall Try.call70 rfl) rfl rfl rfl (fileOf_ok _ _ _ _ (file) _ (K.ext E).sn) ?_
    rintro _ w3 ⟨rfl, e3⟩
    have z3 := e3.size
    have E := E.trans e3
    refine ov (xassign rfl) rfl rfl rfl ?_
    refine ov (xassign rfl) rfl rfl rfl ?_
    refine ops_nil ?_
    refine run_seq ?_
    refine run_seq ?_
    refine run_region ?_
    refine ov (xmove rfl) rfl rfl rfl ?_
    refine ov (xlss rfl rfl _ rfl) rfl rfl rfl ?_
    refine ods (fun c29 => ?_) (fun c29 => ?_)
    ·
      refine ov (xmove rfl) rfl rfl rfl ?_
      refine og rfl rfl rfl ?_
      refine og rfl rfl rfl ?_
      refine ov (xpick_t rfl rfl) rfl rfl rfl ?_
      refine ops_nil ?_
      refine run_cond_t rfl ?_
      refine run_seq ?_
      refine run_region ?_
      refine ov (xassign rfl) rfl rfl rfl ?_
      refine ov (xassign rfl) rfl rfl rfl ?_
      refine ops_nil ?_
      refine run_ret Try.func31 (res2 rfl rfl rfl) ?_
      have he : maySee xs ys role file day = (false, 4) := by unfold maySee; (repeat' split) <;> first | rfl | (exfalso; omega) | (rw [getR_eq (by omega), getF_eq (by omega)]) | (rw [getR_eq (by omega)]) | (rw [getF_eq (by omega)]) | (exfalso; simp_all; done)
      exact ⟨_, rfl, by rw [he], E⟩
    ·
      refine ov (xmove rfl) rfl rfl rfl ?_
      refine ov (xmove rfl) rfl rfl rfl ?_
      refine ov (xlss rfl rfl _ rfl) rfl rfl rfl ?_
      refine ods (fun c32 => ?_) (fun c32 => ?_)
      ·
        refine ov (xpick_f rfl rfl) rfl rfl rfl ?_
        refine ops_nil ?_
        refine run_cond_t rfl ?_
        refine run_seq ?_
        refine run_region ?_
        refine ov (xassign rfl) rfl rfl rfl ?_
        refine ov (xassign rfl) rfl rfl rfl ?_
        refine ops_nil ?_
        refine run_ret Try.func31 (res2 rfl rfl rfl) ?_
        have he : maySee xs ys role file day = (false, 4) := by unfold maySee; (repeat' split) <;> first | rfl | (exfalso; omega) | (rw [getR_eq (by omega), getF_eq (by omega)]) | (rw [getR_eq (by omega)]) | (rw [getF_eq (by omega)]) | (exfalso; simp_all; done)
        exact ⟨_, rfl, by rw [he], E⟩
      ·
        refine ov (xpick_f rfl rfl) rfl rfl rfl ?_
        refine ops_nil ?_
        refine run_cond_f rfl ?_
        refine run_skip ?_
        refine run_seq ?_
        refine run_draw (by kernel_rfl) (by kernel_rfl) ?_
        refine qv (fun w' x_ => xmove rfl) rfl rfl rfl ?_
        refine qv (fun w' x_ => xmove rfl) rfl rfl rfl ?_
        have h36 := (H.ext E).at (i := (roleOf xs role).toNat) (by omega)
        refine qv (fun w' x_ => xindexN (i := (roleOf xs role).toNat) Try.underlying25 Try.sizeOf71 rfl rfl (by omega) ((H.ext E).p (i := (roleOf xs role).toNat) (by omega)) (by have := (H.ext E).len; omega)) rfl rfl rfl ?_
        refine qv (v := .agg #[.string xs[(roleOf xs role).toNat].Name, .int .i64 xs[(roleOf xs role).toNat].Level, .slice (hd (roleOf xs role).toNat).p (hd (roleOf xs role).toNat).n (hd (roleOf xs role).toNat).c]) (fun w' x_ => xloadN Try.isAgg71 Try.sizeOf71 rfl ((h36).ext x_) rfl) rfl rfl rfl ?_
        refine qv (fun w' x_ => xmove rfl) rfl rfl rfl ?_
        refine qv (fun w' x_ => xmove rfl) rfl rfl rfl ?_
        have h40 := (K.ext E).at (i := (fileOf ys file).toNat) (by omega)
        refine qv (fun w' x_ => xindexN (i := (fileOf ys file).toNat) Try.underlying32 Try.sizeOf54 rfl rfl (by omega) ((K.ext E).p (i := (fileOf ys file).toNat) (by omega)) (by have := (K.ext E).len; omega)) rfl rfl rfl ?_
        refine qv (v := .agg #[.string ys[(fileOf ys file).toNat].Code, .int .i64 ys[(fileOf ys file).toNat].Level, .slice (he_ (fileOf ys file).toNat).p (he_ (fileOf ys file).toNat).n (he_ (fileOf ys file).toNat).c, .int .i64 ys[(fileOf ys file).toNat].Until]) (fun w' x_ => xloadN Try.isAgg54 Try.sizeOf54 rfl ((h40).ext x_) rfl) rfl rfl rfl ?_
        refine qv (fun w' x_ => xmove rfl) rfl rfl rfl ?_
        have t43 := fun (w' : World) (x_ : Ext w3 w') => Ret.q (w := w') (maySee_ok _ _ _ _ (day) _ (((show Sl strc 1 _ _ _ _ xs[(roleOf xs role).toNat].Groups from (H.inner (i := (roleOf xs role).toNat) (by omega)).ext E)).ext x_) (((show Sl strc 1 _ _ _ _ ys[(fileOf ys file).toNat].Groups from (K.inner (i := (fileOf ys file).toNat) (by omega)).ext E)).ext x_))
        refine qc (fun w' => xcall Try.call79 rfl) rfl rfl rfl t43 ?_
        clear t43
        refine qv (fun w' x_ => xassign rfl) rfl rfl rfl ?_
        refine qv (fun w' x_ => xassign rfl) rfl rfl rfl ?_
        refine q_nil ?_
        intro w4 e4
        have z4 := e4.size
        have E := E.trans e4
        refine run_ret Try.func31 (res2 rfl rfl rfl) ?_
        have he : maySee xs ys role file day = ((seeP xs[(roleOf xs role).toNat] ys[(fileOf ys file).toNat] day), 0) := by unfold maySee; (repeat' split) <;> first | rfl | (exfalso; omega) | (rw [getR_eq (by omega), getF_eq (by omega)]) | (rw [getR_eq (by omega)]) | (rw [getF_eq (by omega)]) | (exfalso; simp_all; done)
        exact ⟨_, rfl, by rw [he], E⟩

set_option maxHeartbeats 1000000 in
theorem sMaySee_ok (p : Option Addr) (n c : Nat) (xs : List Role) (q : Option Addr) (m d : Nat) (ys : List File) (role file : ByteArray) (day : Int) (w : World) (H0 : SnRoleS w p n c xs) (K0 : SnFileS w q m d ys) (hx : ∀ x ∈ xs, x.ok) (hy : ∀ x ∈ ys, x.ok) : Ret Try.prog 30 [.slice p n c, .slice q m d, .string role, .string file, .int .i64 day] w (Pv w (.tuple #[.bool (maySee xs ys role file day).1, .int .i64 (maySee xs ys role file day).2])) := by
  refine ret_of_run (N := 48) Try.func30 rfl rfl rfl ?_
  obtain ⟨hd, H⟩ := H0
  have hn := H.len
  have hn6 := H.n64
  obtain ⟨he_, K⟩ := K0
  have hm := K.len
  have hm6 := K.n64
  have hrl := roleOf_lt xs role
  have hfl := fileOf_lt ys file
  have E : Ext w w := Ext.refl w
  refine run_seq ?_
  refine run_region ?_
  refine ov (xassign rfl) rfl rfl rfl ?_
  refine ov (xassign rfl) rfl rfl rfl ?_
  refine ops_nil ?_
  refine run_seq ?_
  refine run_region ?_
  refine ov (xmove rfl) rfl rfl rfl ?_
  refine ov (xmove rfl) rfl rfl rfl ?_
  refine ov (xmove rfl) rfl rfl rfl ?_
  refine oc (xcall Try.call72 rfl) rfl rfl rfl (l24Code_ok _ _ _ _ _ _ _ _ (day) _ (H.ext E).sn (K.ext E).sn (by assumption) (by assumption)) ?_
  rintro _ w1 ⟨rfl, e1⟩
  have z1 := e1.size
  have E := E.trans e1
  refine ov (xassign rfl) rfl rfl rfl ?_
  refine ops_nil ?_
  refine run_seq ?_
  refine run_region ?_
  refine ov (xmove rfl) rfl rfl rfl ?_
  refine ov (xmove rfl) rfl rfl rfl ?_
  refine oc (xcall Try.call57 rfl) rfl rfl rfl (l24Role_ok _ _ _ _ (role) _ (H.ext E).sn) ?_
  rintro _ w2 ⟨rfl, e2⟩
  have z2 := e2.size
  have E := E.trans e2
  refine ov (xmove rfl) rfl rfl rfl ?_
  refine ov (xmove rfl) rfl rfl rfl ?_
  refine oc (xcall Try.call67 rfl) rfl rfl rfl (l24File_ok _ _ _ _ (file) _ (K.ext E).sn) ?_
  rintro _ w3 ⟨rfl, e3⟩
  have z3 := e3.size
  have E := E.trans e3
  refine ov (xassign rfl) rfl rfl rfl ?_
  refine ov (xassign rfl) rfl rfl rfl ?_
  refine ops_nil ?_
  refine run_seq ?_
  refine run_seq ?_
  refine run_region ?_
  refine ov (xmove rfl) rfl rfl rfl ?_
  refine ov (xeql rfl rfl _ rfl) rfl rfl rfl ?_
  refine ods (fun c26 => ?_) (fun c26 => ?_)
  ·
    refine ov (xmove rfl) rfl rfl rfl ?_
    refine ov (xmove rfl) rfl rfl rfl ?_
    refine ov (xlss rfl rfl _ rfl) rfl rfl rfl ?_
    refine ods (fun c29 => ?_) (fun c29 => ?_)
    ·
      refine ov (xmove rfl) rfl rfl rfl ?_
      refine og rfl rfl rfl ?_
      refine og rfl rfl rfl ?_
      refine ov (xpick_t rfl rfl) rfl rfl rfl ?_
      refine ov (xpick_t rfl rfl) rfl rfl rfl ?_
      refine ops_nil ?_
      refine run_cond_t rfl ?_
      refine run_region ?_
      refine ov (xassign rfl) rfl rfl rfl ?_
      refine ops_nil ?_
      refine run_seq ?_
      refine run_seq ?_
      refine run_region ?_
      refine ov (xmove rfl) rfl rfl rfl ?_
      refine ov (xneq rfl rfl _ rfl) rfl rfl rfl ?_
      refine ods (fun c36 => ?_) (fun c36 => ?_)
      ·
        refine ops_nil ?_
        refine run_cond_t rfl ?_
        refine run_seq ?_
        refine run_region ?_
        refine ov (xmove rfl) rfl rfl rfl ?_
        refine ov (xassign rfl) rfl rfl rfl ?_
        refine ov (xassign rfl) rfl rfl rfl ?_
        refine ops_nil ?_
        refine run_ret Try.func30 (res2 rfl rfl rfl) ?_
        have he : maySee xs ys role file day = (false, 4) := by unfold maySee; (repeat' split) <;> first | rfl | (exfalso; omega) | (rw [getR_eq (by omega), getF_eq (by omega)]) | (rw [getR_eq (by omega)]) | (rw [getF_eq (by omega)]) | (exfalso; simp_all; done)
        exact ⟨_, rfl, by rw [he], E⟩
      · exfalso; omega
    ·
      refine ov (xmove rfl) rfl rfl rfl ?_
      refine ov (xmove rfl) rfl rfl rfl ?_
      refine ov (xlss rfl rfl _ rfl) rfl rfl rfl ?_
      refine ods (fun c32 => ?_) (fun c32 => ?_)
      ·
        refine ov (xpick_f rfl rfl) rfl rfl rfl ?_
        refine ov (xpick_t rfl rfl) rfl rfl rfl ?_
        refine ops_nil ?_
        refine run_cond_t rfl ?_
        refine run_region ?_
        refine ov (xassign rfl) rfl rfl rfl ?_
        refine ops_nil ?_
        refine run_seq ?_
        refine run_seq ?_
        refine run_region ?_
        refine ov (xmove rfl) rfl rfl rfl ?_
        refine ov (xneq rfl rfl _ rfl) rfl rfl rfl ?_
        refine ods (fun c36 => ?_) (fun c36 => ?_)
        ·
          refine ops_nil ?_
          refine run_cond_t rfl ?_
          refine run_seq ?_
          refine run_region ?_
          refine ov (xmove rfl) rfl rfl rfl ?_
          refine ov (xassign rfl) rfl rfl rfl ?_
          refine ov (xassign rfl) rfl rfl rfl ?_
          refine ops_nil ?_
          refine run_ret Try.func30 (res2 rfl rfl rfl) ?_
          have he : maySee xs ys role file day = (false, 4) := by unfold maySee; (repeat' split) <;> first | rfl | (exfalso; omega) | (rw [getR_eq (by omega), getF_eq (by omega)]) | (rw [getR_eq (by omega)]) | (rw [getF_eq (by omega)]) | (exfalso; simp_all; done)
          exact ⟨_, rfl, by rw [he], E⟩
        · exfalso; omega
      ·
        refine ov (xpick_f rfl rfl) rfl rfl rfl ?_
        refine ov (xpick_t rfl rfl) rfl rfl rfl ?_
        refine ops_nil ?_
        refine run_cond_f rfl ?_
        refine run_skip ?_
        refine run_seq ?_
        refine run_seq ?_
        refine run_region ?_
        refine ov (xmove rfl) rfl rfl rfl ?_
        refine ov (xneq rfl rfl _ rfl) rfl rfl rfl ?_
        refine ods (fun c36 => ?_) (fun c36 => ?_)
        ·
          refine ops_nil ?_
          refine run_cond_t rfl ?_
          refine run_seq ?_
          refine run_region ?_
          refine ov (xmove rfl) rfl rfl rfl ?_
          refine ov (xassign rfl) rfl rfl rfl ?_
          refine ov (xassign rfl) rfl rfl rfl ?_
          refine ops_nil ?_
          refine run_ret Try.func30 (res2 rfl rfl rfl) ?_
          have he : maySee xs ys role file day = (false, (sealCode xs ys day)) := by unfold maySee; (repeat' split) <;> first | rfl | (exfalso; omega) | (rw [getR_eq (by omega), getF_eq (by omega)]) | (rw [getR_eq (by omega)]) | (rw [getF_eq (by omega)]) | (exfalso; simp_all; done)
          exact ⟨_, rfl, by rw [he], E⟩
        ·
          refine ops_nil ?_
          refine run_cond_f rfl ?_
          refine run_skip ?_
          refine run_seq ?_
          refine run_draw (by kernel_rfl) (by kernel_rfl) ?_
          refine qv (fun w' x_ => xmove rfl) rfl rfl rfl ?_
          refine qv (fun w' x_ => xmove rfl) rfl rfl rfl ?_
          have h40 := (H.ext E).at (i := (roleOf xs role).toNat) (by omega)
          refine qv (fun w' x_ => xindexN (i := (roleOf xs role).toNat) Try.underlying25 Try.sizeOf71 rfl rfl (by omega) ((H.ext E).p (i := (roleOf xs role).toNat) (by omega)) (by have := (H.ext E).len; omega)) rfl rfl rfl ?_
          refine qv (v := .agg #[.string xs[(roleOf xs role).toNat].Name, .int .i64 xs[(roleOf xs role).toNat].Level, .slice (hd (roleOf xs role).toNat).p (hd (roleOf xs role).toNat).n (hd (roleOf xs role).toNat).c]) (fun w' x_ => xloadN Try.isAgg71 Try.sizeOf71 rfl ((h40).ext x_) rfl) rfl rfl rfl ?_
          refine qv (fun w' x_ => xmove rfl) rfl rfl rfl ?_
          refine qv (fun w' x_ => xmove rfl) rfl rfl rfl ?_
          have h44 := (K.ext E).at (i := (fileOf ys file).toNat) (by omega)
          refine qv (fun w' x_ => xindexN (i := (fileOf ys file).toNat) Try.underlying32 Try.sizeOf54 rfl rfl (by omega) ((K.ext E).p (i := (fileOf ys file).toNat) (by omega)) (by have := (K.ext E).len; omega)) rfl rfl rfl ?_
          refine qv (v := .agg #[.string ys[(fileOf ys file).toNat].Code, .int .i64 ys[(fileOf ys file).toNat].Level, .slice (he_ (fileOf ys file).toNat).p (he_ (fileOf ys file).toNat).n (he_ (fileOf ys file).toNat).c, .int .i64 ys[(fileOf ys file).toNat].Until]) (fun w' x_ => xloadN Try.isAgg54 Try.sizeOf54 rfl ((h44).ext x_) rfl) rfl rfl rfl ?_
          refine qv (fun w' x_ => xmove rfl) rfl rfl rfl ?_
          have t47 := fun (w' : World) (x_ : Ext w3 w') => Ret.q (w := w') (l24Sees_ok _ _ _ _ (day) _ (((show Sl strc 1 _ _ _ _ xs[(roleOf xs role).toNat].Groups from (H.inner (i := (roleOf xs role).toNat) (by omega)).ext E)).ext x_) (((show Sl strc 1 _ _ _ _ ys[(fileOf ys file).toNat].Groups from (K.inner (i := (fileOf ys file).toNat) (by omega)).ext E)).ext x_))
          refine qc (fun w' => xcall Try.call77 rfl) rfl rfl rfl t47 ?_
          clear t47
          refine qv (fun w' x_ => xassign rfl) rfl rfl rfl ?_
          refine qv (fun w' x_ => xassign rfl) rfl rfl rfl ?_
          refine q_nil ?_
          intro w4 e4
          have z4 := e4.size
          have E := E.trans e4
          refine run_ret Try.func30 (res2 rfl rfl rfl) ?_
          have he : maySee xs ys role file day = ((seeP xs[(roleOf xs role).toNat] ys[(fileOf ys file).toNat] day), 0) := by unfold maySee; (repeat' split) <;> first | rfl | (exfalso; omega) | (rw [getR_eq (by omega), getF_eq (by omega)]) | (rw [getR_eq (by omega)]) | (rw [getF_eq (by omega)]) | (exfalso; simp_all; done)
          exact ⟨_, rfl, by rw [he], E⟩
  ·
    refine ov (xmove rfl) rfl rfl rfl ?_
    refine og rfl rfl rfl ?_
    refine og rfl rfl rfl ?_
    refine og rfl rfl rfl ?_
    refine og rfl rfl rfl ?_
    refine og rfl rfl rfl ?_
    refine og rfl rfl rfl ?_
    refine ov (xpick_f rfl rfl) rfl rfl rfl ?_
    refine ops_nil ?_
    refine run_cond_f rfl ?_
    refine run_skip ?_
    refine run_seq ?_
    refine run_seq ?_
    refine run_region ?_
    refine ov (xmove rfl) rfl rfl rfl ?_
    refine ov (xneq rfl rfl _ rfl) rfl rfl rfl ?_
    refine ods (fun c36 => ?_) (fun c36 => ?_)
    ·
      refine ops_nil ?_
      refine run_cond_t rfl ?_
      refine run_seq ?_
      refine run_region ?_
      refine ov (xmove rfl) rfl rfl rfl ?_
      refine ov (xassign rfl) rfl rfl rfl ?_
      refine ov (xassign rfl) rfl rfl rfl ?_
      refine ops_nil ?_
      refine run_ret Try.func30 (res2 rfl rfl rfl) ?_
      have he : maySee xs ys role file day = (false, (sealCode xs ys day)) := by unfold maySee; (repeat' split) <;> first | rfl | (exfalso; omega) | (rw [getR_eq (by omega), getF_eq (by omega)]) | (rw [getR_eq (by omega)]) | (rw [getF_eq (by omega)]) | (exfalso; simp_all; done)
      exact ⟨_, rfl, by rw [he], E⟩
    ·
      refine ops_nil ?_
      refine run_cond_f rfl ?_
      refine run_skip ?_
      refine run_seq ?_
      refine run_draw (by kernel_rfl) (by kernel_rfl) ?_
      refine qv (fun w' x_ => xmove rfl) rfl rfl rfl ?_
      refine qv (fun w' x_ => xmove rfl) rfl rfl rfl ?_
      have h40 := (H.ext E).at (i := (roleOf xs role).toNat) (by omega)
      refine qv (fun w' x_ => xindexN (i := (roleOf xs role).toNat) Try.underlying25 Try.sizeOf71 rfl rfl (by omega) ((H.ext E).p (i := (roleOf xs role).toNat) (by omega)) (by have := (H.ext E).len; omega)) rfl rfl rfl ?_
      refine qv (v := .agg #[.string xs[(roleOf xs role).toNat].Name, .int .i64 xs[(roleOf xs role).toNat].Level, .slice (hd (roleOf xs role).toNat).p (hd (roleOf xs role).toNat).n (hd (roleOf xs role).toNat).c]) (fun w' x_ => xloadN Try.isAgg71 Try.sizeOf71 rfl ((h40).ext x_) rfl) rfl rfl rfl ?_
      refine qv (fun w' x_ => xmove rfl) rfl rfl rfl ?_
      refine qv (fun w' x_ => xmove rfl) rfl rfl rfl ?_
      have h44 := (K.ext E).at (i := (fileOf ys file).toNat) (by omega)
      refine qv (fun w' x_ => xindexN (i := (fileOf ys file).toNat) Try.underlying32 Try.sizeOf54 rfl rfl (by omega) ((K.ext E).p (i := (fileOf ys file).toNat) (by omega)) (by have := (K.ext E).len; omega)) rfl rfl rfl ?_
      refine qv (v := .agg #[.string ys[(fileOf ys file).toNat].Code, .int .i64 ys[(fileOf ys file).toNat].Level, .slice (he_ (fileOf ys file).toNat).p (he_ (fileOf ys file).toNat).n (he_ (fileOf ys file).toNat).c, .int .i64 ys[(fileOf ys file).toNat].Until]) (fun w' x_ => xloadN Try.isAgg54 Try.sizeOf54 rfl ((h44).ext x_) rfl) rfl rfl rfl ?_
      refine qv (fun w' x_ => xmove rfl) rfl rfl rfl ?_
      have t47 := fun (w' : World) (x_ : Ext w3 w') => Ret.q (w := w') (l24Sees_ok _ _ _ _ (day) _ (((show Sl strc 1 _ _ _ _ xs[(roleOf xs role).toNat].Groups from (H.inner (i := (roleOf xs role).toNat) (by omega)).ext E)).ext x_) (((show Sl strc 1 _ _ _ _ ys[(fileOf ys file).toNat].Groups from (K.inner (i := (fileOf ys file).toNat) (by omega)).ext E)).ext x_))
      refine qc (fun w' => xcall Try.call77 rfl) rfl rfl rfl t47 ?_
      clear t47
      refine qv (fun w' x_ => xassign rfl) rfl rfl rfl ?_
      refine qv (fun w' x_ => xassign rfl) rfl rfl rfl ?_
      refine q_nil ?_
      intro w4 e4
      have z4 := e4.size
      have E := E.trans e4
      refine run_ret Try.func30 (res2 rfl rfl rfl) ?_
      have he : maySee xs ys role file day = ((seeP xs[(roleOf xs role).toNat] ys[(fileOf ys file).toNat] day), 0) := by unfold maySee; (repeat' split) <;> first | rfl | (exfalso; omega) | (rw [getR_eq (by omega), getF_eq (by omega)]) | (rw [getR_eq (by omega)]) | (rw [getF_eq (by omega)]) | (exfalso; simp_all; done)
      exact ⟨_, rfl, by rw [he], E⟩

set_option maxHeartbeats 1000000 in
theorem IsAbove_ok (p : Option Addr) (n c : Nat) (xs : List Role) (a b : ByteArray) (w : World) (H0 : SnRoleS w p n c xs) (hx : ∀ x ∈ xs, x.ok) : Ret Try.prog 25 [.slice p n c, .string a, .string b] w (Pv w (.tuple #[.bool (isAbove xs a b).1, .int .i64 (isAbove xs a b).2])) := by
  refine ret_of_run (N := 46) Try.func25 rfl rfl rfl ?_
  obtain ⟨hd, H⟩ := H0
  have hn := H.len
  have hn6 := H.n64
  have hra := roleOf_lt xs a
  have hrb := roleOf_lt xs b
  have E : Ext w w := Ext.refl w
  refine run_seq ?_
  refine run_region ?_
  refine ov (xassign rfl) rfl rfl rfl ?_
  refine ov (xassign rfl) rfl rfl rfl ?_
  refine ops_nil ?_
  refine run_seq ?_
  refine run_seq ?_
  refine run_region ?_
  refine ov (xmove rfl) rfl rfl rfl ?_
  refine oc (xcall Try.call17 rfl) rfl rfl rfl (AreRoles_ok _ _ _ _ _ (H.ext E).sn (by assumption)) ?_
  rintro _ w1 ⟨rfl, e1⟩
  have z1 := e1.size
  have E := E.trans e1
  refine obs (fun c11 => ?_) (fun c11 => ?_)
  ·
    refine ov (xnot rfl) rfl rfl rfl ?_
    refine ops_nil ?_
    refine run_cond_f rfl ?_
    refine run_skip ?_
    refine run_seq ?_
    refine run_region ?_
    refine ov (xmove rfl) rfl rfl rfl ?_
    refine ov (xmove rfl) rfl rfl rfl ?_
    refine oc (xcall Try.call62 rfl) rfl rfl rfl (roleOf_ok _ _ _ _ (a) _ (H.ext E).sn) ?_
    rintro _ w2 ⟨rfl, e2⟩
    have z2 := e2.size
    have E := E.trans e2
    refine ov (xmove rfl) rfl rfl rfl ?_
    refine ov (xmove rfl) rfl rfl rfl ?_
    refine oc (xcall Try.call62 rfl) rfl rfl rfl (roleOf_ok _ _ _ _ (b) _ (H.ext E).sn) ?_
    rintro _ w3 ⟨rfl, e3⟩
    have z3 := e3.size
    have E := E.trans e3
    refine ov (xassign rfl) rfl rfl rfl ?_
    refine ov (xassign rfl) rfl rfl rfl ?_
    refine ops_nil ?_
    refine run_seq ?_
    refine run_seq ?_
    refine run_region ?_
    refine ov (xmove rfl) rfl rfl rfl ?_
    refine ov (xlss rfl rfl _ rfl) rfl rfl rfl ?_
    refine ods (fun c20 => ?_) (fun c20 => ?_)
    ·
      refine ov (xmove rfl) rfl rfl rfl ?_
      refine og rfl rfl rfl ?_
      refine og rfl rfl rfl ?_
      refine ov (xpick_t rfl rfl) rfl rfl rfl ?_
      refine ops_nil ?_
      refine run_cond_t rfl ?_
      refine run_seq ?_
      refine run_region ?_
      refine ov (xassign rfl) rfl rfl rfl ?_
      refine ov (xassign rfl) rfl rfl rfl ?_
      refine ops_nil ?_
      refine run_ret Try.func25 (res2 rfl rfl rfl) ?_
      have he : isAbove xs a b = (false, 4) := by unfold isAbove; (repeat' split) <;> first | rfl | (exfalso; omega) | (exfalso; simp_all; done) | (rw [getR_eq (i := roleOf xs a) (by omega), getR_eq (i := roleOf xs b) (by omega)]) | (rw [h2])
      exact ⟨_, rfl, by rw [he], E⟩
    ·
      refine ov (xmove rfl) rfl rfl rfl ?_
      refine ov (xmove rfl) rfl rfl rfl ?_
      refine ov (xlss rfl rfl _ rfl) rfl rfl rfl ?_
      refine ods (fun c23 => ?_) (fun c23 => ?_)
      ·
        refine ov (xpick_f rfl rfl) rfl rfl rfl ?_
        refine ops_nil ?_
        refine run_cond_t rfl ?_
        refine run_seq ?_
        refine run_region ?_
        refine ov (xassign rfl) rfl rfl rfl ?_
        refine ov (xassign rfl) rfl rfl rfl ?_
        refine ops_nil ?_
        refine run_ret Try.func25 (res2 rfl rfl rfl) ?_
        have he : isAbove xs a b = (false, 4) := by unfold isAbove; (repeat' split) <;> first | rfl | (exfalso; omega) | (exfalso; simp_all; done) | (rw [getR_eq (i := roleOf xs a) (by omega), getR_eq (i := roleOf xs b) (by omega)]) | (rw [h2])
        exact ⟨_, rfl, by rw [he], E⟩
      ·
        refine ov (xpick_f rfl rfl) rfl rfl rfl ?_
        refine ops_nil ?_
        refine run_cond_f rfl ?_
        refine run_skip ?_
        refine run_seq ?_
        refine run_draw (by kernel_rfl) (by kernel_rfl) ?_
        refine qv (fun w' x_ => xmove rfl) rfl rfl rfl ?_
        refine qv (fun w' x_ => xmove rfl) rfl rfl rfl ?_
        have h27 := (H.ext E).at (i := (roleOf xs a).toNat) (by omega)
        refine qv (fun w' x_ => xindexN (i := (roleOf xs a).toNat) Try.underlying25 Try.sizeOf71 rfl rfl (by omega) ((H.ext E).p (i := (roleOf xs a).toNat) (by omega)) (by have := (H.ext E).len; omega)) rfl rfl rfl ?_
        refine qv (fun w' x_ => xfieldAddr fo71f1 rfl) rfl rfl rfl ?_
        refine qv (v := .int .i64 xs[(roleOf xs a).toNat].Level) (fun w' x_ => xload1 Try.isAgg2 rfl ((h27).ext x_) rfl) rfl rfl rfl ?_
        refine qv (fun w' x_ => xmove rfl) rfl rfl rfl ?_
        refine qv (fun w' x_ => xmove rfl) rfl rfl rfl ?_
        have h32 := (H.ext E).at (i := (roleOf xs a).toNat) (by omega)
        refine qv (fun w' x_ => xindexN (i := (roleOf xs a).toNat) Try.underlying25 Try.sizeOf71 rfl rfl (by omega) ((H.ext E).p (i := (roleOf xs a).toNat) (by omega)) (by have := (H.ext E).len; omega)) rfl rfl rfl ?_
        refine qv (fun w' x_ => xfieldAddr fo71f2 rfl) rfl rfl rfl ?_
        refine qv (v := .slice (hd (roleOf xs a).toNat).p (hd (roleOf xs a).toNat).n (hd (roleOf xs a).toNat).c) (fun w' x_ => xload1 Try.isAgg49 rfl ((h32).ext x_) rfl) rfl rfl rfl ?_
        refine qv (fun w' x_ => xmove rfl) rfl rfl rfl ?_
        refine qv (fun w' x_ => xmove rfl) rfl rfl rfl ?_
        have h37 := (H.ext E).at (i := (roleOf xs b).toNat) (by omega)
        refine qv (fun w' x_ => xindexN (i := (roleOf xs b).toNat) Try.underlying25 Try.sizeOf71 rfl rfl (by omega) ((H.ext E).p (i := (roleOf xs b).toNat) (by omega)) (by have := (H.ext E).len; omega)) rfl rfl rfl ?_
        refine qv (fun w' x_ => xfieldAddr fo71f1 rfl) rfl rfl rfl ?_
        refine qv (v := .int .i64 xs[(roleOf xs b).toNat].Level) (fun w' x_ => xload1 Try.isAgg2 rfl ((h37).ext x_) rfl) rfl rfl rfl ?_
        refine qv (fun w' x_ => xmove rfl) rfl rfl rfl ?_
        refine qv (fun w' x_ => xmove rfl) rfl rfl rfl ?_
        have h42 := (H.ext E).at (i := (roleOf xs b).toNat) (by omega)
        refine qv (fun w' x_ => xindexN (i := (roleOf xs b).toNat) Try.underlying25 Try.sizeOf71 rfl rfl (by omega) ((H.ext E).p (i := (roleOf xs b).toNat) (by omega)) (by have := (H.ext E).len; omega)) rfl rfl rfl ?_
        refine qv (fun w' x_ => xfieldAddr fo71f2 rfl) rfl rfl rfl ?_
        refine qv (v := .slice (hd (roleOf xs b).toNat).p (hd (roleOf xs b).toNat).n (hd (roleOf xs b).toNat).c) (fun w' x_ => xload1 Try.isAgg49 rfl ((h42).ext x_) rfl) rfl rfl rfl ?_
        have t45 := fun (w' : World) (x_ : Ext w3 w') => Ret.q (w := w') (reaches_ok (xs[(roleOf xs a).toNat].Level) _ _ _ _ (xs[(roleOf xs b).toNat].Level) _ _ _ _ _ (((show Sl strc 1 _ _ _ _ xs[(roleOf xs a).toNat].Groups from (H.inner (i := (roleOf xs a).toNat) (by omega)).ext E)).ext x_) (((show Sl strc 1 _ _ _ _ xs[(roleOf xs b).toNat].Groups from (H.inner (i := (roleOf xs b).toNat) (by omega)).ext E)).ext x_))
        refine qc (fun w' => xcall Try.call74 rfl) rfl rfl rfl t45 ?_
        clear t45
        refine qv (fun w' x_ => xassign rfl) rfl rfl rfl ?_
        refine qv (fun w' x_ => xassign rfl) rfl rfl rfl ?_
        refine q_nil ?_
        intro w4 e4
        have z4 := e4.size
        have E := E.trans e4
        refine run_ret Try.func25 (res2 rfl rfl rfl) ?_
        have he : isAbove xs a b = ((reaches xs[(roleOf xs a).toNat].Level xs[(roleOf xs a).toNat].Groups xs[(roleOf xs b).toNat].Level xs[(roleOf xs b).toNat].Groups), 0) := by unfold isAbove; (repeat' split) <;> first | rfl | (exfalso; omega) | (exfalso; simp_all; done) | (rw [getR_eq (i := roleOf xs a) (by omega), getR_eq (i := roleOf xs b) (by omega)]) | (rw [h2])
        exact ⟨_, rfl, by rw [he], E⟩
  ·
    refine ov (xnot rfl) rfl rfl rfl ?_
    refine ops_nil ?_
    refine run_cond_t rfl ?_
    refine run_seq ?_
    refine run_region ?_
    refine ov (xassign rfl) rfl rfl rfl ?_
    refine ov (xassign rfl) rfl rfl rfl ?_
    refine ops_nil ?_
    refine run_ret Try.func25 (res2 rfl rfl rfl) ?_
    have he : isAbove xs a b = (false, 1) := by unfold isAbove; (repeat' split) <;> first | rfl | (exfalso; omega) | (exfalso; simp_all; done) | (rw [getR_eq (i := roleOf xs a) (by omega), getR_eq (i := roleOf xs b) (by omega)]) | (rw [h2])
    exact ⟨_, rfl, by rw [he], E⟩

set_option maxHeartbeats 1000000 in
theorem sIsAbove_ok (p : Option Addr) (n c : Nat) (xs : List Role) (a b : ByteArray) (w : World) (H0 : SnRoleS w p n c xs) (hx : ∀ x ∈ xs, x.ok) : Ret Try.prog 24 [.slice p n c, .string a, .string b] w (Pv w (.tuple #[.bool (isAbove xs a b).1, .int .i64 (isAbove xs a b).2])) := by
  refine ret_of_run (N := 53) Try.func24 rfl rfl rfl ?_
  obtain ⟨hd, H⟩ := H0
  have hn := H.len
  have hn6 := H.n64
  have hra := roleOf_lt xs a
  have hrb := roleOf_lt xs b
  have hsc : (areRoles xs = false ∧ sealCode xs [] 0 = 1) ∨ (areRoles xs = true ∧ sealCode xs [] 0 = 0) := by cases h : areRoles xs <;> simp [sealCode, h, areFiles, allB, inR]
  have E : Ext w w := Ext.refl w
  refine run_seq ?_
  refine run_region ?_
  refine ov (xassign rfl) rfl rfl rfl ?_
  refine ov (xassign rfl) rfl rfl rfl ?_
  refine ops_nil ?_
  refine run_seq ?_
  refine run_region ?_
  refine ov (xmove rfl) rfl rfl rfl ?_
  refine oc (xcall Try.call72 rfl) rfl rfl rfl (l24Code_ok _ _ _ xs none 0 0 [] 0 _ (H.ext E).sn (Sn.none _ _ _ _ _ _) (by assumption) (by intro x hx; cases hx)) ?_
  rintro _ w1 ⟨rfl, e1⟩
  have z1 := e1.size
  have E := E.trans e1
  refine ov (xassign rfl) rfl rfl rfl ?_
  refine ops_nil ?_
  refine run_seq ?_
  refine run_region ?_
  refine ov (xmove rfl) rfl rfl rfl ?_
  refine ov (xmove rfl) rfl rfl rfl ?_
  refine oc (xcall Try.call57 rfl) rfl rfl rfl (l24Role_ok _ _ _ _ (a) _ (H.ext E).sn) ?_
  rintro _ w2 ⟨rfl, e2⟩
  have z2 := e2.size
  have E := E.trans e2
  refine ov (xmove rfl) rfl rfl rfl ?_
  refine ov (xmove rfl) rfl rfl rfl ?_
  refine oc (xcall Try.call57 rfl) rfl rfl rfl (l24Role_ok _ _ _ _ (b) _ (H.ext E).sn) ?_
  rintro _ w3 ⟨rfl, e3⟩
  have z3 := e3.size
  have E := E.trans e3
  refine ov (xassign rfl) rfl rfl rfl ?_
  refine ov (xassign rfl) rfl rfl rfl ?_
  refine ops_nil ?_
  refine run_seq ?_
  refine run_seq ?_
  refine run_region ?_
  refine ov (xmove rfl) rfl rfl rfl ?_
  refine ov (xeql rfl rfl _ rfl) rfl rfl rfl ?_
  refine ods (fun c20 => ?_) (fun c20 => ?_)
  ·
    refine ov (xmove rfl) rfl rfl rfl ?_
    refine ov (xmove rfl) rfl rfl rfl ?_
    refine ov (xlss rfl rfl _ rfl) rfl rfl rfl ?_
    refine ods (fun c23 => ?_) (fun c23 => ?_)
    ·
      refine ov (xmove rfl) rfl rfl rfl ?_
      refine og rfl rfl rfl ?_
      refine og rfl rfl rfl ?_
      refine ov (xpick_t rfl rfl) rfl rfl rfl ?_
      refine ov (xpick_t rfl rfl) rfl rfl rfl ?_
      refine ops_nil ?_
      refine run_cond_t rfl ?_
      refine run_region ?_
      refine ov (xassign rfl) rfl rfl rfl ?_
      refine ops_nil ?_
      refine run_seq ?_
      refine run_seq ?_
      refine run_region ?_
      refine ov (xmove rfl) rfl rfl rfl ?_
      refine ov (xneq rfl rfl _ rfl) rfl rfl rfl ?_
      refine ods (fun c30 => ?_) (fun c30 => ?_)
      ·
        refine ops_nil ?_
        refine run_cond_t rfl ?_
        refine run_seq ?_
        refine run_region ?_
        refine ov (xmove rfl) rfl rfl rfl ?_
        refine ov (xassign rfl) rfl rfl rfl ?_
        refine ov (xassign rfl) rfl rfl rfl ?_
        refine ops_nil ?_
        refine run_ret Try.func24 (res2 rfl rfl rfl) ?_
        have he : isAbove xs a b = (false, 4) := by rcases hsc with ⟨h1, h2⟩ | ⟨h1, h2⟩ <;> unfold isAbove <;> (repeat' split) <;> first | rfl | (exfalso; omega) | (exfalso; simp_all; done) | (rw [getR_eq (i := roleOf xs a) (by omega), getR_eq (i := roleOf xs b) (by omega)]) | (rw [h2])
        exact ⟨_, rfl, by rw [he], E⟩
      · exfalso; omega
    ·
      refine ov (xmove rfl) rfl rfl rfl ?_
      refine ov (xmove rfl) rfl rfl rfl ?_
      refine ov (xlss rfl rfl _ rfl) rfl rfl rfl ?_
      refine ods (fun c26 => ?_) (fun c26 => ?_)
      ·
        refine ov (xpick_f rfl rfl) rfl rfl rfl ?_
        refine ov (xpick_t rfl rfl) rfl rfl rfl ?_
        refine ops_nil ?_
        refine run_cond_t rfl ?_
        refine run_region ?_
        refine ov (xassign rfl) rfl rfl rfl ?_
        refine ops_nil ?_
        refine run_seq ?_
        refine run_seq ?_
        refine run_region ?_
        refine ov (xmove rfl) rfl rfl rfl ?_
        refine ov (xneq rfl rfl _ rfl) rfl rfl rfl ?_
        refine ods (fun c30 => ?_) (fun c30 => ?_)
        ·
          refine ops_nil ?_
          refine run_cond_t rfl ?_
          refine run_seq ?_
          refine run_region ?_
          refine ov (xmove rfl) rfl rfl rfl ?_
          refine ov (xassign rfl) rfl rfl rfl ?_
          refine ov (xassign rfl) rfl rfl rfl ?_
          refine ops_nil ?_
          refine run_ret Try.func24 (res2 rfl rfl rfl) ?_
          have he : isAbove xs a b = (false, 4) := by rcases hsc with ⟨h1, h2⟩ | ⟨h1, h2⟩ <;> unfold isAbove <;> (repeat' split) <;> first | rfl | (exfalso; omega) | (exfalso; simp_all; done) | (rw [getR_eq (i := roleOf xs a) (by omega), getR_eq (i := roleOf xs b) (by omega)]) | (rw [h2])
          exact ⟨_, rfl, by rw [he], E⟩
        · exfalso; omega
      ·
        refine ov (xpick_f rfl rfl) rfl rfl rfl ?_
        refine ov (xpick_t rfl rfl) rfl rfl rfl ?_
        refine ops_nil ?_
        refine run_cond_f rfl ?_
        refine run_skip ?_
        refine run_seq ?_
        refine run_seq ?_
        refine run_region ?_
        refine ov (xmove rfl) rfl rfl rfl ?_
        refine ov (xneq rfl rfl _ rfl) rfl rfl rfl ?_
        refine ods (fun c30 => ?_) (fun c30 => ?_)
        ·
          refine ops_nil ?_
          refine run_cond_t rfl ?_
          refine run_seq ?_
          refine run_region ?_
          refine ov (xmove rfl) rfl rfl rfl ?_
          refine ov (xassign rfl) rfl rfl rfl ?_
          refine ov (xassign rfl) rfl rfl rfl ?_
          refine ops_nil ?_
          refine run_ret Try.func24 (res2 rfl rfl rfl) ?_
          have he : isAbove xs a b = (false, (sealCode xs [] 0)) := by rcases hsc with ⟨h1, h2⟩ | ⟨h1, h2⟩ <;> unfold isAbove <;> (repeat' split) <;> first | rfl | (exfalso; omega) | (exfalso; simp_all; done) | (rw [getR_eq (i := roleOf xs a) (by omega), getR_eq (i := roleOf xs b) (by omega)]) | (rw [h2])
          exact ⟨_, rfl, by rw [he], E⟩
        ·
          refine ops_nil ?_
          refine run_cond_f rfl ?_
          refine run_skip ?_
          refine run_seq ?_
          refine run_draw (by kernel_rfl) (by kernel_rfl) ?_
          refine qv (fun w' x_ => xmove rfl) rfl rfl rfl ?_
          refine qv (fun w' x_ => xmove rfl) rfl rfl rfl ?_
          have h34 := (H.ext E).at (i := (roleOf xs a).toNat) (by omega)
          refine qv (fun w' x_ => xindexN (i := (roleOf xs a).toNat) Try.underlying25 Try.sizeOf71 rfl rfl (by omega) ((H.ext E).p (i := (roleOf xs a).toNat) (by omega)) (by have := (H.ext E).len; omega)) rfl rfl rfl ?_
          refine qv (fun w' x_ => xfieldAddr fo71f1 rfl) rfl rfl rfl ?_
          refine qv (v := .int .i64 xs[(roleOf xs a).toNat].Level) (fun w' x_ => xload1 Try.isAgg2 rfl ((h34).ext x_) rfl) rfl rfl rfl ?_
          refine qv (fun w' x_ => xmove rfl) rfl rfl rfl ?_
          refine qv (fun w' x_ => xmove rfl) rfl rfl rfl ?_
          have h39 := (H.ext E).at (i := (roleOf xs a).toNat) (by omega)
          refine qv (fun w' x_ => xindexN (i := (roleOf xs a).toNat) Try.underlying25 Try.sizeOf71 rfl rfl (by omega) ((H.ext E).p (i := (roleOf xs a).toNat) (by omega)) (by have := (H.ext E).len; omega)) rfl rfl rfl ?_
          refine qv (fun w' x_ => xfieldAddr fo71f2 rfl) rfl rfl rfl ?_
          refine qv (v := .slice (hd (roleOf xs a).toNat).p (hd (roleOf xs a).toNat).n (hd (roleOf xs a).toNat).c) (fun w' x_ => xload1 Try.isAgg49 rfl ((h39).ext x_) rfl) rfl rfl rfl ?_
          refine qv (fun w' x_ => xmove rfl) rfl rfl rfl ?_
          refine qv (fun w' x_ => xmove rfl) rfl rfl rfl ?_
          have h44 := (H.ext E).at (i := (roleOf xs b).toNat) (by omega)
          refine qv (fun w' x_ => xindexN (i := (roleOf xs b).toNat) Try.underlying25 Try.sizeOf71 rfl rfl (by omega) ((H.ext E).p (i := (roleOf xs b).toNat) (by omega)) (by have := (H.ext E).len; omega)) rfl rfl rfl ?_
          refine qv (fun w' x_ => xfieldAddr fo71f1 rfl) rfl rfl rfl ?_
          refine qv (v := .int .i64 xs[(roleOf xs b).toNat].Level) (fun w' x_ => xload1 Try.isAgg2 rfl ((h44).ext x_) rfl) rfl rfl rfl ?_
          refine qv (fun w' x_ => xmove rfl) rfl rfl rfl ?_
          refine qv (fun w' x_ => xmove rfl) rfl rfl rfl ?_
          have h49 := (H.ext E).at (i := (roleOf xs b).toNat) (by omega)
          refine qv (fun w' x_ => xindexN (i := (roleOf xs b).toNat) Try.underlying25 Try.sizeOf71 rfl rfl (by omega) ((H.ext E).p (i := (roleOf xs b).toNat) (by omega)) (by have := (H.ext E).len; omega)) rfl rfl rfl ?_
          refine qv (fun w' x_ => xfieldAddr fo71f2 rfl) rfl rfl rfl ?_
          refine qv (v := .slice (hd (roleOf xs b).toNat).p (hd (roleOf xs b).toNat).n (hd (roleOf xs b).toNat).c) (fun w' x_ => xload1 Try.isAgg49 rfl ((h49).ext x_) rfl) rfl rfl rfl ?_
          have t52 := fun (w' : World) (x_ : Ext w3 w') => Ret.q (w := w') (l24Above_ok (xs[(roleOf xs a).toNat].Level) _ _ _ _ (xs[(roleOf xs b).toNat].Level) _ _ _ _ _ (((show Sl strc 1 _ _ _ _ xs[(roleOf xs a).toNat].Groups from (H.inner (i := (roleOf xs a).toNat) (by omega)).ext E)).ext x_) (((show Sl strc 1 _ _ _ _ xs[(roleOf xs b).toNat].Groups from (H.inner (i := (roleOf xs b).toNat) (by omega)).ext E)).ext x_))
          refine qc (fun w' => xcall Try.call73 rfl) rfl rfl rfl t52 ?_
          clear t52
          refine qv (fun w' x_ => xassign rfl) rfl rfl rfl ?_
          refine qv (fun w' x_ => xassign rfl) rfl rfl rfl ?_
          refine q_nil ?_
          intro w4 e4
          have z4 := e4.size
          have E := E.trans e4
          refine run_ret Try.func24 (res2 rfl rfl rfl) ?_
          have he : isAbove xs a b = ((reaches xs[(roleOf xs a).toNat].Level xs[(roleOf xs a).toNat].Groups xs[(roleOf xs b).toNat].Level xs[(roleOf xs b).toNat].Groups), 0) := by rcases hsc with ⟨h1, h2⟩ | ⟨h1, h2⟩ <;> unfold isAbove <;> (repeat' split) <;> first | rfl | (exfalso; omega) | (exfalso; simp_all; done) | (rw [getR_eq (i := roleOf xs a) (by omega), getR_eq (i := roleOf xs b) (by omega)]) | (rw [h2])
          exact ⟨_, rfl, by rw [he], E⟩
  ·
    refine ov (xmove rfl) rfl rfl rfl ?_
    refine og rfl rfl rfl ?_
    refine og rfl rfl rfl ?_
    refine og rfl rfl rfl ?_
    refine og rfl rfl rfl ?_
    refine og rfl rfl rfl ?_
    refine og rfl rfl rfl ?_
    refine ov (xpick_f rfl rfl) rfl rfl rfl ?_
    refine ops_nil ?_
    refine run_cond_f rfl ?_
    refine run_skip ?_
    refine run_seq ?_
    refine run_seq ?_
    refine run_region ?_
    refine ov (xmove rfl) rfl rfl rfl ?_
    refine ov (xneq rfl rfl _ rfl) rfl rfl rfl ?_
    refine ods (fun c30 => ?_) (fun c30 => ?_)
    ·
      refine ops_nil ?_
      refine run_cond_t rfl ?_
      refine run_seq ?_
      refine run_region ?_
      refine ov (xmove rfl) rfl rfl rfl ?_
      refine ov (xassign rfl) rfl rfl rfl ?_
      refine ov (xassign rfl) rfl rfl rfl ?_
      refine ops_nil ?_
      refine run_ret Try.func24 (res2 rfl rfl rfl) ?_
      have he : isAbove xs a b = (false, (sealCode xs [] 0)) := by rcases hsc with ⟨h1, h2⟩ | ⟨h1, h2⟩ <;> unfold isAbove <;> (repeat' split) <;> first | rfl | (exfalso; omega) | (exfalso; simp_all; done) | (rw [getR_eq (i := roleOf xs a) (by omega), getR_eq (i := roleOf xs b) (by omega)]) | (rw [h2])
      exact ⟨_, rfl, by rw [he], E⟩
    ·
      refine ops_nil ?_
      refine run_cond_f rfl ?_
      refine run_skip ?_
      refine run_seq ?_
      refine run_draw (by kernel_rfl) (by kernel_rfl) ?_
      refine qv (fun w' x_ => xmove rfl) rfl rfl rfl ?_
      refine qv (fun w' x_ => xmove rfl) rfl rfl rfl ?_
      have h34 := (H.ext E).at (i := (roleOf xs a).toNat) (by omega)
      refine qv (fun w' x_ => xindexN (i := (roleOf xs a).toNat) Try.underlying25 Try.sizeOf71 rfl rfl (by omega) ((H.ext E).p (i := (roleOf xs a).toNat) (by omega)) (by have := (H.ext E).len; omega)) rfl rfl rfl ?_
      refine qv (fun w' x_ => xfieldAddr fo71f1 rfl) rfl rfl rfl ?_
      refine qv (v := .int .i64 xs[(roleOf xs a).toNat].Level) (fun w' x_ => xload1 Try.isAgg2 rfl ((h34).ext x_) rfl) rfl rfl rfl ?_
      refine qv (fun w' x_ => xmove rfl) rfl rfl rfl ?_
      refine qv (fun w' x_ => xmove rfl) rfl rfl rfl ?_
      have h39 := (H.ext E).at (i := (roleOf xs a).toNat) (by omega)
      refine qv (fun w' x_ => xindexN (i := (roleOf xs a).toNat) Try.underlying25 Try.sizeOf71 rfl rfl (by omega) ((H.ext E).p (i := (roleOf xs a).toNat) (by omega)) (by have := (H.ext E).len; omega)) rfl rfl rfl ?_
      refine qv (fun w' x_ => xfieldAddr fo71f2 rfl) rfl rfl rfl ?_
      refine qv (v := .slice (hd (roleOf xs a).toNat).p (hd (roleOf xs a).toNat).n (hd (roleOf xs a).toNat).c) (fun w' x_ => xload1 Try.isAgg49 rfl ((h39).ext x_) rfl) rfl rfl rfl ?_
      refine qv (fun w' x_ => xmove rfl) rfl rfl rfl ?_
      refine qv (fun w' x_ => xmove rfl) rfl rfl rfl ?_
      have h44 := (H.ext E).at (i := (roleOf xs b).toNat) (by omega)
      refine qv (fun w' x_ => xindexN (i := (roleOf xs b).toNat) Try.underlying25 Try.sizeOf71 rfl rfl (by omega) ((H.ext E).p (i := (roleOf xs b).toNat) (by omega)) (by have := (H.ext E).len; omega)) rfl rfl rfl ?_
      refine qv (fun w' x_ => xfieldAddr fo71f1 rfl) rfl rfl rfl ?_
      refine qv (v := .int .i64 xs[(roleOf xs b).toNat].Level) (fun w' x_ => xload1 Try.isAgg2 rfl ((h44).ext x_) rfl) rfl rfl rfl ?_
      refine qv (fun w' x_ => xmove rfl) rfl rfl rfl ?_
      refine qv (fun w' x_ => xmove rfl) rfl rfl rfl ?_
      have h49 := (H.ext E).at (i := (roleOf xs b).toNat) (by omega)
      refine qv (fun w' x_ => xindexN (i := (roleOf xs b).toNat) Try.underlying25 Try.sizeOf71 rfl rfl (by omega) ((H.ext E).p (i := (roleOf xs b).toNat) (by omega)) (by have := (H.ext E).len; omega)) rfl rfl rfl ?_
      refine qv (fun w' x_ => xfieldAddr fo71f2 rfl) rfl rfl rfl ?_
      refine qv (v := .slice (hd (roleOf xs b).toNat).p (hd (roleOf xs b).toNat).n (hd (roleOf xs b).toNat).c) (fun w' x_ => xload1 Try.isAgg49 rfl ((h49).ext x_) rfl) rfl rfl rfl ?_
      have t52 := fun (w' : World) (x_ : Ext w3 w') => Ret.q (w := w') (l24Above_ok (xs[(roleOf xs a).toNat].Level) _ _ _ _ (xs[(roleOf xs b).toNat].Level) _ _ _ _ _ (((show Sl strc 1 _ _ _ _ xs[(roleOf xs a).toNat].Groups from (H.inner (i := (roleOf xs a).toNat) (by omega)).ext E)).ext x_) (((show Sl strc 1 _ _ _ _ xs[(roleOf xs b).toNat].Groups from (H.inner (i := (roleOf xs b).toNat) (by omega)).ext E)).ext x_))
      refine qc (fun w' => xcall Try.call73 rfl) rfl rfl rfl t52 ?_
      clear t52
      refine qv (fun w' x_ => xassign rfl) rfl rfl rfl ?_
      refine qv (fun w' x_ => xassign rfl) rfl rfl rfl ?_
      refine q_nil ?_
      intro w4 e4
      have z4 := e4.size
      have E := E.trans e4
      refine run_ret Try.func24 (res2 rfl rfl rfl) ?_
      have he : isAbove xs a b = ((reaches xs[(roleOf xs a).toNat].Level xs[(roleOf xs a).toNat].Groups xs[(roleOf xs b).toNat].Level xs[(roleOf xs b).toNat].Groups), 0) := by rcases hsc with ⟨h1, h2⟩ | ⟨h1, h2⟩ <;> unfold isAbove <;> (repeat' split) <;> first | rfl | (exfalso; omega) | (exfalso; simp_all; done) | (rw [getR_eq (i := roleOf xs a) (by omega), getR_eq (i := roleOf xs b) (by omega)]) | (rw [h2])
      exact ⟨_, rfl, by rw [he], E⟩

set_option maxHeartbeats 1000000 in
theorem FirstDay_ok (p : Option Addr) (n c : Nat) (xs : List Role) (q : Option Addr) (m d : Nat) (ys : List File) (role file : ByteArray) (w : World) (H0 : SnRoleS w p n c xs) (K0 : SnFileS w q m d ys) (hx : ∀ x ∈ xs, x.ok) (hy : ∀ x ∈ ys, x.ok) : Ret Try.prog 42 [.slice p n c, .slice q m d, .string role, .string file] w (Pv w (.tuple #[.int .i64 (firstDay xs ys role file).1, .int .i64 (firstDay xs ys role file).2])) := by
  refine ret_of_run (N := 51) Try.func42 rfl rfl rfl ?_
  obtain ⟨hd, H⟩ := H0
  have hn := H.len
  have hn6 := H.n64
  obtain ⟨he_, K⟩ := K0
  have hm := K.len
  have hm6 := K.n64
  have hrl := roleOf_lt xs role
  have hfl := fileOf_lt ys file
  have E : Ext w w := Ext.refl w
  refine run_seq ?_
  refine run_region ?_
  refine ov (xassign rfl) rfl rfl rfl ?_
  refine ov (xassign rfl) rfl rfl rfl ?_
  refine ops_nil ?_
  refine run_seq ?_
  refine run_seq ?_
  refine run_region ?_
  refine ov (xmove rfl) rfl rfl rfl ?_
  refine ov (xmove rfl) rfl rfl rfl ?_
  refine oc (xcall Try.call78 rfl) rfl rfl rfl (sealCode_ok _ _ _ _ _ _ _ _ (0) _ (H.ext E).sn (K.ext E).sn (by assumption) (by assumption)) ?_
  rintro _ w1 ⟨rfl, e1⟩
  have z1 := e1.size
  have E := E.trans e1
  refine ov (xassign rfl) rfl rfl rfl ?_
  refine ops_nil ?_
  refine run_seq ?_
  refine run_region ?_
  refine ov (xmove rfl) rfl rfl rfl ?_
  refine ov (xneq rfl rfl _ rfl) rfl rfl rfl ?_
  refine ods (fun c18 => ?_) (fun c18 => ?_)
  ·
    refine ops_nil ?_
    refine run_cond_t rfl ?_
    refine run_seq ?_
    refine run_region ?_
    refine ov (xmove rfl) rfl rfl rfl ?_
    refine ov (xassign rfl) rfl rfl rfl ?_
    refine ov (xassign rfl) rfl rfl rfl ?_
    refine ops_nil ?_
    refine run_ret Try.func42 (res2 rfl rfl rfl) ?_
    have he : firstDay xs ys role file = (0, (sealCode xs ys 0)) := by unfold firstDay; (repeat' split) <;> first | rfl | (exfalso; omega) | (exfalso; simp_all; done) | (exfalso; rw [hg_] at *; omega) | (rw [hg_])
    exact ⟨_, rfl, by rw [he], E⟩
  ·
    refine ops_nil ?_
    refine run_cond_f rfl ?_
    refine run_skip ?_
    refine run_seq ?_
    refine run_region ?_
    refine ov (xmove rfl) rfl rfl rfl ?_
    refine ov (xmove rfl) rfl rfl rfl ?_
    refine oc (xcall Try.call62 rfl) rfl rfl rfl (roleOf_ok _ _ _ _ (role) _ (H.ext E).sn) ?_
    rintro _ w2 ⟨rfl, e2⟩
    have z2 := e2.size
    have E := E.trans e2
    refine ov (xmove rfl) rfl rfl rfl ?_
    refine ov (xmove rfl) rfl rfl rfl ?_
    refine oc (xcall Try.call70 rfl) rfl rfl rfl (fileOf_ok _ _ _ _ (file) _ (K.ext E).sn) ?_
    rintro _ w3 ⟨rfl, e3⟩
    have z3 := e3.size
    have E := E.trans e3
    refine ov (xassign rfl) rfl rfl rfl ?_
    refine ov (xassign rfl) rfl rfl rfl ?_
    refine ops_nil ?_
    refine run_seq ?_
    refine run_seq ?_
    refine run_region ?_
    refine ov (xmove rfl) rfl rfl rfl ?_
    refine ov (xlss rfl rfl _ rfl) rfl rfl rfl ?_
    refine ods (fun c27 => ?_) (fun c27 => ?_)
    ·
      refine ov (xmove rfl) rfl rfl rfl ?_
      refine og rfl rfl rfl ?_
      refine og rfl rfl rfl ?_
      refine ov (xpick_t rfl rfl) rfl rfl rfl ?_
      refine ops_nil ?_
      refine run_cond_t rfl ?_
      refine run_seq ?_
      refine run_region ?_
      refine ov (xassign rfl) rfl rfl rfl ?_
      refine ov (xassign rfl) rfl rfl rfl ?_
      refine ops_nil ?_
      refine run_ret Try.func42 (res2 rfl rfl rfl) ?_
      have he : firstDay xs ys role file = (0, 4) := by unfold firstDay; (repeat' split) <;> first | rfl | (exfalso; omega) | (exfalso; simp_all; done) | (exfalso; rw [hg_] at *; omega) | (rw [hg_])
      exact ⟨_, rfl, by rw [he], E⟩
    ·
      refine ov (xmove rfl) rfl rfl rfl ?_
      refine ov (xmove rfl) rfl rfl rfl ?_
      refine ov (xlss rfl rfl _ rfl) rfl rfl rfl ?_
      refine ods (fun c30 => ?_) (fun c30 => ?_)
      ·
        refine ov (xpick_f rfl rfl) rfl rfl rfl ?_
        refine ops_nil ?_
        refine run_cond_t rfl ?_
        refine run_seq ?_
        refine run_region ?_
        refine ov (xassign rfl) rfl rfl rfl ?_
        refine ov (xassign rfl) rfl rfl rfl ?_
        refine ops_nil ?_
        refine run_ret Try.func42 (res2 rfl rfl rfl) ?_
        have he : firstDay xs ys role file = (0, 4) := by unfold firstDay; (repeat' split) <;> first | rfl | (exfalso; omega) | (exfalso; simp_all; done) | (exfalso; rw [hg_] at *; omega) | (rw [hg_])
        exact ⟨_, rfl, by rw [he], E⟩
      ·
        refine ov (xpick_f rfl rfl) rfl rfl rfl ?_
        refine ops_nil ?_
        refine run_cond_f rfl ?_
        refine run_skip ?_
        refine run_seq ?_
        refine run_seq ?_
        refine run_draw (by kernel_rfl) (by kernel_rfl) ?_
        refine qv (fun w' x_ => xmove rfl) rfl rfl rfl ?_
        refine qv (fun w' x_ => xmove rfl) rfl rfl rfl ?_
        have h34 := (H.ext E).at (i := (roleOf xs role).toNat) (by omega)
        refine qv (fun w' x_ => xindexN (i := (roleOf xs role).toNat) Try.underlying25 Try.sizeOf71 rfl rfl (by omega) ((H.ext E).p (i := (roleOf xs role).toNat) (by omega)) (by have := (H.ext E).len; omega)) rfl rfl rfl ?_
        refine qv (v := .agg #[.string xs[(roleOf xs role).toNat].Name, .int .i64 xs[(roleOf xs role).toNat].Level, .slice (hd (roleOf xs role).toNat).p (hd (roleOf xs role).toNat).n (hd (roleOf xs role).toNat).c]) (fun w' x_ => xloadN Try.isAgg71 Try.sizeOf71 rfl ((h34).ext x_) rfl) rfl rfl rfl ?_
        refine qv (fun w' x_ => xmove rfl) rfl rfl rfl ?_
        refine qv (fun w' x_ => xmove rfl) rfl rfl rfl ?_
        have h38 := (K.ext E).at (i := (fileOf ys file).toNat) (by omega)
        refine qv (fun w' x_ => xindexN (i := (fileOf ys file).toNat) Try.underlying32 Try.sizeOf54 rfl rfl (by omega) ((K.ext E).p (i := (fileOf ys file).toNat) (by omega)) (by have := (K.ext E).len; omega)) rfl rfl rfl ?_
        refine qv (v := .agg #[.string ys[(fileOf ys file).toNat].Code, .int .i64 ys[(fileOf ys file).toNat].Level, .slice (he_ (fileOf ys file).toNat).p (he_ (fileOf ys file).toNat).n (he_ (fileOf ys file).toNat).c, .int .i64 ys[(fileOf ys file).toNat].Until]) (fun w' x_ => xloadN Try.isAgg54 Try.sizeOf54 rfl ((h38).ext x_) rfl) rfl rfl rfl ?_
        have t40 := fun (w' : World) (x_ : Ext w3 w') => Ret.q (w := w') (maySee_ok _ _ _ _ (0) _ (((show Sl strc 1 _ _ _ _ xs[(roleOf xs role).toNat].Groups from (H.inner (i := (roleOf xs role).toNat) (by omega)).ext E)).ext x_) (((show Sl strc 1 _ _ _ _ ys[(fileOf ys file).toNat].Groups from (K.inner (i := (fileOf ys file).toNat) (by omega)).ext E)).ext x_))
        refine qc (fun w' => xcall Try.call79 rfl) rfl rfl rfl t40 ?_
        clear t40
        refine qbs (fun c40 => ?_) (fun c40 => ?_)
        ·
          have hs_ : seeP (getR xs (roleOf xs role)) (getF ys (fileOf ys file)) 0 = true := by rw [getR_eq (by omega), getF_eq (by omega)]; exact c40
          refine q_nil ?_
          intro w4 e4
          have z4 := e4.size
          have E := E.trans e4
          refine run_cond_t rfl ?_
          refine run_seq ?_
          refine run_region ?_
          refine ov (xassign rfl) rfl rfl rfl ?_
          refine ov (xassign rfl) rfl rfl rfl ?_
          refine ops_nil ?_
          refine run_ret Try.func42 (res2 rfl rfl rfl) ?_
          have he : firstDay xs ys role file = (0, 0) := by unfold firstDay; (repeat' split) <;> first | rfl | (exfalso; omega) | (exfalso; simp_all; done) | (exfalso; rw [hg_] at *; omega) | (rw [hg_])
          exact ⟨_, rfl, by rw [he], E⟩
        ·
          have hs_ : seeP (getR xs (roleOf xs role)) (getF ys (fileOf ys file)) 0 = false := by rw [getR_eq (by omega), getF_eq (by omega)]; exact c40
          have hu_ := file_until (sealCode_zero (by omega : sealCode xs ys 0 = 0)).2.1 (by omega : (fileOf ys file).toNat < ys.length)
          have hg_ := getF_eq (fs := ys) (i := fileOf ys file) (by omega)
          refine q_nil ?_
          intro w4 e4
          have z4 := e4.size
          have E := E.trans e4
          refine run_cond_f rfl ?_
          refine run_skip ?_
          refine run_seq ?_
          refine run_region ?_
          refine ov (xmove rfl) rfl rfl rfl ?_
          refine ov (xmove rfl) rfl rfl rfl ?_
          have h43 := (K.ext E).at (i := (fileOf ys file).toNat) (by omega)
          refine ov (xindexN (i := (fileOf ys file).toNat) Try.underlying32 Try.sizeOf54 rfl rfl (by omega) ((K.ext E).p (i := (fileOf ys file).toNat) (by omega)) (by have := (K.ext E).len; omega)) rfl rfl rfl ?_
          refine ov (xfieldAddr fo54f3 rfl) rfl rfl rfl ?_
          refine ov (v := .int .i64 ys[(fileOf ys file).toNat].Until) (xload1 Try.isAgg2 rfl (h43) rfl) rfl rfl rfl ?_
          refine ov (xadd rfl rfl (by unfold I64; omega)) rfl rfl rfl ?_
          refine ov (xassign rfl) rfl rfl rfl ?_
          refine ops_nil ?_
          refine run_seq ?_
          refine run_seq ?_
          refine run_region ?_
          refine ov (xmove rfl) rfl rfl rfl ?_
          refine oc (xcall Try.call69 rfl) rfl rfl rfl (isDay_ok ((ys[(fileOf ys file).toNat].Until + 1)) _) ?_
          rintro _ w_ ⟨rfl, hw_⟩
          replace hw_ := hw_.symm
          subst hw_
          refine obs (fun c48 => ?_) (fun c48 => ?_)
          ·
            have hi_ := inR_iff.1 c48
            refine ov (xnot rfl) rfl rfl rfl ?_
            refine ops_nil ?_
            refine run_cond_f rfl ?_
            refine run_skip ?_
            refine run_seq ?_
            refine run_region ?_
            refine ov (xmove rfl) rfl rfl rfl ?_
            refine ov (xassign rfl) rfl rfl rfl ?_
            refine ov (xassign rfl) rfl rfl rfl ?_
            refine ops_nil ?_
            refine run_ret Try.func42 (res2 rfl rfl rfl) ?_
            have he : firstDay xs ys role file = ((ys[(fileOf ys file).toNat].Until + 1), 0) := by unfold firstDay; (repeat' split) <;> first | rfl | (exfalso; omega) | (exfalso; simp_all; done) | (exfalso; rw [hg_] at *; omega) | (rw [hg_])
            exact ⟨_, rfl, by rw [he], E⟩
          ·
            have hi_ : ¬ (0 ≤ ys[(fileOf ys file).toNat].Until + 1 ∧ ys[(fileOf ys file).toNat].Until + 1 ≤ 20000) := fun h => by rw [inR_iff.2 h] at c48; cases c48
            refine ov (xnot rfl) rfl rfl rfl ?_
            refine ops_nil ?_
            refine run_cond_t rfl ?_
            refine run_seq ?_
            refine run_region ?_
            refine ov (xassign rfl) rfl rfl rfl ?_
            refine ov (xassign rfl) rfl rfl rfl ?_
            refine ops_nil ?_
            refine run_ret Try.func42 (res2 rfl rfl rfl) ?_
            have he : firstDay xs ys role file = (0, 5) := by unfold firstDay; (repeat' split) <;> first | rfl | (exfalso; omega) | (exfalso; simp_all; done) | (exfalso; rw [hg_] at *; omega) | (rw [hg_])
            exact ⟨_, rfl, by rw [he], E⟩

theorem maySee_zero {rs : List Role} {fs : List File} {role file : ByteArray} {day : Int} (h : (maySee rs fs role file day).2 = 0) : sealCode rs fs day = 0 ∧ 0 ≤ roleOf rs role ∧ 0 ≤ fileOf fs file ∧ (maySee rs fs role file day).1 = seeP (getR rs (roleOf rs role)) (getF fs (fileOf fs file)) day := by
  unfold maySee at h ⊢
  by_cases h1 : sealCode rs fs day ≠ 0
  · rw [if_pos h1] at h; exact absurd h h1
  · rw [if_neg h1] at h ⊢
    by_cases h2 : roleOf rs role < 0 ∨ fileOf fs file < 0
    · rw [if_pos h2] at h; cases h
    · rw [if_neg h2]; exact ⟨by omega, by omega, by omega, rfl⟩
theorem firstDay_bad {rs : List Role} {fs : List File} {role file : ByteArray} (h : (maySee rs fs role file 0).2 ≠ 0) : (Value.tuple #[.int .i64 0, .int .i64 (maySee rs fs role file 0).2]) = .tuple #[.int .i64 (firstDay rs fs role file).1, .int .i64 (firstDay rs fs role file).2] := by
  unfold maySee firstDay at *
  by_cases h1 : sealCode rs fs 0 ≠ 0
  · rw [if_pos h1, if_pos h1]
  · rw [if_neg h1] at h ⊢
    rw [if_neg h1]
    by_cases h2 : roleOf rs role < 0 ∨ fileOf fs file < 0
    · rw [if_pos h2, if_pos h2]
    · rw [if_neg h2] at h; exact absurd rfl h

set_option maxHeartbeats 1000000 in
theorem sFirstDay_ok (p : Option Addr) (n c : Nat) (xs : List Role) (q : Option Addr) (m d : Nat) (ys : List File) (role file : ByteArray) (w : World) (H0 : SnRoleS w p n c xs) (K0 : SnFileS w q m d ys) (hx : ∀ x ∈ xs, x.ok) (hy : ∀ x ∈ ys, x.ok) : Ret Try.prog 41 [.slice p n c, .slice q m d, .string role, .string file] w (Pv w (.tuple #[.int .i64 (firstDay xs ys role file).1, .int .i64 (firstDay xs ys role file).2])) := by
  refine ret_of_run (N := 36) Try.func41 rfl rfl rfl ?_
  obtain ⟨hd, H⟩ := H0
  have hn := H.len
  have hn6 := H.n64
  obtain ⟨he_, K⟩ := K0
  have hm := K.len
  have hm6 := K.n64
  have hrl := roleOf_lt xs role
  have hfl := fileOf_lt ys file
  have E : Ext w w := Ext.refl w
  refine run_seq ?_
  refine run_region ?_
  refine ov (xassign rfl) rfl rfl rfl ?_
  refine ov (xassign rfl) rfl rfl rfl ?_
  refine ops_nil ?_
  refine run_seq ?_
  refine run_region ?_
  refine ov (xmove rfl) rfl rfl rfl ?_
  refine ov (xmove rfl) rfl rfl rfl ?_
  refine ov (xmove rfl) rfl rfl rfl ?_
  refine ov (xmove rfl) rfl rfl rfl ?_
  refine oc (xcall Try.call30 rfl) rfl rfl rfl (sMaySee_ok _ _ _ _ _ _ _ _ (role) (file) (0) _ (H.ext E).sn (K.ext E).sn (by assumption) (by assumption)) ?_
  rintro _ w1 ⟨rfl, e1⟩
  have z1 := e1.size
  have E := E.trans e1
  refine ov (xmove rfl) rfl rfl rfl ?_
  refine ov (xextract rfl rfl) rfl rfl rfl ?_
  refine obs (fun c19 => ?_) (fun c19 => ?_)
  ·
    refine ov (xextract rfl rfl) rfl rfl rfl ?_
    refine ov (xassign rfl) rfl rfl rfl ?_
    refine ov (xassign rfl) rfl rfl rfl ?_
    refine ops_nil ?_
    refine run_seq ?_
    refine run_seq ?_
    refine run_region ?_
    refine ov (xmove rfl) rfl rfl rfl ?_
    refine ov (xneq rfl rfl _ rfl) rfl rfl rfl ?_
    refine ods (fun c22 => ?_) (fun c22 => ?_)
    ·
      refine ops_nil ?_
      refine run_cond_t rfl ?_
      refine run_seq ?_
      refine run_region ?_
      refine ov (xmove rfl) rfl rfl rfl ?_
      refine ov (xassign rfl) rfl rfl rfl ?_
      refine ov (xassign rfl) rfl rfl rfl ?_
      refine ops_nil ?_
      refine run_ret Try.func41 (res2 rfl rfl rfl) ?_
      exact ⟨_, rfl, firstDay_bad (by omega), E⟩
    ·
      obtain ⟨hz1, hz2, hz3, hz4⟩ := maySee_zero (by omega : (maySee xs ys role file 0).2 = 0)
      have hu_ := file_until (sealCode_zero hz1).2.1 (by omega : (fileOf ys file).toNat < ys.length)
      have hg_ := getF_eq (fs := ys) (i := fileOf ys file) (by omega)
      refine ops_nil ?_
      refine run_cond_f rfl ?_
      refine run_skip ?_
      refine run_seq ?_
      refine run_region ?_
      refine ov (xmove rfl) rfl rfl rfl ?_
      refine ov (xmove rfl) rfl rfl rfl ?_
      refine ov (xmove rfl) rfl rfl rfl ?_
      refine oc (xcall Try.call67 rfl) rfl rfl rfl (l24File_ok _ _ _ _ (file) _ (K.ext E).sn) ?_
      rintro _ w2 ⟨rfl, e2⟩
      have z2 := e2.size
      have E := E.trans e2
      have h28 := (K.ext E).at (i := (fileOf ys file).toNat) (by omega)
      refine ov (xindexN (i := (fileOf ys file).toNat) Try.underlying32 Try.sizeOf54 rfl rfl (by omega) ((K.ext E).p (i := (fileOf ys file).toNat) (by omega)) (by have := (K.ext E).len; omega)) rfl rfl rfl ?_
      refine ov (xfieldAddr fo54f3 rfl) rfl rfl rfl ?_
      refine ov (v := .int .i64 ys[(fileOf ys file).toNat].Until) (xload1 Try.isAgg2 rfl (h28) rfl) rfl rfl rfl ?_
      refine ov (xassign rfl) rfl rfl rfl ?_
      refine ops_nil ?_
      refine run_seq ?_
      refine run_seq ?_
      refine run_region ?_
      refine ov (xmove rfl) rfl rfl rfl ?_
      refine ops_nil ?_
      refine run_cond_t rfl ?_
      refine run_seq ?_
      refine run_region ?_
      refine ov (xassign rfl) rfl rfl rfl ?_
      refine ov (xassign rfl) rfl rfl rfl ?_
      refine ops_nil ?_
      refine run_ret Try.func41 (res2 rfl rfl rfl) ?_
      have hs_ : seeP (getR xs (roleOf xs role)) (getF ys (fileOf ys file)) 0 = true := by rw [← hz4]; exact c19
      have he : firstDay xs ys role file = (0, 0) := by unfold firstDay; (repeat' split) <;> first | rfl | (exfalso; omega) | (exfalso; simp_all; done) | (exfalso; simp only [hg_] at *; omega) | (rw [hg_])
      exact ⟨_, rfl, by rw [he], E⟩
  ·
    refine ov (xextract rfl rfl) rfl rfl rfl ?_
    refine ov (xassign rfl) rfl rfl rfl ?_
    refine ov (xassign rfl) rfl rfl rfl ?_
    refine ops_nil ?_
    refine run_seq ?_
    refine run_seq ?_
    refine run_region ?_
    refine ov (xmove rfl) rfl rfl rfl ?_
    refine ov (xneq rfl rfl _ rfl) rfl rfl rfl ?_
    refine ods (fun c22 => ?_) (fun c22 => ?_)
    ·
      refine ops_nil ?_
      refine run_cond_t rfl ?_
      refine run_seq ?_
      refine run_region ?_
      refine ov (xmove rfl) rfl rfl rfl ?_
      refine ov (xassign rfl) rfl rfl rfl ?_
      refine ov (xassign rfl) rfl rfl rfl ?_
      refine ops_nil ?_
      refine run_ret Try.func41 (res2 rfl rfl rfl) ?_
      exact ⟨_, rfl, firstDay_bad (by omega), E⟩
    ·
      obtain ⟨hz1, hz2, hz3, hz4⟩ := maySee_zero (by omega : (maySee xs ys role file 0).2 = 0)
      have hu_ := file_until (sealCode_zero hz1).2.1 (by omega : (fileOf ys file).toNat < ys.length)
      have hg_ := getF_eq (fs := ys) (i := fileOf ys file) (by omega)
      refine ops_nil ?_
      refine run_cond_f rfl ?_
      refine run_skip ?_
      refine run_seq ?_
      refine run_region ?_
      refine ov (xmove rfl) rfl rfl rfl ?_
      refine ov (xmove rfl) rfl rfl rfl ?_
      refine ov (xmove rfl) rfl rfl rfl ?_
      refine oc (xcall Try.call67 rfl) rfl rfl rfl (l24File_ok _ _ _ _ (file) _ (K.ext E).sn) ?_
      rintro _ w2 ⟨rfl, e2⟩
      have z2 := e2.size
      have E := E.trans e2
      have h28 := (K.ext E).at (i := (fileOf ys file).toNat) (by omega)
      refine ov (xindexN (i := (fileOf ys file).toNat) Try.underlying32 Try.sizeOf54 rfl rfl (by omega) ((K.ext E).p (i := (fileOf ys file).toNat) (by omega)) (by have := (K.ext E).len; omega)) rfl rfl rfl ?_
      refine ov (xfieldAddr fo54f3 rfl) rfl rfl rfl ?_
      refine ov (v := .int .i64 ys[(fileOf ys file).toNat].Until) (xload1 Try.isAgg2 rfl (h28) rfl) rfl rfl rfl ?_
      refine ov (xassign rfl) rfl rfl rfl ?_
      refine ops_nil ?_
      refine run_seq ?_
      refine run_seq ?_
      refine run_region ?_
      refine ov (xmove rfl) rfl rfl rfl ?_
      refine ops_nil ?_
      refine run_cond_f rfl ?_
      refine run_skip ?_
      refine run_seq ?_
      refine run_seq ?_
      refine run_region ?_
      refine ov (xmove rfl) rfl rfl rfl ?_
      refine ov (xeql rfl rfl _ rfl) rfl rfl rfl ?_
      refine ods (fun c33 => ?_) (fun c33 => ?_)
      ·
        refine ops_nil ?_
        refine run_cond_t rfl ?_
        refine run_seq ?_
        refine run_region ?_
        refine ov (xassign rfl) rfl rfl rfl ?_
        refine ov (xassign rfl) rfl rfl rfl ?_
        refine ops_nil ?_
        refine run_ret Try.func41 (res2 rfl rfl rfl) ?_
        have hs_ : seeP (getR xs (roleOf xs role)) (getF ys (fileOf ys file)) 0 = false := by rw [← hz4]; exact c19
        have he : firstDay xs ys role file = (0, 5) := by unfold firstDay; (repeat' split) <;> first | rfl | (exfalso; omega) | (exfalso; simp_all; done) | (exfalso; simp only [hg_] at *; omega) | (rw [hg_])
        exact ⟨_, rfl, by rw [he], E⟩
      ·
        refine ops_nil ?_
        refine run_cond_f rfl ?_
        refine run_skip ?_
        refine run_seq ?_
        refine run_region ?_
        refine ov (xmove rfl) rfl rfl rfl ?_
        refine ov (xadd rfl rfl (by unfold I64; omega)) rfl rfl rfl ?_
        refine ov (xassign rfl) rfl rfl rfl ?_
        refine ov (xassign rfl) rfl rfl rfl ?_
        refine ops_nil ?_
        refine run_ret Try.func41 (res2 rfl rfl rfl) ?_
        have hs_ : seeP (getR xs (roleOf xs role)) (getF ys (fileOf ys file)) 0 = false := by rw [← hz4]; exact c19
        have he : firstDay xs ys role file = ((ys[(fileOf ys file).toNat].Until + 1), 0) := by unfold firstDay; (repeat' split) <;> first | rfl | (exfalso; omega) | (exfalso; simp_all; done) | (exfalso; simp only [hg_] at *; omega) | (rw [hg_])
        exact ⟨_, rfl, by rw [he], E⟩
end Go.Proofs.Ytbihpggbabmebaa
