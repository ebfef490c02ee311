/-
  Are these rulings? No condition beyond those written in each theorem.
-/
import Derived.Test.YtnjohcbamblilaaTRuling
namespace Go.Proofs.Ytnjohcbamblilaa
open Go.RowKit
set_option linter.unusedVariables false
set_option linter.unusedSimpArgs false
set_option linter.unusedSectionVars false
set_option maxRecDepth 4000


def isRuling (r : Ruling) : Bool := inR 0 20000 r.Day && isWord r.Code && inR 0 3 r.Kind
def rulP (xs : List Ruling) (i : Nat) (x : Ruling) : Bool := isRuling x && (match xs[i - 1]? with
  | some y => decide (i = 0 ∨ y.Day ≤ x.Day)
  | none => true)
def areRulings (xs : List Ruling) : Bool := allB xs.length (allI (rulP xs) xs) && decide (xs.length ≤ 20)
theorem rulP_t {xs : List Ruling} {k : Nat} (hk : k < xs.length) (h : isRuling xs[k] = true) (h2 : k = 0 ∨ xs[k - 1].Day ≤ xs[k].Day) : allI (rulP xs) xs k = true := by
  rw [allI_of hk, rulP, h, List.getElem?_eq_getElem (by omega)]; simpa using h2
theorem areR_f1 {xs : List Ruling} {k : Nat} (hk : k < xs.length) (h : isRuling xs[k] = false) : areRulings xs = false := by
  rw [areRulings, allB_false hk (by rw [allI_of hk, rulP, h]; rfl)]; rfl
theorem areR_f2 {xs : List Ruling} {k : Nat} (hk : k < xs.length) (h0 : 0 < k) (h : xs[k].Day < xs[k - 1].Day) : areRulings xs = false := by
  rw [areRulings, allB_false hk (by rw [allI_of hk, rulP, List.getElem?_eq_getElem (by omega)]; simp; intro _; omega)]; rfl


set_option maxHeartbeats 400000 in
theorem isRuling_ok (r : Ruling) (w : World) (hc : r.Code.size ≤ 9223372036854775807) : Ret Try.prog 89 [.agg #[.int .i64 r.Day, .string r.Code, .int .i64 r.Kind]] w (Pv w (.bool (isRuling r))) := by
  refine ret_of_run (N := 16) Try.func89 rfl rfl rfl ?_
  have E : Ext w w := Ext.refl w
  refine run_seq ?_
  refine run_region ?_
  refine obox rfl rfl rfl ?_
  intro b1 w1 e1 hb1 hz1 O1
  have E := E.trans e1
  replace O1 : Own w1 b1 [.int .i64 r.Day, .string r.Code, .int .i64 r.Kind] 37 := O1
  refine ov (xassign rfl) rfl rfl rfl ?_
  refine ops_nil ?_
  refine run_seq ?_
  refine run_region ?_
  refine ov (xfieldAddr fo37f0 rfl) rfl rfl rfl ?_
  refine ov (v := .int .i64 r.Day) (xload1 Try.isAgg2 rfl (O1.cells) rfl) rfl rfl rfl ?_
  refine oc (xcall Try.call96 rfl) rfl rfl rfl (isDay_ok (r.Day) _) ?_
  rintro _ w_ ⟨rfl, hw_⟩
  replace hw_ := hw_.symm
  subst hw_
  refine obs (fun c5 => ?_) (fun c5 => ?_)
  ·
    refine ov (xmove rfl) rfl rfl rfl ?_
    refine ov (xfieldAddr fo37f1 rfl) rfl rfl rfl ?_
    refine ov (v := .string r.Code) (xload1 Try.isAgg9 rfl (O1.cells) rfl) rfl rfl rfl ?_
    refine oc (xcall Try.call95 rfl) rfl rfl rfl (IsWord_ok (r.Code) _ (by first | assumption | omega)) ?_
    rintro _ w_ ⟨rfl, hw_⟩
    replace hw_ := hw_.symm
    subst hw_
    refine obs (fun c9 => ?_) (fun c9 => ?_)
    ·
      refine ov (xpick_t rfl rfl) rfl rfl rfl ?_
      refine ov (xmove rfl) rfl rfl rfl ?_
      refine ov (xfieldAddr fo37f2 rfl) rfl rfl rfl ?_
      refine ov (v := .int .i64 r.Kind) (xload1 Try.isAgg2 rfl (O1.cells) rfl) rfl rfl rfl ?_
      refine oc (xcall Try.call136 rfl) rfl rfl rfl (within_ok (r.Kind) (0) (3) _) ?_
      rintro _ w_ ⟨rfl, hw_⟩
      replace hw_ := hw_.symm
      subst hw_
      refine ov (xpick_t rfl rfl) rfl rfl rfl ?_
      refine ov (xassign rfl) rfl rfl rfl ?_
      refine ops_nil ?_
      refine run_ret Try.func89 (res1 rfl rfl) ?_
      exact ⟨_, rfl, by simp [isRuling, *], E⟩
    ·
      refine ov (xpick_t rfl rfl) rfl rfl rfl ?_
      refine ov (xmove rfl) rfl rfl rfl ?_
      refine og rfl rfl rfl ?_
      refine og rfl rfl rfl ?_
      refine og rfl rfl rfl ?_
      refine ov (xpick_f rfl rfl) rfl rfl rfl ?_
      refine ov (xassign rfl) rfl rfl rfl ?_
      refine ops_nil ?_
      refine run_ret Try.func89 (res1 rfl rfl) ?_
      exact ⟨_, rfl, by simp [isRuling, *], E⟩
  ·
    refine ov (xmove rfl) rfl rfl rfl ?_
    refine og rfl rfl rfl ?_
    refine og rfl rfl rfl ?_
    refine og rfl rfl rfl ?_
    refine ov (xpick_f rfl rfl) rfl rfl rfl ?_
    refine ov (xmove rfl) rfl rfl rfl ?_
    refine og rfl rfl rfl ?_
    refine og rfl rfl rfl ?_
    refine og rfl rfl rfl ?_
    refine ov (xpick_f rfl rfl) rfl rfl rfl ?_
    refine ov (xassign rfl) rfl rfl rfl ?_
    refine ops_nil ?_
    refine run_ret Try.func89 (res1 rfl rfl) ?_
    exact ⟨_, rfl, by simp [isRuling, *], E⟩

set_option maxHeartbeats 400000 in
theorem l25Is_ok (r : Ruling) (w : World) (hc : r.Code.size ≤ 9223372036854775807) : Ret Try.prog 88 [.agg #[.int .i64 r.Day, .string r.Code, .int .i64 r.Kind]] w (Pv w (.bool (isRuling r))) := by
  refine ret_of_run (N := 16) Try.func88 rfl rfl rfl ?_
  have E : Ext w w := Ext.refl w
  refine run_seq ?_
  refine run_region ?_
  refine obox rfl rfl rfl ?_
  intro b1 w1 e1 hb1 hz1 O1
  have E := E.trans e1
  replace O1 : Own w1 b1 [.int .i64 r.Day, .string r.Code, .int .i64 r.Kind] 37 := O1
  refine ov (xassign rfl) rfl rfl rfl ?_
  refine ops_nil ?_
  refine run_seq ?_
  refine run_region ?_
  refine ov (xfieldAddr fo37f0 rfl) rfl rfl rfl ?_
  refine ov (v := .int .i64 r.Day) (xload1 Try.isAgg2 rfl (O1.cells) rfl) rfl rfl rfl ?_
  refine oc (xcall Try.call93 rfl) rfl rfl rfl (l02Is_ok (r.Day) _) ?_
  rintro _ w_ ⟨rfl, hw_⟩
  replace hw_ := hw_.symm
  subst hw_
  refine obs (fun c5 => ?_) (fun c5 => ?_)
  ·
    refine ov (xmove rfl) rfl rfl rfl ?_
    refine ov (xfieldAddr fo37f1 rfl) rfl rfl rfl ?_
    refine ov (v := .string r.Code) (xload1 Try.isAgg9 rfl (O1.cells) rfl) rfl rfl rfl ?_
    refine oc (xcall Try.call92 rfl) rfl rfl rfl (sIsWord_ok (r.Code) _ (by first | assumption | omega)) ?_
    rintro _ w_ ⟨rfl, hw_⟩
    replace hw_ := hw_.symm
    subst hw_
    refine obs (fun c9 => ?_) (fun c9 => ?_)
    ·
      refine ov (xpick_t rfl rfl) rfl rfl rfl ?_
      refine ov (xmove rfl) rfl rfl rfl ?_
      refine ov (xfieldAddr fo37f2 rfl) rfl rfl rfl ?_
      refine ov (v := .int .i64 r.Kind) (xload1 Try.isAgg2 rfl (O1.cells) rfl) rfl rfl rfl ?_
      refine oc (xcall Try.call135 rfl) rfl rfl rfl (l01In_ok (r.Kind) (0) (3) _) ?_
      rintro _ w_ ⟨rfl, hw_⟩
      replace hw_ := hw_.symm
      subst hw_
      refine ov (xpick_t rfl rfl) rfl rfl rfl ?_
      refine ov (xassign rfl) rfl rfl rfl ?_
      refine ops_nil ?_
      refine run_ret Try.func88 (res1 rfl rfl) ?_
      exact ⟨_, rfl, by simp [isRuling, *], E⟩
    ·
      refine ov (xpick_t rfl rfl) rfl rfl rfl ?_
      refine ov (xmove rfl) rfl rfl rfl ?_
      refine og rfl rfl rfl ?_
      refine og rfl rfl rfl ?_
      refine og rfl rfl rfl ?_
      refine ov (xpick_f rfl rfl) rfl rfl rfl ?_
      refine ov (xassign rfl) rfl rfl rfl ?_
      refine ops_nil ?_
      refine run_ret Try.func88 (res1 rfl rfl) ?_
      exact ⟨_, rfl, by simp [isRuling, *], E⟩
  ·
    refine ov (xmove rfl) rfl rfl rfl ?_
    refine og rfl rfl rfl ?_
    refine og rfl rfl rfl ?_
    refine og rfl rfl rfl ?_
    refine ov (xpick_f rfl rfl) rfl rfl rfl ?_
    refine ov (xmove rfl) rfl rfl rfl ?_
    refine og rfl rfl rfl ?_
    refine og rfl rfl rfl ?_
    refine og rfl rfl rfl ?_
    refine ov (xpick_f rfl rfl) rfl rfl rfl ?_
    refine ov (xassign rfl) rfl rfl rfl ?_
    refine ops_nil ?_
    refine run_ret Try.func88 (res1 rfl rfl) ?_
    exact ⟨_, rfl, by simp [isRuling, *], E⟩

set_option maxHeartbeats 400000 in
theorem AreRulings_ok (p : Option Addr) (n c : Nat) (xs : List Ruling) (w : World) (H : Sl Ruling.cells 3 w p n c xs) (hx : ∀ x ∈ xs, x.Code.size ≤ 9223372036854775807) : Ret Try.prog 21 [.slice p n c] w (Pv w (.bool (areRulings xs))) := by
  refine ret_of_run (N := 34) Try.func21 rfl rfl rfl ?_
  have hn := H.len
  have hn6 := H.n64
  have E : Ext w w := Ext.refl w
  refine run_seq ?_
  refine run_region ?_
  refine ov (xassign rfl) rfl rfl rfl ?_
  refine ops_nil ?_
  refine run_seq ?_
  refine run_seq ?_
  refine run_region ?_
  refine ov (xmove rfl) rfl rfl rfl ?_
  refine ov (xlen Try.underlying25 rfl) rfl rfl rfl ?_
  refine ov (xmove rfl) rfl rfl rfl ?_
  refine ops_nil ?_
  refine run_block ?_
  refine run_loop (ι := Nat × World) (fun x_ => match x_ with | (k, wr) => (Ext w wr) ∧ (w.heap.size ≤ wr.heap.size) ∧ (k ≤ n) ∧ (allB k (allI (rulP xs) xs) = true)) (fun x_ => match x_ with | (k, wr) => [(0, .slice p n c), (5, .slice p n c), (6, .int .i64 (n : Int)), (7, .int .i64 (k : Int))]) (fun x_ => match x_ with | (k, wr) => wr) (fun x_ => match x_ with | (k, wr) => n - k) ?_ (0, w) (⟨E, Nat.le_refl _, by omega, allB_zero⟩) ⟨rfl, rfl, rfl, rfl, trivial⟩ rfl
  intro i_ hI_ hback2
  obtain ⟨k, wr⟩ := i_
  obtain ⟨E, lz_wr, hk, ha⟩ := hI_
  try dsimp only
  have zr := E.size
  refine run_seq ?_
  refine run_region ?_
  refine ov (xlss rfl rfl _ rfl) rfl rfl rfl ?_
  refine ods (fun c8 => ?_) (fun c8 => ?_)
  ·
    refine ops_nil ?_
    refine run_seq ?_
    refine run_cond_t rfl ?_
    refine run_skip ?_
    refine run_seq ?_
    refine run_block ?_
    refine run_seq ?_
    refine run_region ?_
    refine ov (xmove rfl) rfl rfl rfl ?_
    have h10 := (H.ext E).at (i := k) (by omega)
    refine ov (xindexN (i := k) Try.underlying25 Try.sizeOf37 rfl rfl rfl ((H.ext E).p (i := k) (by omega)) (by have := (H.ext E).len; omega)) rfl rfl rfl ?_
    refine ov (v := .agg #[.int .i64 xs[k].Day, .string xs[k].Code, .int .i64 xs[k].Kind]) (xloadN Try.isAgg37 Try.sizeOf37 rfl (h10) rfl) rfl rfl rfl ?_
    refine oalloc Try.zeroValue37 rfl rfl ?_
    intro b1 w1 e1 hb1 hz1 O1
    have E := E.trans e1
    replace O1 : Own w1 b1 [.int .i64 0, .string ⟨#[]⟩, .int .i64 0] 37 := O1
    refine ov (xassign rfl) rfl rfl rfl ?_
    refine ostoreN (vs := _) Try.sizeOf37 rfl rfl O1 rfl (by simp) (by simp [Value.oneCell']) rfl ?_
    intro w2 on2 O2
    have hz2 := on2.size
    have E := on2.ext E (by omega)
    replace O2 : Own w2 b1 [.int .i64 xs[k].Day, .string xs[k].Code, .int .i64 xs[k].Kind] 37 := O2
    refine ops_nil ?_
    refine run_seq ?_
    refine run_draw (by kernel_rfl) (by kernel_rfl) ?_
    refine qv (v := .agg #[.int .i64 xs[k].Day, .string xs[k].Code, .int .i64 xs[k].Kind]) (fun w' x_ => xloadN Try.isAgg37 Try.sizeOf37 rfl ((O2.cells).ext x_) rfl) rfl rfl rfl ?_
    have t13 := fun (w' : World) (x_ : Ext w2 w') => Ret.q (w := w') (isRuling_ok xs[k] _ (hx _ (List.getElem_mem _)))
    refine qc (fun w' => xcall Try.call89 rfl) rfl rfl rfl t13 ?_
    clear t13
    refine qbs (fun c13 => ?_) (fun c13 => ?_)
    ·
      refine qv (fun w' x_ => xnot rfl) rfl rfl rfl ?_
      refine qv (fun w' x_ => xmove rfl) rfl rfl rfl ?_
      refine qv (fun w' x_ => xmove rfl) rfl rfl rfl ?_
      refine qv (fun w' x_ => xgtr rfl rfl _ rfl) rfl rfl rfl ?_
      refine qds (fun c17 => ?_) (fun c17 => ?_)
      ·
        refine qv (fun w' x_ => xmove rfl) rfl rfl rfl ?_
        refine qv (fun w' x_ => xmove rfl) rfl rfl rfl ?_
        refine qv (fun w' x_ => xmove rfl) rfl rfl rfl ?_
        refine qv (fun w' x_ => xsub rfl rfl (by unfold I64; omega)) rfl rfl rfl ?_
        have h22 := (H.ext E).at (i := (k - 1)) (by omega)
        refine qv (fun w' x_ => xindexN (i := (k - 1)) Try.underlying25 Try.sizeOf37 rfl rfl (by omega) ((H.ext E).p (i := (k - 1)) (by omega)) (by have := (H.ext E).len; omega)) rfl rfl rfl ?_
        refine qv (fun w' x_ => xfieldAddr fo37f0 rfl) rfl rfl rfl ?_
        refine qv (fun w' x_ => xload1 Try.isAgg2 rfl ((h22).ext x_) rfl) rfl rfl rfl ?_
        refine qv (fun w' x_ => xfieldAddr fo37f0 rfl) rfl rfl rfl ?_
        refine qv (v := .int .i64 xs[k].Day) (fun w' x_ => xload1 Try.isAgg2 rfl ((O2.cells).ext x_) rfl) rfl rfl rfl ?_
        refine qv (fun w' x_ => xgtr rfl rfl _ rfl) rfl rfl rfl ?_
        refine qds (fun c27 => ?_) (fun c27 => ?_)
        ·
          refine qv (fun w' x_ => xpick_t rfl rfl) rfl rfl rfl ?_
          refine qv (fun w' x_ => xpick_f rfl rfl) rfl rfl rfl ?_
          refine q_nil ?_
          intro w3 e3
          have z3 := e3.size
          have E := E.trans e3
          replace O2 := O2.ext e3
          refine run_cond_t rfl ?_
          refine run_seq ?_
          refine run_region ?_
          refine ov (xassign rfl) rfl rfl rfl ?_
          refine ops_nil ?_
          refine run_ret Try.func21 (res1 rfl rfl) ?_
          exact ⟨_, rfl, by rw [areR_f2 (k := k) (by omega) (by omega) (by assumption)], E⟩
        ·
          refine qv (fun w' x_ => xpick_t rfl rfl) rfl rfl rfl ?_
          refine qv (fun w' x_ => xpick_f rfl rfl) rfl rfl rfl ?_
          refine q_nil ?_
          intro w3 e3
          have z3 := e3.size
          have E := E.trans e3
          replace O2 := O2.ext e3
          refine run_cond_f rfl ?_
          refine run_skip ?_
          refine run_inBlock ?_
          refine run_region ?_
          refine ov (xadd rfl rfl (by unfold I64; omega)) rfl rfl rfl ?_
          refine ov (xmove rfl) rfl rfl rfl ?_
          refine ops_nil ?_
          refine run_sub ?_ (hback2 (k + 1, w3) (⟨E, by omega, by omega, allB_succ ha (rulP_t (by omega) (by assumption) (by omega))⟩) (by first | omega | (dsimp only; omega)))
          exact ⟨rfl, rfl, rfl, rfl, trivial⟩
      ·
        refine qv (fun w' x_ => xmove rfl) rfl rfl rfl ?_
        refine qg rfl rfl rfl ?_
        refine qg rfl rfl rfl ?_
        refine qg rfl rfl rfl ?_
        refine qg rfl rfl rfl ?_
        refine qg rfl rfl rfl ?_
        refine qg rfl rfl rfl ?_
        refine qg rfl rfl rfl ?_
        refine qg rfl rfl rfl ?_
        refine qg rfl rfl rfl ?_
        refine qv (fun w' x_ => xpick_f rfl rfl) rfl rfl rfl ?_
        refine qv (fun w' x_ => xpick_f rfl rfl) rfl rfl rfl ?_
        refine q_nil ?_
        intro w3 e3
        have z3 := e3.size
        have E := E.trans e3
        replace O2 := O2.ext e3
        refine run_cond_f rfl ?_
        refine run_skip ?_
        refine run_inBlock ?_
        refine run_region ?_
        refine ov (xadd rfl rfl (by unfold I64; omega)) rfl rfl rfl ?_
        refine ov (xmove rfl) rfl rfl rfl ?_
        refine ops_nil ?_
        refine run_sub ?_ (hback2 (k + 1, w3) (⟨E, by omega, by omega, allB_succ ha (rulP_t (by omega) (by assumption) (by omega))⟩) (by first | omega | (dsimp only; omega)))
        exact ⟨rfl, rfl, rfl, rfl, trivial⟩
    ·
      refine qv (fun w' x_ => xnot rfl) rfl rfl rfl ?_
      refine qv (fun w' x_ => xmove rfl) rfl rfl rfl ?_
      refine qg rfl rfl rfl ?_
      refine qg rfl rfl rfl ?_
      refine qg rfl rfl rfl ?_
      refine qg rfl rfl rfl ?_
      refine qg rfl rfl rfl ?_
      refine qg rfl rfl rfl ?_
      refine qg rfl rfl rfl ?_
      refine qg rfl rfl rfl ?_
      refine qg rfl rfl rfl ?_
      refine qg rfl rfl rfl ?_
      refine qg rfl rfl rfl ?_
      refine qg rfl rfl rfl ?_
      refine qg rfl rfl rfl ?_
      refine qv (fun w' x_ => xpick_t rfl rfl) rfl rfl rfl ?_
      refine q_nil ?_
      intro w3 e3
      have z3 := e3.size
      have E := E.trans e3
      replace O2 := O2.ext e3
      refine run_cond_t rfl ?_
      refine run_seq ?_
      refine run_region ?_
      refine ov (xassign rfl) rfl rfl rfl ?_
      refine ops_nil ?_
      refine run_ret Try.func21 (res1 rfl rfl) ?_
      exact ⟨_, rfl, by rw [areR_f1 (k := k) (by omega) (by assumption)], E⟩
  ·
    refine ops_nil ?_
    refine run_seq ?_
    refine run_cond_f rfl ?_
    refine run_exit rfl ?_
    refine run_seq ?_
    refine run_region ?_
    refine ov (xmove rfl) rfl rfl rfl ?_
    refine ov (xlen Try.underlying25 rfl) rfl rfl rfl ?_
    refine oc (xcall Try.call90 rfl) rfl rfl rfl (few_ok ((n : Int)) (20) _) ?_
    rintro _ w_ ⟨rfl, hw_⟩
    replace hw_ := hw_.symm
    subst hw_
    refine ov (xassign rfl) rfl rfl rfl ?_
    refine ops_nil ?_
    refine run_ret Try.func21 (res1 rfl rfl) ?_
    obtain rfl : k = n := by omega
    exact ⟨_, rfl, by rw [areRulings, ← hn, ha, Bool.true_and]; congr 2; exact propext (by omega), E⟩

set_option maxHeartbeats 400000 in
theorem sAreRulings_ok (p : Option Addr) (n c : Nat) (xs : List Ruling) (w : World) (H : Sl Ruling.cells 3 w p n c xs) (hx : ∀ x ∈ xs, x.Code.size ≤ 9223372036854775807) : Ret Try.prog 19 [.slice p n c] w (Pv w (.bool (areRulings xs))) := by
  refine ret_of_run (N := 37) Try.func19 rfl rfl rfl ?_
  have hn := H.len
  have hn6 := H.n64
  have E : Ext w w := Ext.refl w
  refine run_seq ?_
  refine run_region ?_
  refine ov (xassign rfl) rfl rfl rfl ?_
  refine ops_nil ?_
  refine run_seq ?_
  refine run_seq ?_
  refine run_region ?_
  refine ov (xassign rfl) rfl rfl rfl ?_
  refine ops_nil ?_
  refine run_block ?_
  refine run_loop (ι := Nat × World) (fun x_ => match x_ with | (k, wr) => (Ext w wr) ∧ (w.heap.size ≤ wr.heap.size) ∧ (k ≤ n) ∧ (allB k (allI (rulP xs) xs) = true)) (fun x_ => match x_ with | (k, wr) => [(0, .slice p n c), (3, .int .i64 (k : Int))]) (fun x_ => match x_ with | (k, wr) => wr) (fun x_ => match x_ with | (k, wr) => n - k) ?_ (0, w) (⟨E, Nat.le_refl _, by omega, allB_zero⟩) ⟨rfl, rfl, trivial⟩ rfl
  intro i_ hI_ hback2
  obtain ⟨k, wr⟩ := i_
  obtain ⟨E, lz_wr, hk, ha⟩ := hI_
  try dsimp only
  have zr := E.size
  refine run_seq ?_
  refine run_seq ?_
  refine run_region ?_
  refine ov (xmove rfl) rfl rfl rfl ?_
  refine ov (xmove rfl) rfl rfl rfl ?_
  refine ov (xlen Try.underlying25 rfl) rfl rfl rfl ?_
  refine ov (xlss rfl rfl _ rfl) rfl rfl rfl ?_
  refine ods (fun c7 => ?_) (fun c7 => ?_)
  ·
    refine ops_nil ?_
    refine run_cond_t rfl ?_
    refine run_skip ?_
    refine run_seq ?_
    refine run_block ?_
    refine run_seq ?_
    refine run_draw (by kernel_rfl) (by kernel_rfl) ?_
    refine qv (fun w' x_ => xmove rfl) rfl rfl rfl ?_
    refine qv (fun w' x_ => xmove rfl) rfl rfl rfl ?_
    have h12 := (H.ext E).at (i := k) (by omega)
    refine qv (fun w' x_ => xindexN (i := k) Try.underlying25 Try.sizeOf37 rfl rfl rfl ((H.ext E).p (i := k) (by omega)) (by have := (H.ext E).len; omega)) rfl rfl rfl ?_
    refine qv (v := .agg #[.int .i64 xs[k].Day, .string xs[k].Code, .int .i64 xs[k].Kind]) (fun w' x_ => xloadN Try.isAgg37 Try.sizeOf37 rfl ((h12).ext x_) rfl) rfl rfl rfl ?_
    have t14 := fun (w' : World) (x_ : Ext wr w') => Ret.q (w := w') (l25Is_ok xs[k] _ (hx _ (List.getElem_mem _)))
    refine qc (fun w' => xcall Try.call88 rfl) rfl rfl rfl t14 ?_
    clear t14
    refine qbs (fun c14 => ?_) (fun c14 => ?_)
    ·
      refine qv (fun w' x_ => xnot rfl) rfl rfl rfl ?_
      refine qv (fun w' x_ => xmove rfl) rfl rfl rfl ?_
      refine qv (fun w' x_ => xmove rfl) rfl rfl rfl ?_
      refine qv (fun w' x_ => xgtr rfl rfl _ rfl) rfl rfl rfl ?_
      refine qds (fun c18 => ?_) (fun c18 => ?_)
      ·
        refine qv (fun w' x_ => xmove rfl) rfl rfl rfl ?_
        refine qv (fun w' x_ => xmove rfl) rfl rfl rfl ?_
        refine qv (fun w' x_ => xmove rfl) rfl rfl rfl ?_
        have h22 := (H.ext E).at (i := k) (by omega)
        refine qv (fun w' x_ => xindexN (i := k) Try.underlying25 Try.sizeOf37 rfl rfl rfl ((H.ext E).p (i := k) (by omega)) (by have := (H.ext E).len; omega)) rfl rfl rfl ?_
        refine qv (fun w' x_ => xfieldAddr fo37f0 rfl) rfl rfl rfl ?_
        refine qv (fun w' x_ => xload1 Try.isAgg2 rfl ((h22).ext x_) rfl) rfl rfl rfl ?_
        refine qv (fun w' x_ => xmove rfl) rfl rfl rfl ?_
        refine qv (fun w' x_ => xmove rfl) rfl rfl rfl ?_
        refine qv (fun w' x_ => xsub rfl rfl (by unfold I64; omega)) rfl rfl rfl ?_
        have h28 := (H.ext E).at (i := (k - 1)) (by omega)
        refine qv (fun w' x_ => xindexN (i := (k - 1)) Try.underlying25 Try.sizeOf37 rfl rfl (by omega) ((H.ext E).p (i := (k - 1)) (by omega)) (by have := (H.ext E).len; omega)) rfl rfl rfl ?_
        refine qv (fun w' x_ => xfieldAddr fo37f0 rfl) rfl rfl rfl ?_
        refine qv (fun w' x_ => xload1 Try.isAgg2 rfl ((h28).ext x_) rfl) rfl rfl rfl ?_
        refine qv (fun w' x_ => xlss rfl rfl _ rfl) rfl rfl rfl ?_
        refine qds (fun c31 => ?_) (fun c31 => ?_)
        ·
          refine qv (fun w' x_ => xpick_t rfl rfl) rfl rfl rfl ?_
          refine qv (fun w' x_ => xpick_f rfl rfl) rfl rfl rfl ?_
          refine q_nil ?_
          intro w1 e1
          have z1 := e1.size
          have E := E.trans e1
          refine run_cond_t rfl ?_
          refine run_seq ?_
          refine run_region ?_
          refine ov (xassign rfl) rfl rfl rfl ?_
          refine ops_nil ?_
          refine run_ret Try.func19 (res1 rfl rfl) ?_
          exact ⟨_, rfl, by rw [areR_f2 (k := k) (by omega) (by omega) (by assumption)], E⟩
        ·
          refine qv (fun w' x_ => xpick_t rfl rfl) rfl rfl rfl ?_
          refine qv (fun w' x_ => xpick_f rfl rfl) rfl rfl rfl ?_
          refine q_nil ?_
          intro w1 e1
          have z1 := e1.size
          have E := E.trans e1
          refine run_cond_f rfl ?_
          refine run_skip ?_
          refine run_inBlock ?_
          refine run_region ?_
          refine ov (xmove rfl) rfl rfl rfl ?_
          refine ov (xadd rfl rfl (by unfold I64; omega)) rfl rfl rfl ?_
          refine ov (xassign rfl) rfl rfl rfl ?_
          refine ops_nil ?_
          refine run_sub ?_ (hback2 (k + 1, w1) (⟨E, by omega, by omega, allB_succ ha (rulP_t (by omega) (by assumption) (by omega))⟩) (by first | omega | (dsimp only; omega)))
          exact ⟨rfl, rfl, trivial⟩
      ·
        refine qv (fun w' x_ => xmove rfl) rfl rfl rfl ?_
        refine qg rfl rfl rfl ?_
        refine qg rfl rfl rfl ?_
        refine qg rfl rfl rfl ?_
        refine qg rfl rfl rfl ?_
        refine qg rfl rfl rfl ?_
        refine qg rfl rfl rfl ?_
        refine qg rfl rfl rfl ?_
        refine qg rfl rfl rfl ?_
        refine qg rfl rfl rfl ?_
        refine qg rfl rfl rfl ?_
        refine qg rfl rfl rfl ?_
        refine qg rfl rfl rfl ?_
        refine qv (fun w' x_ => xpick_f rfl rfl) rfl rfl rfl ?_
        refine qv (fun w' x_ => xpick_f rfl rfl) rfl rfl rfl ?_
        refine q_nil ?_
        intro w1 e1
        have z1 := e1.size
        have E := E.trans e1
        refine run_cond_f rfl ?_
        refine run_skip ?_
        refine run_inBlock ?_
        refine run_region ?_
        refine ov (xmove rfl) rfl rfl rfl ?_
        refine ov (xadd rfl rfl (by unfold I64; omega)) rfl rfl rfl ?_
        refine ov (xassign rfl) rfl rfl rfl ?_
        refine ops_nil ?_
        refine run_sub ?_ (hback2 (k + 1, w1) (⟨E, by omega, by omega, allB_succ ha (rulP_t (by omega) (by assumption) (by omega))⟩) (by first | omega | (dsimp only; omega)))
        exact ⟨rfl, rfl, trivial⟩
    ·
      refine qv (fun w' x_ => xnot rfl) rfl rfl rfl ?_
      refine qv (fun w' x_ => xmove rfl) rfl rfl rfl ?_
      refine qg rfl rfl rfl ?_
      refine qg rfl rfl rfl ?_
      refine qg rfl rfl rfl ?_
      refine qg rfl rfl rfl ?_
      refine qg rfl rfl rfl ?_
      refine qg rfl rfl rfl ?_
      refine qg rfl rfl rfl ?_
      refine qg rfl rfl rfl ?_
      refine qg rfl rfl rfl ?_
      refine qg rfl rfl rfl ?_
      refine qg rfl rfl rfl ?_
      refine qg rfl rfl rfl ?_
      refine qg rfl rfl rfl ?_
      refine qg rfl rfl rfl ?_
      refine qg rfl rfl rfl ?_
      refine qg rfl rfl rfl ?_
      refine qv (fun w' x_ => xpick_t rfl rfl) rfl rfl rfl ?_
      refine q_nil ?_
      intro w1 e1
      have z1 := e1.size
      have E := E.trans e1
      refine run_cond_t rfl ?_
      refine run_seq ?_
      refine run_region ?_
      refine ov (xassign rfl) rfl rfl rfl ?_
      refine ops_nil ?_
      refine run_ret Try.func19 (res1 rfl rfl) ?_
      exact ⟨_, rfl, by rw [areR_f1 (k := k) (by omega) (by assumption)], E⟩
  ·
    refine ops_nil ?_
    refine run_cond_f rfl ?_
    refine run_exit rfl ?_
    refine run_seq ?_
    refine run_region ?_
    refine ov (xmove rfl) rfl rfl rfl ?_
    refine ov (xlen Try.underlying25 rfl) rfl rfl rfl ?_
    refine ov (xleq rfl rfl _ rfl) rfl rfl rfl ?_
    refine ov (xassign rfl) rfl rfl rfl ?_
    refine ops_nil ?_
    refine run_ret Try.func19 (res1 rfl rfl) ?_
    obtain rfl : k = n := by omega
    exact ⟨_, rfl, by rw [areRulings, ← hn, ha, Bool.true_and]; congr 2; exact propext (by omega), E⟩
end Go.Proofs.Ytnjohcbamblilaa
