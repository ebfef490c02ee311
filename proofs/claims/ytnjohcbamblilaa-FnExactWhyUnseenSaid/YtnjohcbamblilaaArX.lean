/-
  Lists of exhibits. No condition beyond those written in each theorem.
-/
import Derived.Test.YtnjohcbamblilaaExhF
namespace Go.Proofs.Ytnjohcbamblilaa
open Go.RowKit
set_option linter.unusedVariables false
set_option linter.unusedSimpArgs false
set_option linter.unusedSectionVars false
set_option maxRecDepth 4000

def sameX (x y : Exhibit) : Bool := decide (y.Code = x.Code)
def exhP (xs : List Exhibit) (i : Nat) (x : Exhibit) : Bool := isExhibit x && !((xs.take i).any (sameX x))
def areExhibits (xs : List Exhibit) : Bool := allB xs.length (allI (exhP xs) xs) && decide (xs.length ≤ 10)
theorem exhs_f {xs : List Exhibit} {i : Nat} (h : i < xs.length) (h2 : exhP xs i xs[i] = false) : areExhibits xs = false := by
  rw [areExhibits, allB_false h (by rw [allI_of h]; exact h2)]; rfl
theorem areExhibits_len {xs : List Exhibit} (h : areExhibits xs = true) : xs.length ≤ 10 := by
  simp only [areExhibits, Bool.and_eq_true, decide_eq_true_eq] at h; exact h.2
theorem areExhibits_is {xs : List Exhibit} (h : areExhibits xs = true) {i : Nat} (hi : i < xs.length) : isExhibit xs[i] = true := by
  simp only [areExhibits, Bool.and_eq_true] at h
  have := allB_iff.1 h.1 i hi
  rw [allI_of hi] at this
  simp only [exhP, Bool.and_eq_true] at this
  exact this.1
theorem any_of_at {xs : List Exhibit} {x : Exhibit} {i k : Nat} (hk : k < i) (hi : i ≤ xs.length) (h : xs[k].Code = x.Code) : (xs.take i).any (sameX x) = true := by
  rw [List.any_eq_true]
  exact ⟨xs[k], by rw [List.mem_take_iff_getElem]; exact ⟨k, by omega, rfl⟩, decide_eq_true h⟩
theorem any_no {xs : List Exhibit} {x : Exhibit} {i : Nat} (h : ∀ j (hj : j < xs.length), j < i → xs[j].Code ≠ x.Code) : (xs.take i).any (sameX x) = false := by
  rw [List.any_eq_false]
  intro y hy
  rw [List.mem_take_iff_getElem] at hy
  obtain ⟨j, hj, rfl⟩ := hy
  simp only [sameX, decide_eq_true_eq]
  exact h j (by omega) (by omega)


set_option maxHeartbeats 400000 in
theorem IndexFuncX_ok (p : Option Addr) (n c : Nat) (xs : List Exhibit) (hd : Nat → Hd) (w : World) (H : NS cellsExhibitS 5 innExhibitS Handing.cells 4 w p n c xs hd) (g : FuncId) (caps : List Value) (f : Exhibit → Bool) (hg : ∀ args w, (callFunc g args).run Try.prog w = .ok (.enter g args) w) (hf : ∀ (w' : World), Ext w w' → ∀ i (hi : i < xs.length), Ret Try.prog g ([.agg #[.string xs[i].Code, .string xs[i].Found, .int .i64 xs[i].Day, .int .i64 xs[i].Seal, .slice (hd i).p (hd i).n (hd i).c]] ++ caps) w' (Pv w' (.bool (f xs[i])))) : Ret Try.prog 139 [.slice p n c, .func (.func g) #[] caps.toArray] w (Pv w (.int .i64 (findI f xs))) := by
  refine ret_of_run (N := 19) Try.func139 rfl rfl rfl ?_
  have hn := H.len
  have hn6 := H.n64
  have E : Ext w w := Ext.refl w
  refine run_seq ?_
  refine run_region ?_
  refine ov (xassign rfl) rfl rfl rfl ?_
  refine ops_nil ?_
  refine run_seq ?_
  refine run_seq ?_
  refine run_region ?_
  refine ov (xmove rfl) rfl rfl rfl ?_
  refine ov (xlen Try.underlying85 rfl) rfl rfl rfl ?_
  refine ov (xmove rfl) rfl rfl rfl ?_
  refine ops_nil ?_
  refine run_block ?_
  refine run_loop (ι := Nat × World) (fun x_ => match x_ with | (k, wr) => (Ext w wr) ∧ (w.heap.size ≤ wr.heap.size) ∧ (k ≤ n) ∧ (∀ j (hj : j < xs.length), j < k → f xs[j] = false)) (fun x_ => match x_ with | (k, wr) => [(0, .slice p n c), (1, .func (.func g) #[] caps.toArray), (7, .int .i64 (n : Int)), (8, .int .i64 (k : Int))]) (fun x_ => match x_ with | (k, wr) => wr) (fun x_ => match x_ with | (k, wr) => n - k) ?_ (0, w) (⟨E, Nat.le_refl _, by omega, fun j hj h => absurd h (Nat.not_lt_zero j)⟩) ⟨rfl, rfl, rfl, rfl, trivial⟩ rfl
  intro i_ hI_ hback2
  obtain ⟨k, wr⟩ := i_
  obtain ⟨E, lz_wr, hk, ha⟩ := hI_
  try dsimp only
  have zr := E.size
  refine run_seq ?_
  refine run_region ?_
  refine ov (xlss rfl rfl _ rfl) rfl rfl rfl ?_
  refine ods (fun c9 => ?_) (fun c9 => ?_)
  ·
    refine ops_nil ?_
    refine run_seq ?_
    refine run_cond_t rfl ?_
    refine run_skip ?_
    refine run_seq ?_
    refine run_block ?_
    refine run_seq ?_
    refine run_region ?_
    refine ov (xmove rfl) rfl rfl rfl ?_
    refine ov (xassign rfl) rfl rfl rfl ?_
    refine ops_nil ?_
    refine run_seq ?_
    refine run_region ?_
    refine ov (xmove rfl) rfl rfl rfl ?_
    refine ov (xmove rfl) rfl rfl rfl ?_
    refine ov (xmove rfl) rfl rfl rfl ?_
    have h14 := (H.ext E).at (i := k) (by omega)
    refine ov (xindexN (i := k) Try.underlying85 Try.sizeOf49 rfl rfl rfl ((H.ext E).p (i := k) (by omega)) (by have := (H.ext E).len; omega)) rfl rfl rfl ?_
    refine ov (v := .agg #[.string xs[k].Code, .string xs[k].Found, .int .i64 xs[k].Day, .int .i64 xs[k].Seal, .slice (hd k).p (hd k).n (hd k).c]) (xloadN Try.isAgg49 Try.sizeOf49 rfl (h14) rfl) rfl rfl rfl ?_
    refine oc (xcallv rfl hg rfl) rfl rfl rfl (hf _ E k (by omega)) ?_
    rintro _ w1 ⟨rfl, e1⟩
    have z1 := e1.size
    have E := E.trans e1
    refine obs (fun c16 => ?_) (fun c16 => ?_)
    ·
      refine ops_nil ?_
      refine run_cond_t rfl ?_
      refine run_seq ?_
      refine run_region ?_
      refine ov (xmove rfl) rfl rfl rfl ?_
      refine ov (xassign rfl) rfl rfl rfl ?_
      refine ops_nil ?_
      refine run_ret Try.func139 (res1 rfl rfl) ?_
      exact ⟨_, rfl, by rw [findI_at (k := k) (by omega) (by assumption) ha], E⟩
    ·
      refine ops_nil ?_
      refine run_cond_f rfl ?_
      refine run_skip ?_
      refine run_inBlock ?_
      refine run_region ?_
      refine ov (xadd rfl rfl (by unfold I64; omega)) rfl rfl rfl ?_
      refine ov (xmove rfl) rfl rfl rfl ?_
      refine ops_nil ?_
      refine run_sub ?_ (hback2 (k + 1, w1) (⟨E, by omega, by omega, below_succ (q := fun x => f x = false) ha (fun _ => by assumption)⟩) (by first | omega | (dsimp only; omega)))
      exact ⟨rfl, rfl, rfl, rfl, trivial⟩
  ·
    refine ops_nil ?_
    refine run_seq ?_
    refine run_cond_f rfl ?_
    refine run_exit rfl ?_
    refine run_seq ?_
    refine run_region ?_
    refine ov (xassign rfl) rfl rfl rfl ?_
    refine ops_nil ?_
    refine run_ret Try.func139 (res1 rfl rfl) ?_
    exact ⟨_, rfl, by rw [findI_none (fun j hj => ha j hj (by omega))], E⟩

set_option maxHeartbeats 400000 in
theorem ContainsFuncX_ok (p : Option Addr) (n c : Nat) (xs : List Exhibit) (hd : Nat → Hd) (w : World) (H : NS cellsExhibitS 5 innExhibitS Handing.cells 4 w p n c xs hd) (g : FuncId) (caps : List Value) (f : Exhibit → Bool) (hg : ∀ args w, (callFunc g args).run Try.prog w = .ok (.enter g args) w) (hf : ∀ (w' : World), Ext w w' → ∀ i (hi : i < xs.length), Ret Try.prog g ([.agg #[.string xs[i].Code, .string xs[i].Found, .int .i64 xs[i].Day, .int .i64 xs[i].Seal, .slice (hd i).p (hd i).n (hd i).c]] ++ caps) w' (Pv w' (.bool (f xs[i])))) : Ret Try.prog 125 [.slice p n c, .func (.func g) #[] caps.toArray] w (Pv w (.bool (xs.any f))) := by
  refine ret_of_run (N := 9) Try.func125 rfl rfl rfl ?_
  have E : Ext w w := Ext.refl w
  refine run_seq ?_
  refine run_region ?_
  refine ov (xassign rfl) rfl rfl rfl ?_
  refine ops_nil ?_
  refine run_seq ?_
  refine run_region ?_
  refine ov (xmove rfl) rfl rfl rfl ?_
  refine ov (xmove rfl) rfl rfl rfl ?_
  refine oc (xcall Try.call139 rfl) rfl rfl rfl (IndexFuncX_ok _ _ _ _ _ _ (H.ext E) g caps f hg (fun w2 x2 => hf w2 (E.trans x2))) ?_
  rintro _ w1 ⟨rfl, e1⟩
  have z1 := e1.size
  have E := E.trans e1
  refine ov (xgeq rfl rfl _ rfl) rfl rfl rfl ?_
  refine ov (xassign rfl) rfl rfl rfl ?_
  refine ops_nil ?_
  refine run_ret Try.func125 (res1 rfl rfl) ?_
  exact ⟨_, rfl, congrArg Value.bool (by rw [Bool.eq_iff_iff, decide_eq_true_iff]; exact findI_nn), E⟩

set_option maxHeartbeats 400000 in
theorem AreExhibits1_ok (y q : Exhibit) (h k : Hd) (b : Nat) (w : World) (O : Own w b [.string q.Code, .string q.Found, .int .i64 q.Day, .int .i64 q.Seal, .slice k.p k.n k.c] 49) : Ret Try.prog 126 [.agg #[.string y.Code, .string y.Found, .int .i64 y.Day, .int .i64 y.Seal, .slice h.p h.n h.c], .pointer (some ⟨b, 0, none⟩)] w (Pv w (.bool (sameX q y))) := by
  refine ret_of_run (N := 9) Try.func126 rfl rfl rfl ?_
  have E : Ext w w := Ext.refl w
  refine run_seq ?_
  refine run_region ?_
  refine obox rfl rfl rfl ?_
  intro b1 w1 e1 hb1 hz1 O1
  have E := E.trans e1
  replace O := O.ext e1
  replace O1 : Own w1 b1 [.string y.Code, .string y.Found, .int .i64 y.Day, .int .i64 y.Seal, .slice h.p h.n h.c] 49 := O1
  refine ov (xassign rfl) rfl rfl rfl ?_
  refine ops_nil ?_
  refine run_seq ?_
  refine run_region ?_
  refine ov (xfieldAddr fo49f0 rfl) rfl rfl rfl ?_
  refine ov (v := .string y.Code) (xload1 Try.isAgg9 rfl (O1.cells) rfl) rfl rfl rfl ?_
  refine ov (xfieldAddr fo49f0 rfl) rfl rfl rfl ?_
  refine ov (v := .string q.Code) (xload1 Try.isAgg9 rfl (O.cells) rfl) rfl rfl rfl ?_
  refine ov (xseql rfl rfl _ rfl) rfl rfl rfl ?_
  refine ov (xassign rfl) rfl rfl rfl ?_
  refine ops_nil ?_
  refine run_ret Try.func126 (res1 rfl rfl) ?_
  exact ⟨_, rfl, rfl, E⟩

set_option maxHeartbeats 1000000 in
theorem AreExhibits_ok (p : Option Addr) (n c : Nat) (xs : List Exhibit) (w : World) (H0 : SnExhibitS w p n c xs) (hx : ∀ x ∈ xs, exSmall x) : Ret Try.prog 67 [.slice p n c] w (Pv w (.bool (areExhibits xs))) := by
  refine ret_of_run (N := 26) Try.func67 rfl rfl rfl ?_
  obtain ⟨hd, H⟩ := H0
  have hn := H.len
  have hn6 := H.n64
  have E : Ext w w := Ext.refl w
  refine run_seq ?_
  refine run_region ?_
  refine ov (xassign rfl) rfl rfl rfl ?_
  refine ops_nil ?_
  refine run_seq ?_
  refine run_seq ?_
  refine run_region ?_
  refine ov (xmove rfl) rfl rfl rfl ?_
  refine ov (xlen Try.underlying85 rfl) rfl rfl rfl ?_
  refine ov (xmove rfl) rfl rfl rfl ?_
  refine ops_nil ?_
  refine run_block ?_
  refine run_loop (ι := Nat × World) (fun x_ => match x_ with | (i, wr) => (Ext w wr) ∧ (w.heap.size ≤ wr.heap.size) ∧ (i ≤ n) ∧ (allB i (allI (exhP xs) xs) = true)) (fun x_ => match x_ with | (i, wr) => [(0, .slice p n c), (5, .slice p n c), (6, .int .i64 (n : Int)), (7, .int .i64 (i : Int))]) (fun x_ => match x_ with | (i, wr) => wr) (fun x_ => match x_ with | (i, wr) => n - i) ?_ (0, w) (⟨E, Nat.le_refl _, by omega, allB_zero⟩) ⟨rfl, rfl, rfl, rfl, trivial⟩ rfl
  intro i_ hI_ hback2
  obtain ⟨i, wr⟩ := i_
  obtain ⟨E, lz_wr, hi, ha⟩ := hI_
  try dsimp only
  have zr := E.size
  refine run_seq ?_
  refine run_region ?_
  refine ov (xlss rfl rfl _ rfl) rfl rfl rfl ?_
  refine ods (fun c8 => ?_) (fun c8 => ?_)
  ·
    refine ops_nil ?_
    refine run_seq ?_
    refine run_cond_t rfl ?_
    refine run_skip ?_
    refine run_seq ?_
    refine run_block ?_
    refine run_seq ?_
    refine run_region ?_
    refine ov (xmove rfl) rfl rfl rfl ?_
    have h10 := (H.ext E).at (i := i) (by omega)
    refine ov (xindexN (i := i) Try.underlying85 Try.sizeOf49 rfl rfl rfl ((H.ext E).p (i := i) (by omega)) (by have := (H.ext E).len; omega)) rfl rfl rfl ?_
    refine ov (v := .agg #[.string xs[i].Code, .string xs[i].Found, .int .i64 xs[i].Day, .int .i64 xs[i].Seal, .slice (hd i).p (hd i).n (hd i).c]) (xloadN Try.isAgg49 Try.sizeOf49 rfl (h10) rfl) rfl rfl rfl ?_
    refine oalloc Try.zeroValue49 rfl rfl ?_
    intro b1 w1 e1 hb1 hz1 O1
    have E := E.trans e1
    replace O1 : Own w1 b1 [.string ⟨#[]⟩, .string ⟨#[]⟩, .int .i64 0, .int .i64 0, .slice none 0 0] 49 := O1
    refine ov (xassign rfl) rfl rfl rfl ?_
    refine ostoreN (vs := _) Try.sizeOf49 rfl rfl O1 rfl (by simp) (by simp [Value.oneCell']) rfl ?_
    intro w2 on2 O2
    have hz2 := on2.size
    have E := on2.ext E (by omega)
    replace O2 : Own w2 b1 [.string xs[i].Code, .string xs[i].Found, .int .i64 xs[i].Day, .int .i64 xs[i].Seal, .slice (hd i).p (hd i).n (hd i).c] 49 := O2
    refine ops_nil ?_
    refine run_seq ?_
    refine run_region ?_
    refine ov (v := .agg #[.string xs[i].Code, .string xs[i].Found, .int .i64 xs[i].Day, .int .i64 xs[i].Seal, .slice (hd i).p (hd i).n (hd i).c]) (xloadN Try.isAgg49 Try.sizeOf49 rfl (O2.cells) rfl) rfl rfl rfl ?_
    have hxs_ := hx _ (List.getElem_mem (by omega : i < xs.length))
    refine oc (xcall Try.call66 rfl) rfl rfl rfl (IsExhibit_ok _ _ _ _ _ ((H.inner (i := i) (by omega)).ext E) (by assumption)) ?_
    rintro _ w3 ⟨rfl, e3⟩
    have z3 := e3.size
    have E := E.trans e3
    replace O2 := O2.ext e3
    refine obs (fun c13 => ?_) (fun c13 => ?_)
    ·
      refine ov (xnot rfl) rfl rfl rfl ?_
      refine ov (xmove rfl) rfl rfl rfl ?_
      refine ov (xmove rfl) rfl rfl rfl ?_
      refine ov (xmove rfl) rfl rfl rfl ?_
      refine ov (xslice_h (k := i) Try.underlying85 Try.sizeOf49 rfl rfl rfl (by have := (H.ext E).cap; omega)) rfl rfl rfl ?_
      refine ov (xmakeFunc rfl rfl) rfl rfl rfl ?_
      refine oc (xcall Try.call125 rfl) rfl rfl rfl (ContainsFuncX_ok _ _ _ _ _ _ ((H.ext E).take (k := i) (by omega)) 126 [.pointer (some ⟨b1, 0, none⟩)] (sameX xs[i]) Try.call126 (fun w2 x2 i2 hi2 => AreExhibits1_ok _ _ _ _ _ _ (O2.ext x2))) ?_
      rintro _ w4 ⟨rfl, e4⟩
      have z4 := e4.size
      have E := E.trans e4
      replace O2 := O2.ext e4
      refine obs (fun c20 => ?_) (fun c20 => ?_)
      ·
        refine ov (xpick_f rfl rfl) rfl rfl rfl ?_
        refine ops_nil ?_
        refine run_cond_t rfl ?_
        refine run_seq ?_
        refine run_region ?_
        refine ov (xassign rfl) rfl rfl rfl ?_
        refine ops_nil ?_
        refine run_ret Try.func67 (res1 rfl rfl) ?_
        exact ⟨_, rfl, by rw [exhs_f (i := i) (by omega) (by simp only [exhP, c20]; simp)], E⟩
      ·
        refine ov (xpick_f rfl rfl) rfl rfl rfl ?_
        refine ops_nil ?_
        refine run_cond_f rfl ?_
        refine run_skip ?_
        refine run_inBlock ?_
        refine run_region ?_
        refine ov (xadd rfl rfl (by unfold I64; omega)) rfl rfl rfl ?_
        refine ov (xmove rfl) rfl rfl rfl ?_
        refine ops_nil ?_
        refine run_sub ?_ (hback2 (i + 1, w4) (⟨E, by omega, by omega, allB_succ ha (by rw [allI_of (by omega)]; simp [exhP, c13, c20])⟩) (by first | omega | (dsimp only; omega)))
        exact ⟨rfl, rfl, rfl, rfl, trivial⟩
    ·
      refine ov (xnot rfl) rfl rfl rfl ?_
      refine ov (xmove rfl) rfl rfl rfl ?_
      refine og rfl rfl rfl ?_
      refine og rfl rfl rfl ?_
      refine og rfl rfl rfl ?_
      refine og rfl rfl rfl ?_
      refine og rfl rfl rfl ?_
      refine ov (xpick_t rfl rfl) rfl rfl rfl ?_
      refine ops_nil ?_
      refine run_cond_t rfl ?_
      refine run_seq ?_
      refine run_region ?_
      refine ov (xassign rfl) rfl rfl rfl ?_
      refine ops_nil ?_
      refine run_ret Try.func67 (res1 rfl rfl) ?_
      exact ⟨_, rfl, by rw [exhs_f (i := i) (by omega) (by simp [exhP, c13])], E⟩
  ·
    refine ops_nil ?_
    refine run_seq ?_
    refine run_cond_f rfl ?_
    refine run_exit rfl ?_
    refine run_seq ?_
    refine run_region ?_
    refine ov (xmove rfl) rfl rfl rfl ?_
    refine ov (xlen Try.underlying85 rfl) rfl rfl rfl ?_
    refine oc (xcall Try.call90 rfl) rfl rfl rfl (few_ok ((n : Int)) (10) _) ?_
    rintro _ w_ ⟨rfl, hw_⟩
    replace hw_ := hw_.symm
    subst hw_
    refine ov (xassign rfl) rfl rfl rfl ?_
    refine ops_nil ?_
    refine run_ret Try.func67 (res1 rfl rfl) ?_
    obtain rfl : i = n := by omega
    exact ⟨_, rfl, by rw [areExhibits, ← hn, ha, Bool.true_and]; exact congrArg Value.bool (decide_eq_decide.2 (by omega)), E⟩

set_option maxHeartbeats 1000000 in
theorem sAreExhibits_ok (p : Option Addr) (n c : Nat) (xs : List Exhibit) (w : World) (H0 : SnExhibitS w p n c xs) (hx : ∀ x ∈ xs, exSmall x) : Ret Try.prog 68 [.slice p n c] w (Pv w (.bool (areExhibits xs))) := by
  refine ret_of_run (N := 36) Try.func68 rfl rfl rfl ?_
  obtain ⟨hd, H⟩ := H0
  have hn := H.len
  have hn6 := H.n64
  have E : Ext w w := Ext.refl w
  refine run_seq ?_
  refine run_region ?_
  refine ov (xassign rfl) rfl rfl rfl ?_
  refine ops_nil ?_
  refine run_seq ?_
  refine run_seq ?_
  refine run_region ?_
  refine ov (xassign rfl) rfl rfl rfl ?_
  refine ops_nil ?_
  refine run_block ?_
  refine run_loop (ι := Nat × World) (fun x_ => match x_ with | (i, wr) => (Ext w wr) ∧ (w.heap.size ≤ wr.heap.size) ∧ (i ≤ n) ∧ (allB i (allI (exhP xs) xs) = true)) (fun x_ => match x_ with | (i, wr) => [(0, .slice p n c), (3, .int .i64 (i : Int))]) (fun x_ => match x_ with | (i, wr) => wr) (fun x_ => match x_ with | (i, wr) => n - i) ?_ (0, w) (⟨E, Nat.le_refl _, by omega, allB_zero⟩) ⟨rfl, rfl, trivial⟩ rfl
  intro i_ hI_ hback2
  obtain ⟨i, wr⟩ := i_
  obtain ⟨E, lz_wr, hi, ha⟩ := hI_
  try dsimp only
  have zr := E.size
  refine run_seq ?_
  refine run_seq ?_
  refine run_region ?_
  refine ov (xmove rfl) rfl rfl rfl ?_
  refine ov (xmove rfl) rfl rfl rfl ?_
  refine ov (xlen Try.underlying85 rfl) rfl rfl rfl ?_
  refine ov (xlss rfl rfl _ rfl) rfl rfl rfl ?_
  refine ods (fun c8 => ?_) (fun c8 => ?_)
  ·
    refine ops_nil ?_
    refine run_cond_t rfl ?_
    refine run_skip ?_
    refine run_seq ?_
    refine run_block ?_
    refine run_seq ?_
    refine run_seq ?_
    refine run_region ?_
    refine ov (xmove rfl) rfl rfl rfl ?_
    refine ov (xmove rfl) rfl rfl rfl ?_
    have h13 := (H.ext E).at (i := i) (by omega)
    refine ov (xindexN (i := i) Try.underlying85 Try.sizeOf49 rfl rfl rfl ((H.ext E).p (i := i) (by omega)) (by have := (H.ext E).len; omega)) rfl rfl rfl ?_
    refine ov (v := .agg #[.string xs[i].Code, .string xs[i].Found, .int .i64 xs[i].Day, .int .i64 xs[i].Seal, .slice (hd i).p (hd i).n (hd i).c]) (xloadN Try.isAgg49 Try.sizeOf49 rfl (h13) rfl) rfl rfl rfl ?_
    have hxs_ := hx _ (List.getElem_mem (by omega : i < xs.length))
    refine oc (xcall Try.call101 rfl) rfl rfl rfl (sIsExhibit_ok _ _ _ _ _ ((H.inner (i := i) (by omega)).ext E) (by assumption)) ?_
    rintro _ w1 ⟨rfl, e1⟩
    have z1 := e1.size
    have E := E.trans e1
    refine obs (fun c15 => ?_) (fun c15 => ?_)
    ·
      refine ov (xnot rfl) rfl rfl rfl ?_
      refine ops_nil ?_
      refine run_cond_f rfl ?_
      refine run_skip ?_
      refine run_seq ?_
      refine run_region ?_
      refine ov (xassign rfl) rfl rfl rfl ?_
      refine ops_nil ?_
      refine run_block ?_
      refine run_loop (ι := Nat × World) (fun x_ => match x_ with | (k, wr2) => (Ext w wr2) ∧ (w1.heap.size ≤ wr2.heap.size) ∧ (k ≤ i) ∧ (∀ j (hj : j < xs.length), j < k → xs[j].Code ≠ xs[i].Code)) (fun x_ => match x_ with | (k, wr2) => [(0, .slice p n c), (3, .int .i64 (i : Int)), (4, .int .i64 (k : Int))]) (fun x_ => match x_ with | (k, wr2) => wr2) (fun x_ => match x_ with | (k, wr2) => i - k) ?_ (0, w1) (⟨E, Nat.le_refl _, by omega, fun j hj h => absurd h (Nat.not_lt_zero j)⟩) ⟨rfl, rfl, rfl, trivial⟩ rfl
      intro i_ hI_ hback7
      obtain ⟨k, wr2⟩ := i_
      obtain ⟨E, lz_wr2, hk, hb⟩ := hI_
      try dsimp only
      have zr := E.size
      refine run_seq ?_
      refine run_seq ?_
      refine run_region ?_
      refine ov (xmove rfl) rfl rfl rfl ?_
      refine ov (xmove rfl) rfl rfl rfl ?_
      refine ov (xlss rfl rfl _ rfl) rfl rfl rfl ?_
      refine ods (fun c19 => ?_) (fun c19 => ?_)
      ·
        refine ops_nil ?_
        refine run_cond_t rfl ?_
        refine run_skip ?_
        refine run_seq ?_
        refine run_block ?_
        refine run_seq ?_
        refine run_draw (by kernel_rfl) (by kernel_rfl) ?_
        refine qv (fun w' x_ => xmove rfl) rfl rfl rfl ?_
        refine qv (fun w' x_ => xmove rfl) rfl rfl rfl ?_
        have h24 := (H.ext E).at (i := k) (by omega)
        refine qv (fun w' x_ => xindexN (i := k) Try.underlying85 Try.sizeOf49 rfl rfl rfl ((H.ext E).p (i := k) (by omega)) (by have := (H.ext E).len; omega)) rfl rfl rfl ?_
        refine qv (fun w' x_ => xfieldAddr fo49f0 rfl) rfl rfl rfl ?_
        refine qv (v := .string xs[k].Code) (fun w' x_ => xload1 Try.isAgg9 rfl ((h24).ext x_) rfl) rfl rfl rfl ?_
        refine qv (fun w' x_ => xmove rfl) rfl rfl rfl ?_
        refine qv (fun w' x_ => xmove rfl) rfl rfl rfl ?_
        have h29 := (H.ext E).at (i := i) (by omega)
        refine qv (fun w' x_ => xindexN (i := i) Try.underlying85 Try.sizeOf49 rfl rfl rfl ((H.ext E).p (i := i) (by omega)) (by have := (H.ext E).len; omega)) rfl rfl rfl ?_
        refine qv (fun w' x_ => xfieldAddr fo49f0 rfl) rfl rfl rfl ?_
        refine qv (v := .string xs[i].Code) (fun w' x_ => xload1 Try.isAgg9 rfl ((h29).ext x_) rfl) rfl rfl rfl ?_
        refine qv (fun w' x_ => xseql rfl rfl _ rfl) rfl rfl rfl ?_
        refine qds (fun c32 => ?_) (fun c32 => ?_)
        ·
          refine q_nil ?_
          intro w2 e2
          have z2 := e2.size
          have E := E.trans e2
          refine run_cond_t rfl ?_
          refine run_seq ?_
          refine run_region ?_
          refine ov (xassign rfl) rfl rfl rfl ?_
          refine ops_nil ?_
          refine run_ret Try.func68 (res1 rfl rfl) ?_
          have h1 := any_of_at (xs := xs) (x := xs[i]) (i := i) (k := k) (by omega) (by omega) c32
          exact ⟨_, rfl, by rw [exhs_f (i := i) (by omega) (by simp only [exhP, h1]; simp)], E⟩
        ·
          refine q_nil ?_
          intro w2 e2
          have z2 := e2.size
          have E := E.trans e2
          refine run_cond_f rfl ?_
          refine run_skip ?_
          refine run_inBlock ?_
          refine run_region ?_
          refine ov (xmove rfl) rfl rfl rfl ?_
          refine ov (xadd rfl rfl (by unfold I64; omega)) rfl rfl rfl ?_
          refine ov (xassign rfl) rfl rfl rfl ?_
          refine ops_nil ?_
          refine run_sub ?_ (hback7 (k + 1, w2) (⟨E, by omega, by omega, below_succ (q := fun y : Exhibit => y.Code ≠ xs[i].Code) hb (fun _ => c32)⟩) (by first | omega | (dsimp only; omega)))
          exact ⟨rfl, rfl, rfl, trivial⟩
      ·
        refine ops_nil ?_
        refine run_cond_f rfl ?_
        refine run_exit rfl ?_
        refine run_inBlock ?_
        refine run_region ?_
        refine ov (xmove rfl) rfl rfl rfl ?_
        refine ov (xadd rfl rfl (by unfold I64; omega)) rfl rfl rfl ?_
        refine ov (xassign rfl) rfl rfl rfl ?_
        refine ops_nil ?_
        refine run_sub ?_ (hback2 (i + 1, wr2) (⟨E, by omega, by omega, allB_succ ha (by rw [allI_of (by omega)]; have := any_no (xs := xs) (x := xs[i]) (i := i) (fun j hj hji => hb j hj (by omega)); simp [exhP, c15, this])⟩) (by first | omega | (dsimp only; omega)))
        exact ⟨rfl, rfl, trivial⟩
    ·
      refine ov (xnot rfl) rfl rfl rfl ?_
      refine ops_nil ?_
      refine run_cond_t rfl ?_
      refine run_seq ?_
      refine run_region ?_
      refine ov (xassign rfl) rfl rfl rfl ?_
      refine ops_nil ?_
      refine run_ret Try.func68 (res1 rfl rfl) ?_
      exact ⟨_, rfl, by rw [exhs_f (i := i) (by omega) (by simp [exhP, c15])], E⟩
  ·
    refine ops_nil ?_
    refine run_cond_f rfl ?_
    refine run_exit rfl ?_
    refine run_seq ?_
    refine run_region ?_
    refine ov (xmove rfl) rfl rfl rfl ?_
    refine ov (xlen Try.underlying85 rfl) rfl rfl rfl ?_
    refine ov (xleq rfl rfl _ rfl) rfl rfl rfl ?_
    refine ov (xassign rfl) rfl rfl rfl ?_
    refine ops_nil ?_
    refine run_ret Try.func68 (res1 rfl rfl) ?_
    obtain rfl : i = n := by omega
    exact ⟨_, rfl, by rw [areExhibits, ← hn, ha, Bool.true_and]; exact congrArg Value.bool (decide_eq_decide.2 (by omega)), E⟩
end Go.Proofs.Ytnjohcbamblilaa
