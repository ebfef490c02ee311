/-
  What a form is. No condition beyond those written in each theorem.
-/
import Derived.Test.YtchblgaklknkcaaGreatMore
namespace Go.Proofs.YtchblgaklknkcaaGreat
open Go.RowKit
set_option linter.unusedVariables false
set_option linter.unusedSimpArgs false
set_option linter.unusedSectionVars false
set_option maxRecDepth 4000
set_option maxHeartbeats 400000 in
theorem IndexFuncQuestion_ok (p : Option Addr) (n c : Nat) (xs : List Question) (w : World) (H : Sl Question.cells 3 w p n c xs) (g : FuncId) (caps : List Value) (f : Question → Bool) (hg : ∀ args w, (callFunc g args).run Tryz.prog w = .ok (.enter g args) w) (hf : ∀ (w' : World), Ext w w' → ∀ i (hi : i < xs.length), Ret Tryz.prog g ([.agg #[.string xs[i].Label, .int .i64 xs[i].Yes, .int .i64 xs[i].No]] ++ caps) w' (Pv w' (.bool (f xs[i])))) : Ret Tryz.prog 109 [.slice p n c, .func (.func g) #[] caps.toArray] w (Pv w (.int .i64 (findI f xs))) := by
 refine ret_of_run (N := 19) Tryz.func109 rfl rfl rfl ?_
 have hn := H.len
 have hn6 := H.n64
 have E : Ext w w := Ext.refl w
 refine sr_ ?_
 refine vn_ rfl rfl rfl ?_
 refine run_seq ?_
 refine sr_ ?_
 refine vm_ rfl rfl rfl ?_
 refine oz_ (xlen Tryz.underlying35 rfl) rfl rfl ?_
 refine vm_ rfl rfl rfl ?_
 refine ops_nil ?_
 refine run_block ?_
 refine run_loop (ι := Nat × World) (fun x_ => match x_ with | (k, wr) => (Ext w wr) ∧ (w.heap.size ≤ wr.heap.size) ∧ (k ≤ n) ∧ (∀ j (hj : j < xs.length), j < k → f xs[j] = false)) (fun x_ => match x_ with | (k, wr) => [(0, .slice p n c), (1, .func (.func g) #[] caps.toArray), (7, .int .i64 (n : Int)), (8, .int .i64 (k : Int))]) (fun x_ => match x_ with | (k, wr) => wr) (fun x_ => match x_ with | (k, wr) => n - k) ?_ (0, w) (⟨E, Nat.le_refl _, by omega, fun j hj h => absurd h (Nat.not_lt_zero j)⟩) ⟨rfl, rfl, rfl, rfl, trivial⟩ rfl
 intro i_ hI_ hback2
 obtain ⟨k, wr⟩ := i_
 obtain ⟨E, lz_wr, hk, ha⟩ := hI_
 try dsimp only
 have zr := E.size
 refine sr_ ?_
 refine oz_ (xlss rfl rfl _ rfl) rfl rfl ?_
 refine ods (fun c9 => ?_) (fun c9 => ?_)
 rotate_left
 ·
  refine ops_nil ?_
  refine run_seq ?_
  refine run_cond_f rfl ?_
  refine run_exit rfl ?_
  refine sr_ ?_
  refine vn_ rfl rfl rfl ?_
  refine run_ret Tryz.func109 (res1 rfl rfl) ?_
  exact ⟨_, rfl, by rw [findI_none (fun j hj => ha j hj (by omega))], E⟩
 refine ops_nil ?_
 refine run_seq ?_
 refine run_cond_t rfl ?_
 refine run_skip ?_
 refine run_seq ?_
 refine run_block ?_
 refine sr_ ?_
 refine vm_ rfl rfl rfl ?_
 refine vn_ rfl rfl rfl ?_
 refine sr_ ?_
 refine vm_ rfl rfl rfl ?_
 refine vm_ rfl rfl rfl ?_
 refine vm_ rfl rfl rfl ?_
 have h14 := (H.ext E).at (i := k) (by omega)
 refine oz_ (xindexN (i := k) Tryz.underlying35 Tryz.sizeOf99 rfl rfl rfl ((H.ext E).p (i := k) (by omega)) (by have := (H.ext E).len; omega)) rfl rfl ?_
 refine oz_ (v := .agg #[.string xs[k].Label, .int .i64 xs[k].Yes, .int .i64 xs[k].No]) (xloadN Tryz.isAgg99 Tryz.sizeOf99 rfl (h14) rfl) rfl rfl ?_
 refine oc (xcallv rfl hg rfl) rfl rfl rfl (hf _ E k (by omega)) ?_
 rintro _ w1 ⟨rfl, e1⟩
 have z1 := e1.size
 have E := E.trans e1
 refine obs (fun c16 => ?_) (fun c16 => ?_)
 ·
  refine ct_ rfl ?_
  refine sr_ ?_
  refine vm_ rfl rfl rfl ?_
  refine vn_ rfl rfl rfl ?_
  refine run_ret Tryz.func109 (res1 rfl rfl) ?_
  exact ⟨_, rfl, by rw [findI_at (k := k) (by omega) (by assumption) ha], E⟩
 refine cf_ rfl ?_
 refine run_inBlock ?_
 refine run_region ?_
 refine oz_ (xadd rfl rfl (by unfold I64; omega)) rfl rfl ?_
 refine vm_ rfl rfl rfl ?_
 refine ops_nil ?_
 refine run_sub ?_ (hback2 (k + 1, w1) (⟨E, by omega, by omega, below_succ (q := fun x => f x = false) ha (fun _ => by assumption)⟩) (by first | omega | (dsimp only; omega)))
 exact ⟨rfl, rfl, rfl, rfl, trivial⟩
set_option maxHeartbeats 400000 in
theorem ContainsFuncQuestion_ok (p : Option Addr) (n c : Nat) (xs : List Question) (w : World) (H : Sl Question.cells 3 w p n c xs) (g : FuncId) (caps : List Value) (f : Question → Bool) (hg : ∀ args w, (callFunc g args).run Tryz.prog w = .ok (.enter g args) w) (hf : ∀ (w' : World), Ext w w' → ∀ i (hi : i < xs.length), Ret Tryz.prog g ([.agg #[.string xs[i].Label, .int .i64 xs[i].Yes, .int .i64 xs[i].No]] ++ caps) w' (Pv w' (.bool (f xs[i])))) : Ret Tryz.prog 74 [.slice p n c, .func (.func g) #[] caps.toArray] w (Pv w (.bool (xs.any f))) := by
 refine ret_of_run (N := 9) Tryz.func74 rfl rfl rfl ?_
 have E : Ext w w := Ext.refl w
 refine sr_ ?_
 refine vn_ rfl rfl rfl ?_
 refine sr_ ?_
 refine vm_ rfl rfl rfl ?_
 refine vm_ rfl rfl rfl ?_
 refine oc (xcall Tryz.call109 rfl) rfl rfl rfl (IndexFuncQuestion_ok _ _ _ _ _ (H.ext E) g caps f hg (fun w2 x2 => hf w2 (E.trans x2))) ?_
 rintro _ w1 ⟨rfl, e1⟩
 have z1 := e1.size
 have E := E.trans e1
 refine oz_ (xgeq rfl rfl _ rfl) rfl rfl ?_
 refine vn_ rfl rfl rfl ?_
 refine run_ret Tryz.func74 (res1 rfl rfl) ?_
 exact ⟨_, rfl, congrArg Value.bool (by rw [Bool.eq_iff_iff, decide_eq_true_iff]; exact findI_nn), E⟩
def nextOk (n i : Nat) (v : Int) : Bool := inR (-6) (-1) v || inR (i + 1) (n - 1) v
def sameLabel (q y : Question) : Bool := decide (y.Label = q.Label)
def formP (xs : List Question) (i : Nat) (q : Question) : Bool := isWord q.Label && !((xs.take i).any (sameLabel q)) && (nextOk xs.length i q.Yes && nextOk xs.length i q.No)
def isForm (xs : List Question) : Bool := allB xs.length (allI (formP xs) xs) && inR 1 10 xs.length
theorem form_f {xs : List Question} {k : Nat} (hk : k < xs.length) (h : formP xs k xs[k] = false) : isForm xs = false := by
 rw [isForm, allB_false hk (by rw [allI_of hk]; exact h)]; rfl
theorem any_take {xs : List Question} {q : Question} {k i : Nat} (hi : i ≤ xs.length) (hk : k < i) (h : xs[k].Label = q.Label) : (xs.take i).any (sameLabel q) = true := by
 rw [List.any_eq_true]; exact ⟨xs[k], List.mem_take_iff_getElem.2 ⟨k, by omega, rfl⟩, by simpa [sameLabel] using h⟩
theorem no_take {xs : List Question} {q : Question} {i : Nat} (h : ∀ j (hj : j < xs.length), j < i → xs[j].Label ≠ q.Label) : (xs.take i).any (sameLabel q) = false := by
 rw [Bool.eq_false_iff]; intro h'
 obtain ⟨x, hx, hf⟩ := List.any_eq_true.1 h'
 obtain ⟨j, hj, rfl⟩ := List.mem_take_iff_getElem.1 hx
 exact h j (by omega) (by omega) (by simpa [sameLabel] using hf)
set_option maxHeartbeats 400000 in
theorem isVerdict_ok (n : Int) (w : World) : Ret Tryz.prog 76 [.int .i64 n] w (Ps w (.bool (inR (-6) (-1) n))) := by
 refine ret_of_run (N := 5) Tryz.func76 rfl rfl rfl ?_
 have E : Ext w w := Ext.refl w
 refine sr_ ?_
 refine vn_ rfl rfl rfl ?_
 refine sr_ ?_
 refine vm_ rfl rfl rfl ?_
 refine oc (xcall Tryz.call65 rfl) rfl rfl rfl (within_ok (n) ((-6)) ((-1)) _) ?_
 rintro _ w_ ⟨rfl, hw_⟩
 replace hw_ := hw_.symm
 subst hw_
 refine vn_ rfl rfl rfl ?_
 refine run_ret Tryz.func76 (res1 rfl rfl) ?_
 exact ⟨_, rfl, rfl, rfl⟩
set_option maxHeartbeats 400000 in
theorem l26Next_ok (v : Int) (i n : Nat) (w : World) (hi : i < n) (hn : n ≤ 9223372036854775807) : Ret Tryz.prog 108 [.int .i64 v, .int .i64 (i : Int), .int .i64 (n : Int)] w (Pv w (.bool (nextOk n i v))) := by
 refine ret_of_run (N := 17) Tryz.func108 rfl rfl rfl ?_
 have E : Ext w w := Ext.refl w
 refine sr_ ?_
 refine vn_ rfl rfl rfl ?_
 refine sr_ ?_
 refine vm_ rfl rfl rfl ?_
 refine vm_ rfl rfl rfl ?_
 refine oz_ (xadd rfl rfl (by unfold I64; omega)) rfl rfl ?_
 refine vm_ rfl rfl rfl ?_
 refine oz_ (xsub rfl rfl (by unfold I64; omega)) rfl rfl ?_
 refine oc (xcall Tryz.call68 rfl) rfl rfl rfl (l01In_ok (v) (((i : Int) + 1)) (((n : Int) - 1)) _) ?_
 rintro _ w_ ⟨rfl, hw_⟩
 replace hw_ := hw_.symm
 subst hw_
 refine obs (fun c12 => ?_) (fun c12 => ?_)
 ·
  refine vm_ rfl rfl rfl ?_
  refine o2_ rfl rfl rfl rfl ?_
  refine oz_ (xpick_t rfl rfl) rfl rfl ?_
  refine vn_ rfl rfl rfl ?_
  refine run_ret Tryz.func108 (res1 rfl rfl) ?_
  exact ⟨_, rfl, by simp [nextOk, *], E⟩
 refine vm_ rfl rfl rfl ?_
 refine vm_ rfl rfl rfl ?_
 refine oc (xcall Tryz.call68 rfl) rfl rfl rfl (l01In_ok (v) ((-6)) ((-1)) _) ?_
 rintro _ w_ ⟨rfl, hw_⟩
 replace hw_ := hw_.symm
 subst hw_
 refine oz_ (xpick_f rfl rfl) rfl rfl ?_
 refine vn_ rfl rfl rfl ?_
 refine run_ret Tryz.func108 (res1 rfl rfl) ?_
 exact ⟨_, rfl, by simp [nextOk, *], E⟩
set_option maxHeartbeats 400000 in
theorem IsForm1_ok (y q : Question) (b : Nat) (w : World) (O : Own w b [.string q.Label, .int .i64 q.Yes, .int .i64 q.No] 99) : Ret Tryz.prog 75 [.agg #[.string y.Label, .int .i64 y.Yes, .int .i64 y.No], .pointer (some ⟨b, 0, none⟩)] w (Pv w (.bool (sameLabel q y))) := by
 refine ret_of_run (N := 9) Tryz.func75 rfl rfl rfl ?_
 have E : Ext w w := Ext.refl w
 refine sr_ ?_
 refine obox rfl rfl rfl ?_
 intro b1 w1 e1 hb1 hz1 O1
 have E := E.trans e1
 replace O := O.ext e1
 replace O1 : Own w1 b1 [.string y.Label, .int .i64 y.Yes, .int .i64 y.No] 99 := O1
 refine vn_ rfl rfl rfl ?_
 refine sr_ ?_
 refine oz_ (xfieldAddr fo99f0 rfl) rfl rfl ?_
 refine oz_ (v := .string y.Label) (xload1 Tryz.isAgg9 rfl (O1.cells) rfl) rfl rfl ?_
 refine oz_ (xfieldAddr fo99f0 rfl) rfl rfl ?_
 refine oz_ (v := .string q.Label) (xload1 Tryz.isAgg9 rfl (O.cells) rfl) rfl rfl ?_
 refine oz_ (xseql rfl rfl _ rfl) rfl rfl ?_
 refine vn_ rfl rfl rfl ?_
 refine run_ret Tryz.func75 (res1 rfl rfl) ?_
 exact ⟨_, rfl, rfl, E⟩
set_option maxHeartbeats 1000000 in
theorem IsForm_ok (p : Option Addr) (n c : Nat) (xs : List Question) (w : World) (H : Sl Question.cells 3 w p n c xs) (hx : ∀ x ∈ xs, x.Label.size ≤ 9223372036854775807) : Ret Tryz.prog 34 [.slice p n c] w (Pv w (.bool (isForm xs))) := by
 refine ret_of_run (N := 51) Tryz.func34 rfl rfl rfl ?_
 have hn := H.len
 have hn6 := H.n64
 have E : Ext w w := Ext.refl w
 refine sr_ ?_
 refine vn_ rfl rfl rfl ?_
 refine run_seq ?_
 refine sr_ ?_
 refine vm_ rfl rfl rfl ?_
 refine oz_ (xlen Tryz.underlying35 rfl) rfl rfl ?_
 refine vm_ rfl rfl rfl ?_
 refine ops_nil ?_
 refine run_block ?_
 refine run_loop (ι := Nat × World) (fun x_ => match x_ with | (i, wr) => (Ext w wr) ∧ (w.heap.size ≤ wr.heap.size) ∧ (i ≤ n) ∧ (allB i (allI (formP xs) xs) = true)) (fun x_ => match x_ with | (i, wr) => [(0, .slice p n c), (7, .slice p n c), (8, .int .i64 (n : Int)), (9, .int .i64 (i : Int))]) (fun x_ => match x_ with | (i, wr) => wr) (fun x_ => match x_ with | (i, wr) => n - i) ?_ (0, w) (⟨E, Nat.le_refl _, by omega, allB_zero⟩) ⟨rfl, rfl, rfl, rfl, trivial⟩ rfl
 intro i_ hI_ hback2
 obtain ⟨i, wr⟩ := i_
 obtain ⟨E, lz_wr, hi, ha⟩ := hI_
 try dsimp only
 have zr := E.size
 refine sr_ ?_
 refine oz_ (xlss rfl rfl _ rfl) rfl rfl ?_
 refine ods (fun c10 => ?_) (fun c10 => ?_)
 rotate_left
 ·
  refine ops_nil ?_
  refine run_seq ?_
  refine run_cond_f rfl ?_
  refine run_exit rfl ?_
  refine sr_ ?_
  refine vm_ rfl rfl rfl ?_
  refine oz_ (xlen Tryz.underlying35 rfl) rfl rfl ?_
  refine oc (xcall Tryz.call65 rfl) rfl rfl rfl (within_ok ((n : Int)) (1) (10) _) ?_
  rintro _ w_ ⟨rfl, hw_⟩
  replace hw_ := hw_.symm
  subst hw_
  refine vn_ rfl rfl rfl ?_
  refine run_ret Tryz.func34 (res1 rfl rfl) ?_
  obtain rfl : i = n := by omega
  exact ⟨_, rfl, by rw [isForm, ← hn, ha]; rfl, E⟩
 refine ops_nil ?_
 refine run_seq ?_
 refine run_cond_t rfl ?_
 refine run_skip ?_
 refine run_seq ?_
 refine run_block ?_
 refine sr_ ?_
 refine vm_ rfl rfl rfl ?_
 have h12 := (H.ext E).at (i := i) (by omega)
 refine oz_ (xindexN (i := i) Tryz.underlying35 Tryz.sizeOf99 rfl rfl rfl ((H.ext E).p (i := i) (by omega)) (by have := (H.ext E).len; omega)) rfl rfl ?_
 refine oz_ (v := .agg #[.string xs[i].Label, .int .i64 xs[i].Yes, .int .i64 xs[i].No]) (xloadN Tryz.isAgg99 Tryz.sizeOf99 rfl (h12) rfl) rfl rfl ?_
 refine oalloc Tryz.zeroValue99 rfl rfl ?_
 intro b1 w1 e1 hb1 hz1 O1
 have E := E.trans e1
 replace O1 : Own w1 b1 [.string ⟨#[]⟩, .int .i64 0, .int .i64 0] 99 := O1
 refine va_ rfl rfl rfl ?_
 refine ostoreN (vs := _) Tryz.sizeOf99 rfl rfl O1 rfl (by simp) (by simp [Value.oneCell']) rfl ?_
 intro w2 on2 O2
 have hz2 := on2.size
 have E := on2.ext E (by omega)
 replace O2 : Own w2 b1 [.string xs[i].Label, .int .i64 xs[i].Yes, .int .i64 xs[i].No] 99 := O2
 refine ops_nil ?_
 refine run_seq ?_
 refine sr_ ?_
 have hl := hx _ (List.getElem_mem (by omega : i < xs.length))
 refine oz_ (xfieldAddr fo99f0 rfl) rfl rfl ?_
 refine oz_ (v := .string xs[i].Label) (xload1 Tryz.isAgg9 rfl (O2.cells) rfl) rfl rfl ?_
 refine oc (xcall Tryz.call73 rfl) rfl rfl rfl (IsWord_ok (xs[i].Label) _ (by first | assumption | omega)) ?_
 rintro _ w_ ⟨rfl, hw_⟩
 replace hw_ := hw_.symm
 subst hw_
 refine obs (fun c16 => ?_) (fun c16 => ?_)
 rotate_left
 ·
  refine oz_ (xnot rfl) rfl rfl ?_
  refine vm_ rfl rfl rfl ?_
  refine o2_ rfl rfl rfl rfl ?_
  refine o2_ rfl rfl rfl rfl ?_
  refine og rfl rfl rfl ?_
  refine oz_ (xpick_t rfl rfl) rfl rfl ?_
  refine ct_ rfl ?_
  refine sr_ ?_
  refine vn_ rfl rfl rfl ?_
  refine run_ret Tryz.func34 (res1 rfl rfl) ?_
  exact ⟨_, rfl, by rw [form_f (k := i) (by omega) (by simp [formP, c16])], E⟩
 refine oz_ (xnot rfl) rfl rfl ?_
 refine vm_ rfl rfl rfl ?_
 refine vm_ rfl rfl rfl ?_
 refine vm_ rfl rfl rfl ?_
 refine oz_ (xslice_h (k := i) Tryz.underlying35 Tryz.sizeOf99 rfl rfl rfl (by have := (H.ext E).cap; omega)) rfl rfl ?_
 refine oz_ (xmakeFunc rfl rfl) rfl rfl ?_
 refine oc (xcall Tryz.call74 rfl) rfl rfl rfl (ContainsFuncQuestion_ok _ _ _ _ _ ((H.ext E).take (k := i) (by omega)) 75 [.pointer (some ⟨b1, 0, none⟩)] (sameLabel xs[i]) Tryz.call75 (fun w2 x2 i2 hi2 => IsForm1_ok _ _ _ _ (O2.ext x2))) ?_
 rintro _ w3 ⟨rfl, e3⟩
 have z3 := e3.size
 have E := E.trans e3
 replace O2 := O2.ext e3
 refine obs (fun c23 => ?_) (fun c23 => ?_)
 ·
  refine oz_ (xpick_f rfl rfl) rfl rfl ?_
  refine ct_ rfl ?_
  refine sr_ ?_
  refine vn_ rfl rfl rfl ?_
  refine run_ret Tryz.func34 (res1 rfl rfl) ?_
  exact ⟨_, rfl, by rw [form_f (k := i) (by omega) (by simp only [formP, c23]; simp)], E⟩
 refine oz_ (xpick_f rfl rfl) rfl rfl ?_
 refine cf_ rfl ?_
 refine sr_ ?_
 refine oz_ (xfieldAddr fo99f1 rfl) rfl rfl ?_
 refine oz_ (v := .int .i64 xs[i].Yes) (xload1 Tryz.isAgg2 rfl (O2.cells) rfl) rfl rfl ?_
 refine oz_ (xfieldAddr fo99f2 rfl) rfl rfl ?_
 refine oz_ (v := .int .i64 xs[i].No) (xload1 Tryz.isAgg2 rfl (O2.cells) rfl) rfl rfl ?_
 refine oz_ (xbuild (vs := [.int .i64 xs[i].Yes, .int .i64 xs[i].No]) (cells := #[.int .i64 xs[i].Yes, .int .i64 xs[i].No]) rfl (by kernel_rfl)) rfl rfl ?_
 refine vm_ rfl rfl rfl ?_
 refine ops_nil ?_
 refine run_block ?_
 refine run_loop (ι := Nat × World) (fun x_ => match x_ with | (j, wr2) => (Ext w wr2) ∧ (Own wr2 b1 ([.string xs[i].Label, .int .i64 xs[i].Yes, .int .i64 xs[i].No]) 99) ∧ (w3.heap.size ≤ wr2.heap.size) ∧ (j ≤ 2) ∧ (1 ≤ j → nextOk xs.length i xs[i].Yes = true) ∧ (2 ≤ j → nextOk xs.length i xs[i].No = true)) (fun x_ => match x_ with | (j, wr2) => [(0, .slice p n c), (3, .int .i64 (i : Int)), (7, .slice p n c), (8, .int .i64 (n : Int)), (9, .int .i64 (i : Int)), (29, .agg #[.int .i64 xs[i].Yes, .int .i64 xs[i].No]), (30, .int .i64 (j : Int))]) (fun x_ => match x_ with | (j, wr2) => wr2) (fun x_ => match x_ with | (j, wr2) => 2 - j) ?_ (0, w3) (⟨E, O2, Nat.le_refl _, by omega, fun h => absurd h (by omega), fun h => absurd h (by omega)⟩) ⟨rfl, rfl, rfl, rfl, rfl, rfl, rfl, trivial⟩ rfl
 intro i_ hI_ hback7
 obtain ⟨j, wr2⟩ := i_
 obtain ⟨E, O_b1, lz_wr2, hj, hq1, hq2⟩ := hI_
 try dsimp only
 have zr := E.size
 have lt_b1 := O_b1.lt
 refine sr_ ?_
 refine oz_ (xlss rfl rfl _ rfl) rfl rfl ?_
 refine ods (fun c31 => ?_) (fun c31 => ?_)
 rotate_left
 ·
  refine ops_nil ?_
  refine run_seq ?_
  refine run_cond_f rfl ?_
  refine run_exit rfl ?_
  refine run_inBlock ?_
  refine run_region ?_
  refine oz_ (xadd rfl rfl (by unfold I64; omega)) rfl rfl ?_
  refine vm_ rfl rfl rfl ?_
  refine ops_nil ?_
  refine run_sub ?_ (hback2 (i + 1, wr2) (⟨E, by omega, by omega, allB_succ ha (by rw [allI_of (by omega), formP, c16, c23, hq1 (by omega), hq2 (by omega)]; rfl)⟩) (by first | omega | (dsimp only; omega)))
  exact ⟨rfl, rfl, rfl, rfl, trivial⟩
 refine ops_nil ?_
 refine run_seq ?_
 refine run_cond_t rfl ?_
 refine run_skip ?_
 refine run_seq ?_
 refine run_block ?_
 refine sr_ ?_
 refine oz_ (xindexA2 (j := j) Tryz.underlying105 Tryz.sizeOf2 Tryz.isAgg2 rfl rfl rfl (by omega)) rfl rfl ?_
 refine vn_ rfl rfl rfl ?_
 refine sr_ ?_
 refine vm_ rfl rfl rfl ?_
 refine oc (xcall Tryz.call76 rfl) rfl rfl rfl (isVerdict_ok ((pick2 j xs[i].Yes xs[i].No)) _) ?_
 rintro _ w_ ⟨rfl, hw_⟩
 replace hw_ := hw_.symm
 subst hw_
 refine obs (fun c34 => ?_) (fun c34 => ?_)
 ·
  refine oz_ (xnot rfl) rfl rfl ?_
  refine vm_ rfl rfl rfl ?_
  refine o2_ rfl rfl rfl rfl ?_
  refine o2_ rfl rfl rfl rfl ?_
  refine o2_ rfl rfl rfl rfl ?_
  refine o2_ rfl rfl rfl rfl ?_
  refine oz_ (xpick_f rfl rfl) rfl rfl ?_
  refine cf_ rfl ?_
  refine run_inBlock ?_
  refine run_region ?_
  refine oz_ (xadd rfl rfl (by unfold I64; omega)) rfl rfl ?_
  refine vm_ rfl rfl rfl ?_
  refine ops_nil ?_
  refine run_sub ?_ (hback7 (j + 1, wr2) (⟨E, O_b1, by omega, by omega, fun _ => by rcases (by omega : j = 0 ∨ j = 1) with rfl | rfl <;> simp_all [pick2, nextOk], fun h => by rcases (by omega : j = 1) with rfl; simp_all [pick2, nextOk]⟩) (by first | omega | (dsimp only; omega)))
  exact ⟨rfl, rfl, rfl, rfl, rfl, rfl, rfl, trivial⟩
 refine oz_ (xnot rfl) rfl rfl ?_
 refine vm_ rfl rfl rfl ?_
 refine vm_ rfl rfl rfl ?_
 refine vm_ rfl rfl rfl ?_
 refine oz_ (xadd rfl rfl (by unfold I64; omega)) rfl rfl ?_
 refine vm_ rfl rfl rfl ?_
 refine oz_ (xlen Tryz.underlying35 rfl) rfl rfl ?_
 refine oz_ (xsub rfl rfl (by unfold I64; omega)) rfl rfl ?_
 refine oc (xcall Tryz.call65 rfl) rfl rfl rfl (within_ok ((pick2 j xs[i].Yes xs[i].No)) (((i : Int) + 1)) (((n : Int) - 1)) _) ?_
 rintro _ w_ ⟨rfl, hw_⟩
 replace hw_ := hw_.symm
 subst hw_
 refine obs (fun c43 => ?_) (fun c43 => ?_)
 ·
  refine oz_ (xnot rfl) rfl rfl ?_
  refine oz_ (xpick_t rfl rfl) rfl rfl ?_
  refine cf_ rfl ?_
  refine run_inBlock ?_
  refine run_region ?_
  refine oz_ (xadd rfl rfl (by unfold I64; omega)) rfl rfl ?_
  refine vm_ rfl rfl rfl ?_
  refine ops_nil ?_
  refine run_sub ?_ (hback7 (j + 1, wr2) (⟨E, O_b1, by omega, by omega, fun _ => by rcases (by omega : j = 0 ∨ j = 1) with rfl | rfl <;> simp_all [pick2, nextOk], fun h => by rcases (by omega : j = 1) with rfl; simp_all [pick2, nextOk]⟩) (by first | omega | (dsimp only; omega)))
  exact ⟨rfl, rfl, rfl, rfl, rfl, rfl, rfl, trivial⟩
 refine oz_ (xnot rfl) rfl rfl ?_
 refine oz_ (xpick_t rfl rfl) rfl rfl ?_
 refine ct_ rfl ?_
 refine sr_ ?_
 refine vn_ rfl rfl rfl ?_
 refine run_ret Tryz.func34 (res1 rfl rfl) ?_
 exact ⟨_, rfl, by rw [form_f (k := i) (by omega) (by rcases (by omega : j = 0 ∨ j = 1) with rfl | rfl <;> simp_all [formP, pick2, nextOk])], E⟩
set_option maxHeartbeats 1000000 in
theorem sIsForm_ok (p : Option Addr) (n c : Nat) (xs : List Question) (w : World) (H : Sl Question.cells 3 w p n c xs) (hx : ∀ x ∈ xs, x.Label.size ≤ 9223372036854775807) : Ret Tryz.prog 67 [.slice p n c] w (Pv w (.bool (isForm xs))) := by
 refine ret_of_run (N := 53) Tryz.func67 rfl rfl rfl ?_
 have hn := H.len
 have hn6 := H.n64
 have E : Ext w w := Ext.refl w
 refine sr_ ?_
 refine vn_ rfl rfl rfl ?_
 refine sr_ ?_
 refine vm_ rfl rfl rfl ?_
 refine oz_ (xlen Tryz.underlying35 rfl) rfl rfl ?_
 refine vn_ rfl rfl rfl ?_
 refine run_seq ?_
 refine sr_ ?_
 refine vn_ rfl rfl rfl ?_
 refine run_block ?_
 refine run_loop (ι := Nat × World) (fun x_ => match x_ with | (i, wr) => (Ext w wr) ∧ (w.heap.size ≤ wr.heap.size) ∧ (i ≤ n) ∧ (allB i (allI (formP xs) xs) = true)) (fun x_ => match x_ with | (i, wr) => [(0, .slice p n c), (3, .int .i64 (n : Int)), (4, .int .i64 (i : Int))]) (fun x_ => match x_ with | (i, wr) => wr) (fun x_ => match x_ with | (i, wr) => n - i) ?_ (0, w) (⟨E, Nat.le_refl _, by omega, allB_zero⟩) ⟨rfl, rfl, rfl, trivial⟩ rfl
 intro i_ hI_ hback3
 obtain ⟨i, wr⟩ := i_
 obtain ⟨E, lz_wr, hi, ha⟩ := hI_
 try dsimp only
 have zr := E.size
 refine run_seq ?_
 refine sr_ ?_
 refine vm_ rfl rfl rfl ?_
 refine vm_ rfl rfl rfl ?_
 refine oz_ (xlss rfl rfl _ rfl) rfl rfl ?_
 refine ods (fun c11 => ?_) (fun c11 => ?_)
 rotate_left
 ·
  refine cg_ rfl ?_
  refine run_exit rfl ?_
  refine sr_ ?_
  refine vm_ rfl rfl rfl ?_
  refine oc (xcall Tryz.call68 rfl) rfl rfl rfl (l01In_ok ((n : Int)) (1) (10) _) ?_
  rintro _ w_ ⟨rfl, hw_⟩
  replace hw_ := hw_.symm
  subst hw_
  refine vn_ rfl rfl rfl ?_
  refine run_ret Tryz.func67 (res1 rfl rfl) ?_
  obtain rfl : i = n := by omega
  exact ⟨_, rfl, by rw [isForm, ← hn, ha]; rfl, E⟩
 refine ct_ rfl ?_
 refine run_skip ?_
 refine run_seq ?_
 refine run_block ?_
 refine sr_ ?_
 refine vm_ rfl rfl rfl ?_
 refine vm_ rfl rfl rfl ?_
 have h16 := (H.ext E).at (i := i) (by omega)
 refine oz_ (xindexN (i := i) Tryz.underlying35 Tryz.sizeOf99 rfl rfl rfl ((H.ext E).p (i := i) (by omega)) (by have := (H.ext E).len; omega)) rfl rfl ?_
 refine oz_ (v := .agg #[.string xs[i].Label, .int .i64 xs[i].Yes, .int .i64 xs[i].No]) (xloadN Tryz.isAgg99 Tryz.sizeOf99 rfl (h16) rfl) rfl rfl ?_
 refine oalloc Tryz.zeroValue99 rfl rfl ?_
 intro b1 w1 e1 hb1 hz1 O1
 have E := E.trans e1
 replace O1 : Own w1 b1 [.string ⟨#[]⟩, .int .i64 0, .int .i64 0] 99 := O1
 refine ostoreN (vs := _) Tryz.sizeOf99 rfl rfl O1 rfl (by simp) (by simp [Value.oneCell']) rfl ?_
 intro w2 on2 O2
 have hz2 := on2.size
 have E := on2.ext E (by omega)
 replace O2 : Own w2 b1 [.string xs[i].Label, .int .i64 xs[i].Yes, .int .i64 xs[i].No] 99 := O2
 refine ops_nil ?_
 refine run_seq ?_
 refine sr_ ?_
 have hl := hx _ (List.getElem_mem (by omega : i < xs.length))
 refine oz_ (xfieldAddr fo99f0 rfl) rfl rfl ?_
 refine oz_ (v := .string xs[i].Label) (xload1 Tryz.isAgg9 rfl (O2.cells) rfl) rfl rfl ?_
 refine oc (xcall Tryz.call107 rfl) rfl rfl rfl (sIsWord_ok (xs[i].Label) _ (by first | assumption | omega)) ?_
 rintro _ w_ ⟨rfl, hw_⟩
 replace hw_ := hw_.symm
 subst hw_
 refine obs (fun c20 => ?_) (fun c20 => ?_)
 rotate_left
 ·
  refine oz_ (xnot rfl) rfl rfl ?_
  refine vm_ rfl rfl rfl ?_
  refine o2_ rfl rfl rfl rfl ?_
  refine o2_ rfl rfl rfl rfl ?_
  refine o2_ rfl rfl rfl rfl ?_
  refine oz_ (xpick_t rfl rfl) rfl rfl ?_
  refine vm_ rfl rfl rfl ?_
  refine o2_ rfl rfl rfl rfl ?_
  refine o2_ rfl rfl rfl rfl ?_
  refine o2_ rfl rfl rfl rfl ?_
  refine oz_ (xpick_t rfl rfl) rfl rfl ?_
  refine ct_ rfl ?_
  refine sr_ ?_
  refine vn_ rfl rfl rfl ?_
  refine run_ret Tryz.func67 (res1 rfl rfl) ?_
  exact ⟨_, rfl, by rw [form_f (k := i) (by omega) (by simp [formP, c20])], E⟩
 refine oz_ (xnot rfl) rfl rfl ?_
 refine vm_ rfl rfl rfl ?_
 refine oz_ (xfieldAddr fo99f1 rfl) rfl rfl ?_
 refine oz_ (v := .int .i64 xs[i].Yes) (xload1 Tryz.isAgg2 rfl (O2.cells) rfl) rfl rfl ?_
 refine vm_ rfl rfl rfl ?_
 refine vm_ rfl rfl rfl ?_
 refine oc (xcall Tryz.call108 rfl) rfl rfl rfl (l26Next_ok _ i n _ (by omega) (by omega)) ?_
 rintro _ w3 ⟨rfl, e3⟩
 have z3 := e3.size
 have E := E.trans e3
 replace O2 := O2.ext e3
 refine obs (fun c27 => ?_) (fun c27 => ?_)
 rotate_left
 ·
  refine oz_ (xnot rfl) rfl rfl ?_
  refine oz_ (xpick_f rfl rfl) rfl rfl ?_
  refine vm_ rfl rfl rfl ?_
  refine o2_ rfl rfl rfl rfl ?_
  refine o2_ rfl rfl rfl rfl ?_
  refine o2_ rfl rfl rfl rfl ?_
  refine oz_ (xpick_t rfl rfl) rfl rfl ?_
  refine ct_ rfl ?_
  refine sr_ ?_
  refine vn_ rfl rfl rfl ?_
  refine run_ret Tryz.func67 (res1 rfl rfl) ?_
  exact ⟨_, rfl, by rw [form_f (k := i) (by omega) (by simp [formP, ← hn, c27])], E⟩
 refine oz_ (xnot rfl) rfl rfl ?_
 refine oz_ (xpick_f rfl rfl) rfl rfl ?_
 refine vm_ rfl rfl rfl ?_
 refine oz_ (xfieldAddr fo99f2 rfl) rfl rfl ?_
 refine oz_ (v := .int .i64 xs[i].No) (xload1 Tryz.isAgg2 rfl (O2.cells) rfl) rfl rfl ?_
 refine vm_ rfl rfl rfl ?_
 refine vm_ rfl rfl rfl ?_
 refine oc (xcall Tryz.call108 rfl) rfl rfl rfl (l26Next_ok _ i n _ (by omega) (by omega)) ?_
 rintro _ w4 ⟨rfl, e4⟩
 have z4 := e4.size
 have E := E.trans e4
 replace O2 := O2.ext e4
 refine obs (fun c35 => ?_) (fun c35 => ?_)
 rotate_left
 ·
  refine oz_ (xnot rfl) rfl rfl ?_
  refine oz_ (xpick_f rfl rfl) rfl rfl ?_
  refine ct_ rfl ?_
  refine sr_ ?_
  refine vn_ rfl rfl rfl ?_
  refine run_ret Tryz.func67 (res1 rfl rfl) ?_
  exact ⟨_, rfl, by rw [form_f (k := i) (by omega) (by simp [formP, ← hn, c35])], E⟩
 refine oz_ (xnot rfl) rfl rfl ?_
 refine oz_ (xpick_f rfl rfl) rfl rfl ?_
 refine cf_ rfl ?_
 refine sr_ ?_
 refine vn_ rfl rfl rfl ?_
 refine run_block ?_
 refine run_loop (ι := Nat × World) (fun x_ => match x_ with | (k, wr2) => (Ext w wr2) ∧ (Own wr2 b1 ([.string xs[i].Label, .int .i64 xs[i].Yes, .int .i64 xs[i].No]) 99) ∧ (w4.heap.size ≤ wr2.heap.size) ∧ (k ≤ i) ∧ (∀ j (hj : j < xs.length), j < k → xs[j].Label ≠ xs[i].Label)) (fun x_ => match x_ with | (k, wr2) => [(0, .slice p n c), (3, .int .i64 (n : Int)), (4, .int .i64 (i : Int)), (5, .pointer (some ⟨b1, 0, none⟩)), (6, .int .i64 (k : Int))]) (fun x_ => match x_ with | (k, wr2) => wr2) (fun x_ => match x_ with | (k, wr2) => i - k) ?_ (0, w4) (⟨E, O2, Nat.le_refl _, by omega, fun j hj h => absurd h (Nat.not_lt_zero j)⟩) ⟨rfl, rfl, rfl, rfl, rfl, trivial⟩ rfl
 intro i_ hI_ hback9
 obtain ⟨k, wr2⟩ := i_
 obtain ⟨E, O_b1, lz_wr2, hk, hb⟩ := hI_
 try dsimp only
 have zr := E.size
 have lt_b1 := O_b1.lt
 refine run_seq ?_
 refine sr_ ?_
 refine vm_ rfl rfl rfl ?_
 refine vm_ rfl rfl rfl ?_
 refine oz_ (xlss rfl rfl _ rfl) rfl rfl ?_
 refine ods (fun c40 => ?_) (fun c40 => ?_)
 rotate_left
 ·
  refine cg_ rfl ?_
  refine run_exit rfl ?_
  refine run_inBlock ?_
  refine run_region ?_
  refine vm_ rfl rfl rfl ?_
  refine oz_ (xadd rfl rfl (by unfold I64; omega)) rfl rfl ?_
  refine vn_ rfl rfl rfl ?_
  refine run_sub ?_ (hback3 (i + 1, wr2) (⟨E, by omega, by omega, allB_succ ha (by rw [allI_of (by omega), formP, c20, no_take (q := xs[i]) (fun j hj h => hb j hj (by omega))]; simp [← hn, c27, c35])⟩) (by first | omega | (dsimp only; omega)))
  exact ⟨rfl, rfl, rfl, trivial⟩
 refine ct_ rfl ?_
 refine run_skip ?_
 refine run_seq ?_
 refine run_block ?_
 refine run_seq ?_
 refine run_draw (by kernel_rfl) (by kernel_rfl) ?_
 refine qv (fun w' x_ => xmove rfl) rfl rfl rfl ?_
 refine qv (fun w' x_ => xmove rfl) rfl rfl rfl ?_
 have h45 := (H.ext E).at (i := k) (by omega)
 refine qv (fun w' x_ => xindexN (i := k) Tryz.underlying35 Tryz.sizeOf99 rfl rfl rfl ((H.ext E).p (i := k) (by omega)) (by have := (H.ext E).len; omega)) rfl rfl rfl ?_
 refine qv (fun w' x_ => xfieldAddr fo99f0 rfl) rfl rfl rfl ?_
 refine qv (v := .string xs[k].Label) (fun w' x_ => xload1 Tryz.isAgg9 rfl ((h45).ext x_) rfl) rfl rfl rfl ?_
 refine qv (fun w' x_ => xfieldAddr fo99f0 rfl) rfl rfl rfl ?_
 refine qv (v := .string xs[i].Label) (fun w' x_ => xload1 Tryz.isAgg9 rfl ((O_b1.cells).ext x_) rfl) rfl rfl rfl ?_
 refine qv (fun w' x_ => xseql rfl rfl _ rfl) rfl rfl rfl ?_
 refine qds (fun c50 => ?_) (fun c50 => ?_)
 ·
  refine q_nil ?_
  intro w5 e5
  have z5 := e5.size
  have E := E.trans e5
  refine run_cond_t rfl ?_
  refine sr_ ?_
  refine vn_ rfl rfl rfl ?_
  refine run_ret Tryz.func67 (res1 rfl rfl) ?_
  exact ⟨_, rfl, by rw [form_f (k := i) (by omega) (by rw [formP, any_take (k := k) (by omega) (by omega) (by assumption)]; simp)], E⟩
 refine q_nil ?_
 intro w5 e5
 have z5 := e5.size
 have E := E.trans e5
 replace O_b1 := O_b1.ext e5
 refine run_cond_f rfl ?_
 refine run_skip ?_
 refine run_inBlock ?_
 refine run_region ?_
 refine vm_ rfl rfl rfl ?_
 refine oz_ (xadd rfl rfl (by unfold I64; omega)) rfl rfl ?_
 refine vn_ rfl rfl rfl ?_
 refine run_sub ?_ (hback9 (k + 1, w5) (⟨E, O_b1, by omega, by omega, below_succ (q := fun x : Question => x.Label ≠ xs[i].Label) hb (fun _ => by assumption)⟩) (by first | omega | (dsimp only; omega)))
 exact ⟨rfl, rfl, rfl, rfl, rfl, trivial⟩
end Go.Proofs.YtchblgaklknkcaaGreat
