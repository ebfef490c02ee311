/-
  Ties: the walks. No condition beyond those written in each theorem.
-/
import Derived.Test.YtchblgaklknkcaaGreatPan12c
namespace Go.Proofs.YtchblgaklknkcaaGreat
open Go.RowKit
set_option linter.unusedVariables false
set_option linter.unusedSimpArgs false
set_option linter.unusedSectionVars false
set_option maxRecDepth 4000
def Tie.cells (t : Tie) : List Value := [.int .i64 t.Number, .string t.Party, .int .i64 t.Kind, .bool t.Fair]
theorem take_any_f {α : Type} {f : α → Bool} {xs : List α} {k : Nat} (h : ∀ j (hj : j < xs.length), j < k → f xs[j] = false) : (xs.take k).any f = false := by
 rw [List.any_eq_false]; intro x hx
 obtain ⟨j, hj, rfl⟩ := List.mem_take_iff_getElem.1 hx
 rw [h j (by omega) (by omega)]; simp
theorem take_any_t {α : Type} {f : α → Bool} {xs : List α} {k j : Nat} (hj : j < xs.length) (hk : j < k) (h : f xs[j] = true) : (xs.take k).any f = true :=
  List.any_eq_true.2 ⟨_, List.mem_take_iff_getElem.2 ⟨j, by omega, rfl⟩, h⟩
theorem same_f1 {a b : Tie} (h : ¬ a.Number = b.Number) : sameTie a b = false := by simp [sameTie, h]
theorem same_f2 {a b : Tie} (h : ¬ a.Party = b.Party) : sameTie a b = false := by simp [sameTie, h]
theorem same_f3 {a b : Tie} (h : ¬ a.Kind = b.Kind) : sameTie a b = false := by simp [sameTie, h]
theorem same_t {a b : Tie} (h : a.Number = b.Number) (h2 : a.Party = b.Party) (h3 : a.Kind = b.Kind) : sameTie a b = true := by simp [sameTie, h, h2, h3]
theorem tie_t {ts : List Tie} {k : Nat} {t : Tie} (h1 : inR 1 1000000 t.Number = true) (h2 : isWord t.Party = true) (h3 : inR 0 3 t.Kind = true) (h4 : (ts.take k).any (sameTie t) = false) : tieP ts k t = true := by rw [tieP, h1, h2, h3, h4]; rfl
theorem tie_f {ts : List Tie} {k : Nat} (hk : k < ts.length) (h : tieP ts k ts[k] = false) : areTies ts = false := by rw [areTies, allB_false hk (by rw [allI_of hk]; exact h)]; rfl
theorem tie_f1 {ts : List Tie} {k : Nat} {t : Tie} (h1 : inR 1 1000000 t.Number = false) : tieP ts k t = false := by rw [tieP, h1]; rfl
theorem tie_f2 {ts : List Tie} {k : Nat} {t : Tie} (h1 : isWord t.Party = false) : tieP ts k t = false := by rw [tieP, h1]; simp
theorem tie_f3 {ts : List Tie} {k : Nat} {t : Tie} (h1 : inR 0 3 t.Kind = false) : tieP ts k t = false := by rw [tieP, h1]; simp
theorem tie_f4 {ts : List Tie} {k : Nat} {t : Tie} (h1 : (ts.take k).any (sameTie t) = true) : tieP ts k t = false := by rw [tieP, h1]; simp
theorem biasB_step {ts : List Tie} {ps : List ByteArray} {n : Int} {k : Nat} (h : k < ts.length) : biasB (ts.take (k + 1)) ps n = (biasB (ts.take k) ps n || (decide (ts[k].Number = n) && causeB ts[k] ps)) := by
 rw [List.take_succ_eq_append_getElem h, biasB, List.any_append]; simp [biasB]
theorem bad_t {b : Int → Bool} {x : Int} (h : x ≠ 0) (h2 : b x = true) : bad b x = true := by simp [bad, h, h2]
theorem bad_f1 {b : Int → Bool} {x : Int} (h : ¬ x ≠ 0) : bad b x = false := by simp [bad, h]
theorem bad_f2 {b : Int → Bool} {x : Int} (h : b x = false) : bad b x = false := by simp [bad, h]
def caseCode (ts : List Tie) (ps : List ByteArray) : Int := if areCase ts ps = true then 0 else 1
def panCode (x : Pan) (ts : List Tie) (ps : List ByteArray) : Int := if isPan x = false then 1 else caseCode ts ps
theorem empty_ne {y : Pan} {b : Int → Bool} {k : Nat} (hk : k < y.S.length) (h : bad b y.S[k] = true) : atI y.S k ≠ 0 := by
 simp only [bad, Bool.and_eq_true, decide_eq_true_eq] at h; rw [atI_of hk]; exact h.1
attribute [local irreducible] areTies causeB biasB clr clearP emptyP isPan meas
set_option maxHeartbeats 400000 in
theorem hasS_ok (p : Option Addr) (n c : Nat) (xs : List ByteArray) (x : ByteArray) (w : World) (H : Sl strc 1 w p n c xs) : Ret Tryz.prog 165 [.slice p n c, .string x] w (Pv w (.bool (hasS xs x))) := by
 refine ret_of_run (N := 17) Tryz.func165 rfl rfl rfl ?_
 have hn := H.len
 have hn6 := H.n64
 have E : Ext w w := Ext.refl w
 refine sr_ ?_
 refine vn_ rfl rfl rfl ?_
 refine run_seq ?_
 refine sr_ ?_
 refine vm_ rfl rfl rfl ?_
 refine oz_ (xlen Tryz.underlying28 rfl) rfl rfl ?_
 refine vm_ rfl rfl rfl ?_
 refine ops_nil ?_
 refine run_block ?_
 refine run_loop (ι := Nat × World) (fun x_ => match x_ with | (k, wr) => (Ext w wr) ∧ (w.heap.size ≤ wr.heap.size) ∧ (k ≤ n) ∧ (∀ j (hj : j < xs.length), j < k → xs[j] ≠ x)) (fun x_ => match x_ with | (k, wr) => [(1, .string x), (7, .slice p n c), (8, .int .i64 (n : Int)), (9, .int .i64 (k : Int))]) (fun x_ => match x_ with | (k, wr) => wr) (fun x_ => match x_ with | (k, wr) => n - k) ?_ (0, w) (⟨E, Nat.le_refl _, by omega, fun j hj h => absurd h (Nat.not_lt_zero j)⟩) ⟨rfl, rfl, rfl, rfl, trivial⟩ rfl
 intro i_ hI_ hback2
 obtain ⟨k, wr⟩ := i_
 obtain ⟨E, lz_wr, hk, ha⟩ := hI_
 try dsimp only
 have zr := E.size
 refine sr_ ?_
 refine oz_ (xlss rfl rfl _ rfl) rfl rfl ?_
 refine ods (fun c10 => ?_) (fun c10 => ?_)
 rotate_left
 ·
  refine ops_nil ?_
  refine run_seq ?_
  refine run_cond_f rfl ?_
  refine run_exit rfl ?_
  refine sr_ ?_
  refine vn_ rfl rfl rfl ?_
  refine run_ret Tryz.func165 (res1 rfl rfl) ?_
  exact ⟨_, rfl, by rw [hasS_f ha (by omega)], E⟩
 refine ops_nil ?_
 refine run_seq ?_
 refine run_cond_t rfl ?_
 refine run_skip ?_
 refine run_seq ?_
 refine run_block ?_
 refine sr_ ?_
 have h11 := (H.ext E).at (i := k) (by omega)
 refine oz_ (xindexN (i := k) Tryz.underlying28 Tryz.sizeOf9 rfl rfl rfl ((H.ext E).p (i := k) (by omega)) (by have := (H.ext E).len; omega)) rfl rfl ?_
 refine oz_ (v := .string xs[k]) (xloadz Tryz.isAgg9 rfl (h11) rfl) rfl rfl ?_
 refine vn_ rfl rfl rfl ?_
 refine sr_ ?_
 refine vm_ rfl rfl rfl ?_
 refine vm_ rfl rfl rfl ?_
 refine oz_ (xseql rfl rfl _ rfl) rfl rfl ?_
 refine ods (fun c15 => ?_) (fun c15 => ?_)
 ·
  refine ct_ rfl ?_
  refine sr_ ?_
  refine vn_ rfl rfl rfl ?_
  refine run_ret Tryz.func165 (res1 rfl rfl) ?_
  exact ⟨_, rfl, by rw [hasS_t (k := k) (by omega) c15.symm], E⟩
 refine cf_ rfl ?_
 refine run_inBlock ?_
 refine run_region ?_
 refine oz_ (xadd rfl rfl (by unfold I64; omega)) rfl rfl ?_
 refine vm_ rfl rfl rfl ?_
 refine ops_nil ?_
 refine run_sub ?_ (hback2 (k + 1, wr) (⟨E, by omega, by omega, below_succ (q := fun y => y ≠ x) ha (fun _ => fun h => c15 h.symm)⟩) (by first | omega | (dsimp only; omega)))
 exact ⟨rfl, rfl, rfl, rfl, trivial⟩
set_option maxHeartbeats 400000 in
theorem l13Word_ok (p : Option Addr) (n c : Nat) (xs : List ByteArray) (x : ByteArray) (w : World) (H : Sl strc 1 w p n c xs) : Ret Tryz.prog 166 [.slice p n c, .string x] w (Pv w (.bool (hasS xs x))) := by
 refine ret_of_run (N := 18) Tryz.func166 rfl rfl rfl ?_
 have hn := H.len
 have hn6 := H.n64
 have E : Ext w w := Ext.refl w
 refine sr_ ?_
 refine vn_ rfl rfl rfl ?_
 refine run_seq ?_
 refine sr_ ?_
 refine vn_ rfl rfl rfl ?_
 refine run_block ?_
 refine run_loop (ι := Nat × World) (fun x_ => match x_ with | (k, wr) => (Ext w wr) ∧ (w.heap.size ≤ wr.heap.size) ∧ (k ≤ n) ∧ (∀ j (hj : j < xs.length), j < k → xs[j] ≠ x)) (fun x_ => match x_ with | (k, wr) => [(0, .slice p n c), (1, .string x), (5, .int .i64 (k : Int))]) (fun x_ => match x_ with | (k, wr) => wr) (fun x_ => match x_ with | (k, wr) => n - k) ?_ (0, w) (⟨E, Nat.le_refl _, by omega, fun j hj h => absurd h (Nat.not_lt_zero j)⟩) ⟨rfl, rfl, rfl, trivial⟩ rfl
 intro i_ hI_ hback2
 obtain ⟨k, wr⟩ := i_
 obtain ⟨E, lz_wr, hk, ha⟩ := hI_
 try dsimp only
 have zr := E.size
 refine run_seq ?_
 refine sr_ ?_
 refine vm_ rfl rfl rfl ?_
 refine vm_ rfl rfl rfl ?_
 refine oz_ (xlen Tryz.underlying28 rfl) rfl rfl ?_
 refine oz_ (xlss rfl rfl _ rfl) rfl rfl ?_
 refine ods (fun c9 => ?_) (fun c9 => ?_)
 rotate_left
 ·
  refine cg_ rfl ?_
  refine run_exit rfl ?_
  refine sr_ ?_
  refine vn_ rfl rfl rfl ?_
  refine run_ret Tryz.func166 (res1 rfl rfl) ?_
  exact ⟨_, rfl, by rw [hasS_f ha (by omega)], E⟩
 refine ct_ rfl ?_
 refine run_skip ?_
 refine run_seq ?_
 refine run_block ?_
 refine sr_ ?_
 refine vm_ rfl rfl rfl ?_
 refine vm_ rfl rfl rfl ?_
 have h14 := (H.ext E).at (i := k) (by omega)
 refine oz_ (xindexN (i := k) Tryz.underlying28 Tryz.sizeOf9 rfl rfl rfl ((H.ext E).p (i := k) (by omega)) (by have := (H.ext E).len; omega)) rfl rfl ?_
 refine oz_ (v := .string xs[k]) (xloadz Tryz.isAgg9 rfl (h14) rfl) rfl rfl ?_
 refine vm_ rfl rfl rfl ?_
 refine oz_ (xseql rfl rfl _ rfl) rfl rfl ?_
 refine ods (fun c17 => ?_) (fun c17 => ?_)
 ·
  refine ct_ rfl ?_
  refine sr_ ?_
  refine vn_ rfl rfl rfl ?_
  refine run_ret Tryz.func166 (res1 rfl rfl) ?_
  exact ⟨_, rfl, by rw [hasS_t (k := k) (by omega) c17], E⟩
 refine cf_ rfl ?_
 refine run_inBlock ?_
 refine run_region ?_
 refine vm_ rfl rfl rfl ?_
 refine oz_ (xadd rfl rfl (by unfold I64; omega)) rfl rfl ?_
 refine vn_ rfl rfl rfl ?_
 refine run_sub ?_ (hback2 (k + 1, wr) (⟨E, by omega, by omega, below_succ (q := fun y => y ≠ x) ha (fun _ => c17)⟩) (by first | omega | (dsimp only; omega)))
 exact ⟨rfl, rfl, rfl, trivial⟩
set_option maxHeartbeats 2000000 in
theorem AreTies_ok (u4 : Option Addr) (n4 v4 : Nat) (ts : List Tie) (w : World) (H4 : Sl Tie.cells 4 w u4 n4 v4 ts) (hx4 : ∀ t ∈ ts, t.Party.size ≤ 9223372036854775807) : Ret Tryz.prog 92 [.slice u4 n4 v4] w (Pv w (.bool (areTies ts))) := by
 refine ret_of_run (N := 62) Tryz.func92 rfl rfl rfl ?_
 have hn4 := H4.len
 have hn46 := H4.n64
 have E : Ext w w := Ext.refl w
 refine sr_ ?_
 refine vn_ rfl rfl rfl ?_
 refine run_seq ?_
 refine sr_ ?_
 refine vm_ rfl rfl rfl ?_
 refine oz_ (xlen Tryz.underlying27 rfl) rfl rfl ?_
 refine vm_ rfl rfl rfl ?_
 refine ops_nil ?_
 refine run_block ?_
 refine run_loop (ι := Nat × World) (fun x_ => match x_ with | (k, wr) => (Ext w wr) ∧ (w.heap.size ≤ wr.heap.size) ∧ (k ≤ n4) ∧ (allB k (allI (tieP ts) ts) = true)) (fun x_ => match x_ with | (k, wr) => [(0, .slice u4 n4 v4), (7, .slice u4 n4 v4), (8, .int .i64 (n4 : Int)), (9, .int .i64 (k : Int))]) (fun x_ => match x_ with | (k, wr) => wr) (fun x_ => match x_ with | (k, wr) => n4 - k) ?_ (0, w) (⟨E, Nat.le_refl _, by omega, allB_zero⟩) ⟨rfl, rfl, rfl, rfl, trivial⟩ rfl
 intro i_ hI_ hback2
 obtain ⟨k, wr⟩ := i_
 obtain ⟨E, lz_wr, hk, ha⟩ := hI_
 try dsimp only
 have zr := E.size
 have hxk := fun h : k < ts.length => hx4 ts[k] (List.getElem_mem h)
 refine sr_ ?_
 refine oz_ (xlss rfl rfl _ rfl) rfl rfl ?_
 refine ods (fun c10 => ?_) (fun c10 => ?_)
 rotate_left
 ·
  refine ops_nil ?_
  refine run_seq ?_
  refine run_cond_f rfl ?_
  refine run_exit rfl ?_
  refine sr_ ?_
  refine vm_ rfl rfl rfl ?_
  refine oz_ (xlen Tryz.underlying27 rfl) rfl rfl ?_
  refine oc (xcall Tryz.call43 rfl) rfl rfl rfl (few_ok ((n4 : Int)) (20) _) ?_
  rintro _ w_ ⟨rfl, hw_⟩
  replace hw_ := hw_.symm
  subst hw_
  refine vn_ rfl rfl rfl ?_
  refine run_ret Tryz.func92 (res1 rfl rfl) ?_
  have hkn : k = n4 := by omega
  exact ⟨_, rfl, by rw [areTies, ← hn4, ← hkn, ha, Bool.true_and, hkn]; exact congrArg Value.bool (decide_eq_decide.2 (by omega)), E⟩
 replace hxk := hxk (by omega)
 refine ops_nil ?_
 refine run_seq ?_
 refine run_cond_t rfl ?_
 refine run_skip ?_
 refine run_seq ?_
 refine run_block ?_
 refine sr_ ?_
 refine vm_ rfl rfl rfl ?_
 have h12 := (H4.ext E).at (i := k) (by omega)
 refine oz_ (xindexN (i := k) Tryz.underlying27 Tryz.sizeOf110 rfl rfl rfl ((H4.ext E).p (i := k) (by omega)) (by have := (H4.ext E).len; omega)) rfl rfl ?_
 refine oz_ (v := .agg #[.int .i64 ts[k].Number, .string ts[k].Party, .int .i64 ts[k].Kind, .bool ts[k].Fair]) (xloadN Tryz.isAgg110 Tryz.sizeOf110 rfl (h12) rfl) rfl rfl ?_
 refine oalloc Tryz.zeroValue110 rfl rfl ?_
 intro b1 w1 e1 hb1 hz1 O1
 have E := E.trans e1
 replace O1 : Own w1 b1 [.int .i64 0, .string ⟨#[]⟩, .int .i64 0, .bool false] 110 := O1
 refine va_ rfl rfl rfl ?_
 refine ostoreN (vs := _) Tryz.sizeOf110 rfl rfl O1 rfl (by simp) (by simp [Value.oneCell']) rfl ?_
 intro w2 on2 O2
 have hz2 := on2.size
 have E := on2.ext E (by omega)
 replace O2 : Own w2 b1 [.int .i64 ts[k].Number, .string ts[k].Party, .int .i64 ts[k].Kind, .bool ts[k].Fair] 110 := O2
 refine ops_nil ?_
 refine run_seq ?_
 refine sr_ ?_
 refine oz_ (xfieldAddr fo110f0 rfl) rfl rfl ?_
 refine oz_ (v := .int .i64 ts[k].Number) (xload1 Tryz.isAgg2 rfl (O2.cells) rfl) rfl rfl ?_
 refine oc (xcall Tryz.call86 rfl) rfl rfl rfl (isNumber_ok (ts[k].Number) _) ?_
 rintro _ w_ ⟨rfl, hw_⟩
 replace hw_ := hw_.symm
 subst hw_
 refine obs (fun c16 => ?_) (fun c16 => ?_)
 rotate_left
 ·
  refine oz_ (xnot rfl) rfl rfl ?_
  refine vm_ rfl rfl rfl ?_
  refine o2_ rfl rfl rfl rfl ?_
  refine o2_ rfl rfl rfl rfl ?_
  refine oz_ (xpick_t rfl rfl) rfl rfl ?_
  refine vm_ rfl rfl rfl ?_
  refine o2_ rfl rfl rfl rfl ?_
  refine o2_ rfl rfl rfl rfl ?_
  refine oz_ (xpick_t rfl rfl) rfl rfl ?_
  refine ct_ rfl ?_
  refine sr_ ?_
  refine vn_ rfl rfl rfl ?_
  refine run_ret Tryz.func92 (res1 rfl rfl) ?_
  exact ⟨_, rfl, by rw [tie_f (k := k) (by omega) (tie_f1 c16)], E⟩
 refine oz_ (xnot rfl) rfl rfl ?_
 refine vm_ rfl rfl rfl ?_
 refine oz_ (xfieldAddr fo110f1 rfl) rfl rfl ?_
 refine oz_ (v := .string ts[k].Party) (xload1 Tryz.isAgg9 rfl (O2.cells) rfl) rfl rfl ?_
 refine oc (xcall Tryz.call73 rfl) rfl rfl rfl (IsWord_ok (ts[k].Party) _ (by first | assumption | omega)) ?_
 rintro _ w_ ⟨rfl, hw_⟩
 replace hw_ := hw_.symm
 subst hw_
 refine obs (fun c21 => ?_) (fun c21 => ?_)
 rotate_left
 ·
  refine oz_ (xnot rfl) rfl rfl ?_
  refine oz_ (xpick_f rfl rfl) rfl rfl ?_
  refine vm_ rfl rfl rfl ?_
  refine o2_ rfl rfl rfl rfl ?_
  refine o2_ rfl rfl rfl rfl ?_
  refine oz_ (xpick_t rfl rfl) rfl rfl ?_
  refine ct_ rfl ?_
  refine sr_ ?_
  refine vn_ rfl rfl rfl ?_
  refine run_ret Tryz.func92 (res1 rfl rfl) ?_
  exact ⟨_, rfl, by rw [tie_f (k := k) (by omega) (tie_f2 c21)], E⟩
 refine oz_ (xnot rfl) rfl rfl ?_
 refine oz_ (xpick_f rfl rfl) rfl rfl ?_
 refine vm_ rfl rfl rfl ?_
 refine oz_ (xfieldAddr fo110f2 rfl) rfl rfl ?_
 refine oz_ (v := .int .i64 ts[k].Kind) (xload1 Tryz.isAgg2 rfl (O2.cells) rfl) rfl rfl ?_
 refine oc (xcall Tryz.call65 rfl) rfl rfl rfl (within_ok (ts[k].Kind) (0) (3) _) ?_
 rintro _ w_ ⟨rfl, hw_⟩
 replace hw_ := hw_.symm
 subst hw_
 refine obs (fun c27 => ?_) (fun c27 => ?_)
 rotate_left
 ·
  refine oz_ (xnot rfl) rfl rfl ?_
  refine oz_ (xpick_f rfl rfl) rfl rfl ?_
  refine ct_ rfl ?_
  refine sr_ ?_
  refine vn_ rfl rfl rfl ?_
  refine run_ret Tryz.func92 (res1 rfl rfl) ?_
  exact ⟨_, rfl, by rw [tie_f (k := k) (by omega) (tie_f3 c27)], E⟩
 refine oz_ (xnot rfl) rfl rfl ?_
 refine oz_ (xpick_f rfl rfl) rfl rfl ?_
 refine cf_ rfl ?_
 refine sr_ ?_
 refine vm_ rfl rfl rfl ?_
 refine vm_ rfl rfl rfl ?_
 refine oz_ (xslice_h (k := k) Tryz.underlying27 Tryz.sizeOf110 rfl rfl rfl (by have := (H4.ext E).cap; omega)) rfl rfl ?_
 refine oz_ (xlen Tryz.underlying27 rfl) rfl rfl ?_
 refine vm_ rfl rfl rfl ?_
 refine ops_nil ?_
 refine run_block ?_
 refine run_loop (ι := Nat × World) (fun x_ => match x_ with | (j, wr2) => (Ext w wr2) ∧ (Own wr2 b1 ([.int .i64 ts[k].Number, .string ts[k].Party, .int .i64 ts[k].Kind, .bool ts[k].Fair]) 110) ∧ (w2.heap.size ≤ wr2.heap.size) ∧ (j ≤ k) ∧ (∀ i (hi : i < ts.length), i < j → sameTie ts[k] ts[i] = false)) (fun x_ => match x_ with | (j, wr2) => [(0, .slice u4 n4 v4), (4, .pointer (some ⟨b1, 0, none⟩)), (7, .slice u4 n4 v4), (8, .int .i64 (n4 : Int)), (9, .int .i64 (k : Int)), (32, .slice u4 k v4), (33, .int .i64 (k : Int)), (34, .int .i64 (j : Int))]) (fun x_ => match x_ with | (j, wr2) => wr2) (fun x_ => match x_ with | (j, wr2) => k - j) ?_ (0, w2) (⟨E, O2, Nat.le_refl _, by omega, fun i hi h => absurd h (Nat.not_lt_zero i)⟩) ⟨rfl, rfl, rfl, rfl, rfl, rfl, rfl, rfl, trivial⟩ rfl
 intro i_ hI_ hback7
 obtain ⟨j, wr2⟩ := i_
 obtain ⟨E, O_b1, lz_wr2, hj, ha2⟩ := hI_
 try dsimp only
 have zr := E.size
 have lt_b1 := O_b1.lt
 refine sr_ ?_
 refine oz_ (xlss rfl rfl _ rfl) rfl rfl ?_
 refine ods (fun c35 => ?_) (fun c35 => ?_)
 rotate_left
 ·
  refine ops_nil ?_
  refine run_seq ?_
  refine run_cond_f rfl ?_
  refine run_exit rfl ?_
  refine run_inBlock ?_
  refine run_region ?_
  refine oz_ (xadd rfl rfl (by unfold I64; omega)) rfl rfl ?_
  refine vm_ rfl rfl rfl ?_
  refine ops_nil ?_
  refine run_sub ?_ (hback2 (k + 1, wr2) (⟨E, by omega, by omega, allB_succ ha (by rw [allI_of (by omega)]; exact tie_t c16 c21 c27 (take_any_f fun j2 hj2 h2 => ha2 j2 hj2 (by omega)))⟩) (by first | omega | (dsimp only; omega)))
  exact ⟨rfl, rfl, rfl, rfl, trivial⟩
 refine ops_nil ?_
 refine run_seq ?_
 refine run_cond_t rfl ?_
 refine run_skip ?_
 refine run_seq ?_
 refine run_block ?_
 refine sr_ ?_
 have h36 := ((H4.ext E)).at (i := j) (by omega)
 refine oz_ (xindexN (i := j) Tryz.underlying27 Tryz.sizeOf110 rfl rfl rfl (((H4.ext E)).p (i := j) (by omega)) (by have := ((H4.ext E)).len; omega)) rfl rfl ?_
 refine oz_ (v := .agg #[.int .i64 ts[j].Number, .string ts[j].Party, .int .i64 ts[j].Kind, .bool ts[j].Fair]) (xloadN Tryz.isAgg110 Tryz.sizeOf110 rfl (h36) rfl) rfl rfl ?_
 refine oalloc Tryz.zeroValue110 rfl rfl ?_
 intro b3 w3 e3 hb3 hz3 O3
 have E := E.trans e3
 replace O_b1 := O_b1.ext e3
 replace O3 : Own w3 b3 [.int .i64 0, .string ⟨#[]⟩, .int .i64 0, .bool false] 110 := O3
 refine ostoreN (vs := _) Tryz.sizeOf110 rfl rfl O3 rfl (by simp) (by simp [Value.oneCell']) rfl ?_
 intro w4 on4 O4
 have hz4 := on4.size
 have E := on4.ext E (by omega)
 replace O_b1 := on4.own O_b1 (by omega)
 replace O4 : Own w4 b3 [.int .i64 ts[j].Number, .string ts[j].Party, .int .i64 ts[j].Kind, .bool ts[j].Fair] 110 := O4
 refine ops_nil ?_
 refine sr_ ?_
 refine oz_ (xfieldAddr fo110f0 rfl) rfl rfl ?_
 refine oz_ (v := .int .i64 ts[k].Number) (xload1 Tryz.isAgg2 rfl (O_b1.cells) rfl) rfl rfl ?_
 refine oz_ (xfieldAddr fo110f0 rfl) rfl rfl ?_
 refine oz_ (v := .int .i64 ts[j].Number) (xload1 Tryz.isAgg2 rfl (O4.cells) rfl) rfl rfl ?_
 refine oz_ (xeql rfl rfl _ rfl) rfl rfl ?_
 refine ods (fun c42 => ?_) (fun c42 => ?_)
 rotate_left
 ·
  refine vm_ rfl rfl rfl ?_
  refine o2_ rfl rfl rfl rfl ?_
  refine o2_ rfl rfl rfl rfl ?_
  refine og rfl rfl rfl ?_
  refine oz_ (xpick_f rfl rfl) rfl rfl ?_
  refine vm_ rfl rfl rfl ?_
  refine o2_ rfl rfl rfl rfl ?_
  refine o2_ rfl rfl rfl rfl ?_
  refine og rfl rfl rfl ?_
  refine oz_ (xpick_f rfl rfl) rfl rfl ?_
  refine cf_ rfl ?_
  refine run_inBlock ?_
  refine run_region ?_
  refine oz_ (xadd rfl rfl (by unfold I64; omega)) rfl rfl ?_
  refine vm_ rfl rfl rfl ?_
  refine ops_nil ?_
  refine run_sub ?_ (hback7 (j + 1, w4) (⟨E, O_b1, by omega, by omega, below_succ (q := fun y => sameTie ts[k] y = false) ha2 (fun _ => same_f1 c42)⟩) (by first | omega | (dsimp only; omega)))
  exact ⟨rfl, rfl, rfl, rfl, rfl, rfl, rfl, rfl, trivial⟩
 refine vm_ rfl rfl rfl ?_
 refine oz_ (xfieldAddr fo110f1 rfl) rfl rfl ?_
 refine oz_ (v := .string ts[k].Party) (xload1 Tryz.isAgg9 rfl (O_b1.cells) rfl) rfl rfl ?_
 refine oz_ (xfieldAddr fo110f1 rfl) rfl rfl ?_
 refine oz_ (v := .string ts[j].Party) (xload1 Tryz.isAgg9 rfl (O4.cells) rfl) rfl rfl ?_
 refine oz_ (xseql rfl rfl _ rfl) rfl rfl ?_
 refine ods (fun c48 => ?_) (fun c48 => ?_)
 rotate_left
 ·
  refine oz_ (xpick_t rfl rfl) rfl rfl ?_
  refine vm_ rfl rfl rfl ?_
  refine o2_ rfl rfl rfl rfl ?_
  refine o2_ rfl rfl rfl rfl ?_
  refine og rfl rfl rfl ?_
  refine oz_ (xpick_f rfl rfl) rfl rfl ?_
  refine cf_ rfl ?_
  refine run_inBlock ?_
  refine run_region ?_
  refine oz_ (xadd rfl rfl (by unfold I64; omega)) rfl rfl ?_
  refine vm_ rfl rfl rfl ?_
  refine ops_nil ?_
  refine run_sub ?_ (hback7 (j + 1, w4) (⟨E, O_b1, by omega, by omega, below_succ (q := fun y => sameTie ts[k] y = false) ha2 (fun _ => same_f2 c48)⟩) (by first | omega | (dsimp only; omega)))
  exact ⟨rfl, rfl, rfl, rfl, rfl, rfl, rfl, rfl, trivial⟩
 refine oz_ (xpick_t rfl rfl) rfl rfl ?_
 refine vm_ rfl rfl rfl ?_
 refine oz_ (xfieldAddr fo110f2 rfl) rfl rfl ?_
 refine oz_ (v := .int .i64 ts[k].Kind) (xload1 Tryz.isAgg2 rfl (O_b1.cells) rfl) rfl rfl ?_
 refine oz_ (xfieldAddr fo110f2 rfl) rfl rfl ?_
 refine oz_ (v := .int .i64 ts[j].Kind) (xload1 Tryz.isAgg2 rfl (O4.cells) rfl) rfl rfl ?_
 refine oz_ (xeql rfl rfl _ rfl) rfl rfl ?_
 refine ods (fun c55 => ?_) (fun c55 => ?_)
 ·
  refine oz_ (xpick_t rfl rfl) rfl rfl ?_
  refine ct_ rfl ?_
  refine sr_ ?_
  refine vn_ rfl rfl rfl ?_
  refine run_ret Tryz.func92 (res1 rfl rfl) ?_
  exact ⟨_, rfl, by rw [tie_f (k := k) (by omega) (tie_f4 (take_any_t (j := j) (by omega) (by omega) (same_t c42 c48 c55)))], E⟩
 refine oz_ (xpick_t rfl rfl) rfl rfl ?_
 refine cf_ rfl ?_
 refine run_inBlock ?_
 refine run_region ?_
 refine oz_ (xadd rfl rfl (by unfold I64; omega)) rfl rfl ?_
 refine vm_ rfl rfl rfl ?_
 refine ops_nil ?_
 refine run_sub ?_ (hback7 (j + 1, w4) (⟨E, O_b1, by omega, by omega, below_succ (q := fun y => sameTie ts[k] y = false) ha2 (fun _ => same_f3 c55)⟩) (by first | omega | (dsimp only; omega)))
 exact ⟨rfl, rfl, rfl, rfl, rfl, rfl, rfl, rfl, trivial⟩
set_option maxHeartbeats 2000000 in
theorem sAreTies_ok (u4 : Option Addr) (n4 v4 : Nat) (ts : List Tie) (w : World) (H4 : Sl Tie.cells 4 w u4 n4 v4 ts) (hx4 : ∀ t ∈ ts, t.Party.size ≤ 9223372036854775807) : Ret Tryz.prog 90 [.slice u4 n4 v4] w (Pv w (.bool (areTies ts))) := by
 refine ret_of_run (N := 68) Tryz.func90 rfl rfl rfl ?_
 have hn4 := H4.len
 have hn46 := H4.n64
 have E : Ext w w := Ext.refl w
 refine sr_ ?_
 refine vn_ rfl rfl rfl ?_
 refine run_seq ?_
 refine sr_ ?_
 refine vn_ rfl rfl rfl ?_
 refine run_block ?_
 refine run_loop (ι := Nat × World) (fun x_ => match x_ with | (k, wr) => (Ext w wr) ∧ (w.heap.size ≤ wr.heap.size) ∧ (k ≤ n4) ∧ (allB k (allI (tieP ts) ts) = true)) (fun x_ => match x_ with | (k, wr) => [(0, .slice u4 n4 v4), (3, .int .i64 (k : Int))]) (fun x_ => match x_ with | (k, wr) => wr) (fun x_ => match x_ with | (k, wr) => n4 - k) ?_ (0, w) (⟨E, Nat.le_refl _, by omega, allB_zero⟩) ⟨rfl, rfl, trivial⟩ rfl
 intro i_ hI_ hback2
 obtain ⟨k, wr⟩ := i_
 obtain ⟨E, lz_wr, hk, ha⟩ := hI_
 try dsimp only
 have zr := E.size
 have hxk := fun h : k < ts.length => hx4 ts[k] (List.getElem_mem h)
 refine run_seq ?_
 refine sr_ ?_
 refine vm_ rfl rfl rfl ?_
 refine vm_ rfl rfl rfl ?_
 refine oz_ (xlen Tryz.underlying27 rfl) rfl rfl ?_
 refine oz_ (xlss rfl rfl _ rfl) rfl rfl ?_
 refine ods (fun c9 => ?_) (fun c9 => ?_)
 rotate_left
 ·
  refine cg_ rfl ?_
  refine run_exit rfl ?_
  refine sr_ ?_
  refine vm_ rfl rfl rfl ?_
  refine oz_ (xlen Tryz.underlying27 rfl) rfl rfl ?_
  refine oz_ (xleq rfl rfl _ rfl) rfl rfl ?_
  refine vn_ rfl rfl rfl ?_
  refine run_ret Tryz.func90 (res1 rfl rfl) ?_
  have hkn : k = n4 := by omega
  exact ⟨_, rfl, by rw [areTies, ← hn4, ← hkn, ha, Bool.true_and, hkn]; exact congrArg Value.bool (decide_eq_decide.2 (by omega)), E⟩
 replace hxk := hxk (by omega)
 refine ct_ rfl ?_
 refine run_skip ?_
 refine run_seq ?_
 refine run_block ?_
 refine sr_ ?_
 refine vm_ rfl rfl rfl ?_
 refine vm_ rfl rfl rfl ?_
 have h14 := (H4.ext E).at (i := k) (by omega)
 refine oz_ (xindexN (i := k) Tryz.underlying27 Tryz.sizeOf110 rfl rfl rfl ((H4.ext E).p (i := k) (by omega)) (by have := (H4.ext E).len; omega)) rfl rfl ?_
 refine oz_ (v := .agg #[.int .i64 ts[k].Number, .string ts[k].Party, .int .i64 ts[k].Kind, .bool ts[k].Fair]) (xloadN Tryz.isAgg110 Tryz.sizeOf110 rfl (h14) rfl) rfl rfl ?_
 refine oalloc Tryz.zeroValue110 rfl rfl ?_
 intro b1 w1 e1 hb1 hz1 O1
 have E := E.trans e1
 replace O1 : Own w1 b1 [.int .i64 0, .string ⟨#[]⟩, .int .i64 0, .bool false] 110 := O1
 refine ostoreN (vs := _) Tryz.sizeOf110 rfl rfl O1 rfl (by simp) (by simp [Value.oneCell']) rfl ?_
 intro w2 on2 O2
 have hz2 := on2.size
 have E := on2.ext E (by omega)
 replace O2 : Own w2 b1 [.int .i64 ts[k].Number, .string ts[k].Party, .int .i64 ts[k].Kind, .bool ts[k].Fair] 110 := O2
 refine ops_nil ?_
 refine run_seq ?_
 refine sr_ ?_
 refine oz_ (xfieldAddr fo110f0 rfl) rfl rfl ?_
 refine oz_ (v := .int .i64 ts[k].Number) (xload1 Tryz.isAgg2 rfl (O2.cells) rfl) rfl rfl ?_
 refine oc (xcall Tryz.call68 rfl) rfl rfl rfl (l01In_ok (ts[k].Number) (1) (1000000) _) ?_
 rintro _ w_ ⟨rfl, hw_⟩
 replace hw_ := hw_.symm
 subst hw_
 refine obs (fun c18 => ?_) (fun c18 => ?_)
 rotate_left
 ·
  refine oz_ (xnot rfl) rfl rfl ?_
  refine vm_ rfl rfl rfl ?_
  refine o2_ rfl rfl rfl rfl ?_
  refine o2_ rfl rfl rfl rfl ?_
  refine oz_ (xpick_t rfl rfl) rfl rfl ?_
  refine vm_ rfl rfl rfl ?_
  refine o2_ rfl rfl rfl rfl ?_
  refine o2_ rfl rfl rfl rfl ?_
  refine oz_ (xpick_t rfl rfl) rfl rfl ?_
  refine ct_ rfl ?_
  refine sr_ ?_
  refine vn_ rfl rfl rfl ?_
  refine run_ret Tryz.func90 (res1 rfl rfl) ?_
  exact ⟨_, rfl, by rw [tie_f (k := k) (by omega) (tie_f1 c18)], E⟩
 refine oz_ (xnot rfl) rfl rfl ?_
 refine vm_ rfl rfl rfl ?_
 refine oz_ (xfieldAddr fo110f1 rfl) rfl rfl ?_
 refine oz_ (v := .string ts[k].Party) (xload1 Tryz.isAgg9 rfl (O2.cells) rfl) rfl rfl ?_
 refine oc (xcall Tryz.call107 rfl) rfl rfl rfl (sIsWord_ok (ts[k].Party) _ (by first | assumption | omega)) ?_
 rintro _ w_ ⟨rfl, hw_⟩
 replace hw_ := hw_.symm
 subst hw_
 refine obs (fun c23 => ?_) (fun c23 => ?_)
 rotate_left
 ·
  refine oz_ (xnot rfl) rfl rfl ?_
  refine oz_ (xpick_f rfl rfl) rfl rfl ?_
  refine vm_ rfl rfl rfl ?_
  refine o2_ rfl rfl rfl rfl ?_
  refine o2_ rfl rfl rfl rfl ?_
  refine oz_ (xpick_t rfl rfl) rfl rfl ?_
  refine ct_ rfl ?_
  refine sr_ ?_
  refine vn_ rfl rfl rfl ?_
  refine run_ret Tryz.func90 (res1 rfl rfl) ?_
  exact ⟨_, rfl, by rw [tie_f (k := k) (by omega) (tie_f2 c23)], E⟩
 refine oz_ (xnot rfl) rfl rfl ?_
 refine oz_ (xpick_f rfl rfl) rfl rfl ?_
 refine vm_ rfl rfl rfl ?_
 refine oz_ (xfieldAddr fo110f2 rfl) rfl rfl ?_
 refine oz_ (v := .int .i64 ts[k].Kind) (xload1 Tryz.isAgg2 rfl (O2.cells) rfl) rfl rfl ?_
 refine oc (xcall Tryz.call68 rfl) rfl rfl rfl (l01In_ok (ts[k].Kind) (0) (3) _) ?_
 rintro _ w_ ⟨rfl, hw_⟩
 replace hw_ := hw_.symm
 subst hw_
 refine obs (fun c29 => ?_) (fun c29 => ?_)
 rotate_left
 ·
  refine oz_ (xnot rfl) rfl rfl ?_
  refine oz_ (xpick_f rfl rfl) rfl rfl ?_
  refine ct_ rfl ?_
  refine sr_ ?_
  refine vn_ rfl rfl rfl ?_
  refine run_ret Tryz.func90 (res1 rfl rfl) ?_
  exact ⟨_, rfl, by rw [tie_f (k := k) (by omega) (tie_f3 c29)], E⟩
 refine oz_ (xnot rfl) rfl rfl ?_
 refine oz_ (xpick_f rfl rfl) rfl rfl ?_
 refine cf_ rfl ?_
 refine sr_ ?_
 refine vn_ rfl rfl rfl ?_
 refine run_block ?_
 refine run_loop (ι := Nat × World) (fun x_ => match x_ with | (j, wr2) => (Ext w wr2) ∧ (Own wr2 b1 ([.int .i64 ts[k].Number, .string ts[k].Party, .int .i64 ts[k].Kind, .bool ts[k].Fair]) 110) ∧ (w2.heap.size ≤ wr2.heap.size) ∧ (j ≤ k) ∧ (∀ i (hi : i < ts.length), i < j → sameTie ts[k] ts[i] = false)) (fun x_ => match x_ with | (j, wr2) => [(0, .slice u4 n4 v4), (3, .int .i64 (k : Int)), (4, .pointer (some ⟨b1, 0, none⟩)), (5, .int .i64 (j : Int))]) (fun x_ => match x_ with | (j, wr2) => wr2) (fun x_ => match x_ with | (j, wr2) => k - j) ?_ (0, w2) (⟨E, O2, Nat.le_refl _, by omega, fun i hi h => absurd h (Nat.not_lt_zero i)⟩) ⟨rfl, rfl, rfl, rfl, trivial⟩ rfl
 intro i_ hI_ hback8
 obtain ⟨j, wr2⟩ := i_
 obtain ⟨E, O_b1, lz_wr2, hj, ha2⟩ := hI_
 try dsimp only
 have zr := E.size
 have lt_b1 := O_b1.lt
 refine run_seq ?_
 refine sr_ ?_
 refine vm_ rfl rfl rfl ?_
 refine vm_ rfl rfl rfl ?_
 refine oz_ (xlss rfl rfl _ rfl) rfl rfl ?_
 refine ods (fun c34 => ?_) (fun c34 => ?_)
 rotate_left
 ·
  refine cg_ rfl ?_
  refine run_exit rfl ?_
  refine run_inBlock ?_
  refine run_region ?_
  refine vm_ rfl rfl rfl ?_
  refine oz_ (xadd rfl rfl (by unfold I64; omega)) rfl rfl ?_
  refine vn_ rfl rfl rfl ?_
  refine run_sub ?_ (hback2 (k + 1, wr2) (⟨E, by omega, by omega, allB_succ ha (by rw [allI_of (by omega)]; exact tie_t c18 c23 c29 (take_any_f fun j2 hj2 h2 => ha2 j2 hj2 (by omega)))⟩) (by first | omega | (dsimp only; omega)))
  exact ⟨rfl, rfl, trivial⟩
 refine ct_ rfl ?_
 refine run_skip ?_
 refine run_seq ?_
 refine run_block ?_
 refine run_seq ?_
 refine run_draw (by kernel_rfl) (by kernel_rfl) ?_
 refine qv (fun w' x_ => xmove rfl) rfl rfl rfl ?_
 refine qv (fun w' x_ => xmove rfl) rfl rfl rfl ?_
 have h39 := (H4.ext E).at (i := j) (by omega)
 refine qv (fun w' x_ => xindexN (i := j) Tryz.underlying27 Tryz.sizeOf110 rfl rfl rfl ((H4.ext E).p (i := j) (by omega)) (by have := (H4.ext E).len; omega)) rfl rfl rfl ?_
 refine qv (fun w' x_ => xfieldAddr fo110f0 rfl) rfl rfl rfl ?_
 refine qv (v := .int .i64 ts[j].Number) (fun w' x_ => xload1 Tryz.isAgg2 rfl ((h39).ext x_) rfl) rfl rfl rfl ?_
 refine qv (fun w' x_ => xfieldAddr fo110f0 rfl) rfl rfl rfl ?_
 refine qv (v := .int .i64 ts[k].Number) (fun w' x_ => xload1 Tryz.isAgg2 rfl ((O_b1.cells).ext x_) rfl) rfl rfl rfl ?_
 refine qv (fun w' x_ => xeql rfl rfl _ rfl) rfl rfl rfl ?_
 refine qds (fun c44 => ?_) (fun c44 => ?_)
 rotate_left
 ·
  refine qv (fun w' x_ => xmove rfl) rfl rfl rfl ?_
  refine qg rfl rfl rfl ?_
  refine qg rfl rfl rfl ?_
  refine qg rfl rfl rfl ?_
  refine qg rfl rfl rfl ?_
  refine qg rfl rfl rfl ?_
  refine qg rfl rfl rfl ?_
  refine qg rfl rfl rfl ?_
  refine qg rfl rfl rfl ?_
  refine qv (fun w' x_ => xpick_f rfl rfl) rfl rfl rfl ?_
  refine qv (fun w' x_ => xmove rfl) rfl rfl rfl ?_
  refine qg rfl rfl rfl ?_
  refine qg rfl rfl rfl ?_
  refine qg rfl rfl rfl ?_
  refine qg rfl rfl rfl ?_
  refine qg rfl rfl rfl ?_
  refine qg rfl rfl rfl ?_
  refine qg rfl rfl rfl ?_
  refine qg rfl rfl rfl ?_
  refine qv (fun w' x_ => xpick_f rfl rfl) rfl rfl rfl ?_
  refine q_nil ?_
  intro w3 e3
  have z3 := e3.size
  have E := E.trans e3
  replace O_b1 := O_b1.ext e3
  refine run_cond_f rfl ?_
  refine run_skip ?_
  refine run_inBlock ?_
  refine run_region ?_
  refine vm_ rfl rfl rfl ?_
  refine oz_ (xadd rfl rfl (by unfold I64; omega)) rfl rfl ?_
  refine vn_ rfl rfl rfl ?_
  refine run_sub ?_ (hback8 (j + 1, w3) (⟨E, O_b1, by omega, by omega, below_succ (q := fun y => sameTie ts[k] y = false) ha2 (fun _ => same_f1 (fun h => c44 h.symm))⟩) (by first | omega | (dsimp only; omega)))
  exact ⟨rfl, rfl, rfl, rfl, trivial⟩
 refine qv (fun w' x_ => xmove rfl) rfl rfl rfl ?_
 refine qv (fun w' x_ => xmove rfl) rfl rfl rfl ?_
 refine qv (fun w' x_ => xmove rfl) rfl rfl rfl ?_
 have h48 := (H4.ext E).at (i := j) (by omega)
 refine qv (fun w' x_ => xindexN (i := j) Tryz.underlying27 Tryz.sizeOf110 rfl rfl rfl ((H4.ext E).p (i := j) (by omega)) (by have := (H4.ext E).len; omega)) rfl rfl rfl ?_
 refine qv (fun w' x_ => xfieldAddr fo110f1 rfl) rfl rfl rfl ?_
 refine qv (v := .string ts[j].Party) (fun w' x_ => xload1 Tryz.isAgg9 rfl ((h48).ext x_) rfl) rfl rfl rfl ?_
 refine qv (fun w' x_ => xfieldAddr fo110f1 rfl) rfl rfl rfl ?_
 refine qv (v := .string ts[k].Party) (fun w' x_ => xload1 Tryz.isAgg9 rfl ((O_b1.cells).ext x_) rfl) rfl rfl rfl ?_
 refine qv (fun w' x_ => xseql rfl rfl _ rfl) rfl rfl rfl ?_
 refine qds (fun c53 => ?_) (fun c53 => ?_)
 rotate_left
 ·
  refine qv (fun w' x_ => xpick_t rfl rfl) rfl rfl rfl ?_
  refine qv (fun w' x_ => xmove rfl) rfl rfl rfl ?_
  refine qg rfl rfl rfl ?_
  refine qg rfl rfl rfl ?_
  refine qg rfl rfl rfl ?_
  refine qg rfl rfl rfl ?_
  refine qg rfl rfl rfl ?_
  refine qg rfl rfl rfl ?_
  refine qg rfl rfl rfl ?_
  refine qg rfl rfl rfl ?_
  refine qv (fun w' x_ => xpick_f rfl rfl) rfl rfl rfl ?_
  refine q_nil ?_
  intro w3 e3
  have z3 := e3.size
  have E := E.trans e3
  replace O_b1 := O_b1.ext e3
  refine run_cond_f rfl ?_
  refine run_skip ?_
  refine run_inBlock ?_
  refine run_region ?_
  refine vm_ rfl rfl rfl ?_
  refine oz_ (xadd rfl rfl (by unfold I64; omega)) rfl rfl ?_
  refine vn_ rfl rfl rfl ?_
  refine run_sub ?_ (hback8 (j + 1, w3) (⟨E, O_b1, by omega, by omega, below_succ (q := fun y => sameTie ts[k] y = false) ha2 (fun _ => same_f2 (fun h => c53 h.symm))⟩) (by first | omega | (dsimp only; omega)))
  exact ⟨rfl, rfl, rfl, rfl, trivial⟩
 refine qv (fun w' x_ => xpick_t rfl rfl) rfl rfl rfl ?_
 refine qv (fun w' x_ => xmove rfl) rfl rfl rfl ?_
 refine qv (fun w' x_ => xmove rfl) rfl rfl rfl ?_
 refine qv (fun w' x_ => xmove rfl) rfl rfl rfl ?_
 have h58 := (H4.ext E).at (i := j) (by omega)
 refine qv (fun w' x_ => xindexN (i := j) Tryz.underlying27 Tryz.sizeOf110 rfl rfl rfl ((H4.ext E).p (i := j) (by omega)) (by have := (H4.ext E).len; omega)) rfl rfl rfl ?_
 refine qv (fun w' x_ => xfieldAddr fo110f2 rfl) rfl rfl rfl ?_
 refine qv (v := .int .i64 ts[j].Kind) (fun w' x_ => xload1 Tryz.isAgg2 rfl ((h58).ext x_) rfl) rfl rfl rfl ?_
 refine qv (fun w' x_ => xfieldAddr fo110f2 rfl) rfl rfl rfl ?_
 refine qv (v := .int .i64 ts[k].Kind) (fun w' x_ => xload1 Tryz.isAgg2 rfl ((O_b1.cells).ext x_) rfl) rfl rfl rfl ?_
 refine qv (fun w' x_ => xeql rfl rfl _ rfl) rfl rfl rfl ?_
 refine qds (fun c63 => ?_) (fun c63 => ?_)
 ·
  refine qv (fun w' x_ => xpick_t rfl rfl) rfl rfl rfl ?_
  refine q_nil ?_
  intro w3 e3
  have z3 := e3.size
  have E := E.trans e3
  refine run_cond_t rfl ?_
  refine sr_ ?_
  refine vn_ rfl rfl rfl ?_
  refine run_ret Tryz.func90 (res1 rfl rfl) ?_
  exact ⟨_, rfl, by rw [tie_f (k := k) (by omega) (tie_f4 (take_any_t (j := j) (by omega) (by omega) (same_t c44.symm c53.symm c63.symm)))], E⟩
 refine qv (fun w' x_ => xpick_t rfl rfl) rfl rfl rfl ?_
 refine q_nil ?_
 intro w3 e3
 have z3 := e3.size
 have E := E.trans e3
 replace O_b1 := O_b1.ext e3
 refine run_cond_f rfl ?_
 refine run_skip ?_
 refine run_inBlock ?_
 refine run_region ?_
 refine vm_ rfl rfl rfl ?_
 refine oz_ (xadd rfl rfl (by unfold I64; omega)) rfl rfl ?_
 refine vn_ rfl rfl rfl ?_
 refine run_sub ?_ (hback8 (j + 1, w3) (⟨E, O_b1, by omega, by omega, below_succ (q := fun y => sameTie ts[k] y = false) ha2 (fun _ => same_f3 (fun h => c63 h.symm))⟩) (by first | omega | (dsimp only; omega)))
 exact ⟨rfl, rfl, rfl, rfl, trivial⟩
set_option maxHeartbeats 400000 in
theorem areWords_ok (u5 : Option Addr) (n5 v5 : Nat) (ps : List ByteArray) (w : World) (H5 : Sl strc 1 w u5 n5 v5 ps) (hx5 : ∀ y ∈ ps, y.size ≤ 9223372036854775807) : Ret Tryz.prog 93 [.slice u5 n5 v5] w (Pv w (.bool (ps.all isWord))) := by
 refine ret_of_run (N := 15) Tryz.func93 rfl rfl rfl ?_
 have hn5 := H5.len
 have hn56 := H5.n64
 have E : Ext w w := Ext.refl w
 refine sr_ ?_
 refine vn_ rfl rfl rfl ?_
 refine run_seq ?_
 refine sr_ ?_
 refine vm_ rfl rfl rfl ?_
 refine oz_ (xlen Tryz.underlying28 rfl) rfl rfl ?_
 refine vm_ rfl rfl rfl ?_
 refine ops_nil ?_
 refine run_block ?_
 refine run_loop (ι := Nat × World) (fun x_ => match x_ with | (k, wr) => (Ext w wr) ∧ (w.heap.size ≤ wr.heap.size) ∧ (k ≤ n5) ∧ (∀ j (hj : j < ps.length), j < k → isWord ps[j] = true)) (fun x_ => match x_ with | (k, wr) => [(5, .slice u5 n5 v5), (6, .int .i64 (n5 : Int)), (7, .int .i64 (k : Int))]) (fun x_ => match x_ with | (k, wr) => wr) (fun x_ => match x_ with | (k, wr) => n5 - k) ?_ (0, w) (⟨E, Nat.le_refl _, by omega, fun j hj h => absurd h (Nat.not_lt_zero j)⟩) ⟨rfl, rfl, rfl, trivial⟩ rfl
 intro i_ hI_ hback2
 obtain ⟨k, wr⟩ := i_
 obtain ⟨E, lz_wr, hk, ha⟩ := hI_
 try dsimp only
 have zr := E.size
 have hxk := fun h : k < ps.length => hx5 ps[k] (List.getElem_mem h)
 refine sr_ ?_
 refine oz_ (xlss rfl rfl _ rfl) rfl rfl ?_
 refine ods (fun c8 => ?_) (fun c8 => ?_)
 rotate_left
 ·
  refine ops_nil ?_
  refine run_seq ?_
  refine run_cond_f rfl ?_
  refine run_exit rfl ?_
  refine sr_ ?_
  refine vn_ rfl rfl rfl ?_
  refine run_ret Tryz.func93 (res1 rfl rfl) ?_
  exact ⟨_, rfl, by rw [all_of ha (by omega)], E⟩
 refine ops_nil ?_
 refine run_seq ?_
 refine run_cond_t rfl ?_
 refine run_skip ?_
 refine run_seq ?_
 refine run_block ?_
 refine sr_ ?_
 have h9 := (H5.ext E).at (i := k) (by omega)
 refine oz_ (xindexN (i := k) Tryz.underlying28 Tryz.sizeOf9 rfl rfl rfl ((H5.ext E).p (i := k) (by omega)) (by have := (H5.ext E).len; omega)) rfl rfl ?_
 refine oz_ (v := .string ps[k]) (xloadz Tryz.isAgg9 rfl (h9) rfl) rfl rfl ?_
 refine vn_ rfl rfl rfl ?_
 refine sr_ ?_
 refine vm_ rfl rfl rfl ?_
 replace hxk := hxk (by omega)
 refine oc (xcall Tryz.call73 rfl) rfl rfl rfl (IsWord_ok (ps[k]) _ (by first | assumption | omega)) ?_
 rintro _ w_ ⟨rfl, hw_⟩
 replace hw_ := hw_.symm
 subst hw_
 refine obs (fun c12 => ?_) (fun c12 => ?_)
 ·
  refine oz_ (xnot rfl) rfl rfl ?_
  refine cf_ rfl ?_
  refine run_inBlock ?_
  refine run_region ?_
  refine oz_ (xadd rfl rfl (by unfold I64; omega)) rfl rfl ?_
  refine vm_ rfl rfl rfl ?_
  refine ops_nil ?_
  refine run_sub ?_ (hback2 (k + 1, wr) (⟨E, by omega, by omega, below_succ (q := fun y => isWord y = true) ha (fun _ => c12)⟩) (by first | omega | (dsimp only; omega)))
  exact ⟨rfl, rfl, rfl, trivial⟩
 refine oz_ (xnot rfl) rfl rfl ?_
 refine ct_ rfl ?_
 refine sr_ ?_
 refine vn_ rfl rfl rfl ?_
 refine run_ret Tryz.func93 (res1 rfl rfl) ?_
 exact ⟨_, rfl, by rw [all_f (p := isWord) (k := k) (by omega) c12], E⟩
set_option maxHeartbeats 400000 in
theorem l01All_ok (u5 : Option Addr) (n5 v5 : Nat) (ps : List ByteArray) (w : World) (H5 : Sl strc 1 w u5 n5 v5 ps) (hx5 : ∀ y ∈ ps, y.size ≤ 9223372036854775807) : Ret Tryz.prog 99 [.slice u5 n5 v5] w (Pv w (.bool (ps.all isWord))) := by
 refine ret_of_run (N := 16) Tryz.func99 rfl rfl rfl ?_
 have hn5 := H5.len
 have hn56 := H5.n64
 have E : Ext w w := Ext.refl w
 refine sr_ ?_
 refine vn_ rfl rfl rfl ?_
 refine run_seq ?_
 refine sr_ ?_
 refine vn_ rfl rfl rfl ?_
 refine run_block ?_
 refine run_loop (ι := Nat × World) (fun x_ => match x_ with | (k, wr) => (Ext w wr) ∧ (w.heap.size ≤ wr.heap.size) ∧ (k ≤ n5) ∧ (∀ j (hj : j < ps.length), j < k → isWord ps[j] = true)) (fun x_ => match x_ with | (k, wr) => [(0, .slice u5 n5 v5), (3, .int .i64 (k : Int))]) (fun x_ => match x_ with | (k, wr) => wr) (fun x_ => match x_ with | (k, wr) => n5 - k) ?_ (0, w) (⟨E, Nat.le_refl _, by omega, fun j hj h => absurd h (Nat.not_lt_zero j)⟩) ⟨rfl, rfl, trivial⟩ rfl
 intro i_ hI_ hback2
 obtain ⟨k, wr⟩ := i_
 obtain ⟨E, lz_wr, hk, ha⟩ := hI_
 try dsimp only
 have zr := E.size
 have hxk := fun h : k < ps.length => hx5 ps[k] (List.getElem_mem h)
 refine run_seq ?_
 refine sr_ ?_
 refine vm_ rfl rfl rfl ?_
 refine vm_ rfl rfl rfl ?_
 refine oz_ (xlen Tryz.underlying28 rfl) rfl rfl ?_
 refine oz_ (xlss rfl rfl _ rfl) rfl rfl ?_
 refine ods (fun c7 => ?_) (fun c7 => ?_)
 rotate_left
 ·
  refine cg_ rfl ?_
  refine run_exit rfl ?_
  refine sr_ ?_
  refine vn_ rfl rfl rfl ?_
  refine run_ret Tryz.func99 (res1 rfl rfl) ?_
  exact ⟨_, rfl, by rw [all_of ha (by omega)], E⟩
 refine ct_ rfl ?_
 refine run_skip ?_
 refine run_seq ?_
 refine run_block ?_
 refine sr_ ?_
 refine vm_ rfl rfl rfl ?_
 refine vm_ rfl rfl rfl ?_
 have h12 := (H5.ext E).at (i := k) (by omega)
 refine oz_ (xindexN (i := k) Tryz.underlying28 Tryz.sizeOf9 rfl rfl rfl ((H5.ext E).p (i := k) (by omega)) (by have := (H5.ext E).len; omega)) rfl rfl ?_
 refine oz_ (v := .string ps[k]) (xloadz Tryz.isAgg9 rfl (h12) rfl) rfl rfl ?_
 replace hxk := hxk (by omega)
 refine oc (xcall Tryz.call107 rfl) rfl rfl rfl (sIsWord_ok (ps[k]) _ (by first | assumption | omega)) ?_
 rintro _ w_ ⟨rfl, hw_⟩
 replace hw_ := hw_.symm
 subst hw_
 refine obs (fun c14 => ?_) (fun c14 => ?_)
 ·
  refine oz_ (xnot rfl) rfl rfl ?_
  refine cf_ rfl ?_
  refine run_inBlock ?_
  refine run_region ?_
  refine vm_ rfl rfl rfl ?_
  refine oz_ (xadd rfl rfl (by unfold I64; omega)) rfl rfl ?_
  refine vn_ rfl rfl rfl ?_
  refine run_sub ?_ (hback2 (k + 1, wr) (⟨E, by omega, by omega, below_succ (q := fun y => isWord y = true) ha (fun _ => c14)⟩) (by first | omega | (dsimp only; omega)))
  exact ⟨rfl, rfl, trivial⟩
 refine oz_ (xnot rfl) rfl rfl ?_
 refine ct_ rfl ?_
 refine sr_ ?_
 refine vn_ rfl rfl rfl ?_
 refine run_ret Tryz.func99 (res1 rfl rfl) ?_
 exact ⟨_, rfl, by rw [all_f (p := isWord) (k := k) (by omega) c14], E⟩
set_option maxHeartbeats 400000 in
theorem areCase_ok (u4 : Option Addr) (n4 v4 : Nat) (ts : List Tie) (u5 : Option Addr) (n5 v5 : Nat) (ps : List ByteArray) (w : World) (H4 : Sl Tie.cells 4 w u4 n4 v4 ts) (hx4 : ∀ t ∈ ts, t.Party.size ≤ 9223372036854775807) (H5 : Sl strc 1 w u5 n5 v5 ps) (hx5 : ∀ y ∈ ps, y.size ≤ 9223372036854775807) : Ret Tryz.prog 50 [.slice u4 n4 v4, .slice u5 n5 v5] w (Pv w (.bool (areCase ts ps))) := by
 refine ret_of_run (N := 16) Tryz.func50 rfl rfl rfl ?_
 have hn4 := H4.len
 have hn46 := H4.n64
 have hn5 := H5.len
 have hn56 := H5.n64
 have E : Ext w w := Ext.refl w
 refine sr_ ?_
 refine vn_ rfl rfl rfl ?_
 refine sr_ ?_
 refine vm_ rfl rfl rfl ?_
 refine oc (xcall Tryz.call92 rfl) rfl rfl rfl (AreTies_ok _ _ _ ts _ (H4.ext E) (by assumption)) ?_
 rintro _ w1 ⟨rfl, e1⟩
 have z1 := e1.size
 have E := E.trans e1
 refine obs (fun c6 => ?_) (fun c6 => ?_)
 rotate_left
 ·
  refine vm_ rfl rfl rfl ?_
  refine o2_ rfl rfl rfl rfl ?_
  refine og rfl rfl rfl ?_
  refine oz_ (xpick_f rfl rfl) rfl rfl ?_
  refine vm_ rfl rfl rfl ?_
  refine o2_ rfl rfl rfl rfl ?_
  refine oz_ (xpick_f rfl rfl) rfl rfl ?_
  refine vn_ rfl rfl rfl ?_
  refine run_ret Tryz.func50 (res1 rfl rfl) ?_
  exact ⟨_, rfl, by rw [areCase, c6]; rfl, E⟩
 refine vm_ rfl rfl rfl ?_
 refine vm_ rfl rfl rfl ?_
 refine oz_ (xlen Tryz.underlying28 rfl) rfl rfl ?_
 refine oc (xcall Tryz.call43 rfl) rfl rfl rfl (few_ok ((n5 : Int)) (6) _) ?_
 rintro _ w_ ⟨rfl, hw_⟩
 replace hw_ := hw_.symm
 subst hw_
 refine obs (fun c10 => ?_) (fun c10 => ?_)
 ·
  refine oz_ (xpick_t rfl rfl) rfl rfl ?_
  refine vm_ rfl rfl rfl ?_
  refine vm_ rfl rfl rfl ?_
  refine oc (xcall Tryz.call93 rfl) rfl rfl rfl (areWords_ok _ _ _ ps _ (H5.ext E) (by assumption)) ?_
  rintro _ w2 ⟨rfl, e2⟩
  have z2 := e2.size
  have E := E.trans e2
  refine oz_ (xpick_t rfl rfl) rfl rfl ?_
  refine vn_ rfl rfl rfl ?_
  refine run_ret Tryz.func50 (res1 rfl rfl) ?_
  exact ⟨_, rfl, by rw [areCase, c6, Bool.true_and, show decide (ps.length ≤ 6) = true from decide_eq_true (by simp only [decide_eq_true_eq] at c10; omega)]; rfl, E⟩
 refine oz_ (xpick_t rfl rfl) rfl rfl ?_
 refine vm_ rfl rfl rfl ?_
 refine o2_ rfl rfl rfl rfl ?_
 refine oz_ (xpick_f rfl rfl) rfl rfl ?_
 refine vn_ rfl rfl rfl ?_
 refine run_ret Tryz.func50 (res1 rfl rfl) ?_
 exact ⟨_, rfl, by rw [areCase, c6, Bool.true_and, show decide (ps.length ≤ 6) = false from decide_eq_false (by simp only [decide_eq_false_iff_not] at c10; omega)]; rfl, E⟩
set_option maxHeartbeats 400000 in
theorem l13Code_ok (u4 : Option Addr) (n4 v4 : Nat) (ts : List Tie) (u5 : Option Addr) (n5 v5 : Nat) (ps : List ByteArray) (w : World) (H4 : Sl Tie.cells 4 w u4 n4 v4 ts) (hx4 : ∀ t ∈ ts, t.Party.size ≤ 9223372036854775807) (H5 : Sl strc 1 w u5 n5 v5 ps) (hx5 : ∀ y ∈ ps, y.size ≤ 9223372036854775807) : Ret Tryz.prog 54 [.slice u4 n4 v4, .slice u5 n5 v5, .int .i64 1] w (Pv w (.int .i64 (caseCode ts ps))) := by
 refine ret_of_run (N := 23) Tryz.func54 rfl rfl rfl ?_
 have hn4 := H4.len
 have hn46 := H4.n64
 have hn5 := H5.len
 have hn56 := H5.n64
 have E : Ext w w := Ext.refl w
 refine sr_ ?_
 refine vn_ rfl rfl rfl ?_
 refine run_seq ?_
 refine sr_ ?_
 refine vm_ rfl rfl rfl ?_
 refine oc (xcall Tryz.call90 rfl) rfl rfl rfl (sAreTies_ok _ _ _ ts _ (H4.ext E) (by assumption)) ?_
 rintro _ w1 ⟨rfl, e1⟩
 have z1 := e1.size
 have E := E.trans e1
 refine obs (fun c8 => ?_) (fun c8 => ?_)
 rotate_left
 ·
  refine oz_ (xnot rfl) rfl rfl ?_
  refine vm_ rfl rfl rfl ?_
  refine o2_ rfl rfl rfl rfl ?_
  refine og rfl rfl rfl ?_
  refine oz_ (xpick_t rfl rfl) rfl rfl ?_
  refine vm_ rfl rfl rfl ?_
  refine o2_ rfl rfl rfl rfl ?_
  refine og rfl rfl rfl ?_
  refine oz_ (xpick_t rfl rfl) rfl rfl ?_
  refine ct_ rfl ?_
  refine sr_ ?_
  refine vn_ rfl rfl rfl ?_
  refine run_ret Tryz.func54 (res1 rfl rfl) ?_
  exact ⟨_, rfl, by rw [caseCode, if_neg (by simp [areCase, c8])], E⟩
 refine oz_ (xnot rfl) rfl rfl ?_
 refine vm_ rfl rfl rfl ?_
 refine vm_ rfl rfl rfl ?_
 refine oc (xcall Tryz.call99 rfl) rfl rfl rfl (l01All_ok _ _ _ ps _ (H5.ext E) (by assumption)) ?_
 rintro _ w2 ⟨rfl, e2⟩
 have z2 := e2.size
 have E := E.trans e2
 refine obs (fun c12 => ?_) (fun c12 => ?_)
 rotate_left
 ·
  refine oz_ (xnot rfl) rfl rfl ?_
  refine oz_ (xpick_f rfl rfl) rfl rfl ?_
  refine vm_ rfl rfl rfl ?_
  refine o2_ rfl rfl rfl rfl ?_
  refine og rfl rfl rfl ?_
  refine oz_ (xpick_t rfl rfl) rfl rfl ?_
  refine ct_ rfl ?_
  refine sr_ ?_
  refine vn_ rfl rfl rfl ?_
  refine run_ret Tryz.func54 (res1 rfl rfl) ?_
  exact ⟨_, rfl, by rw [caseCode, if_neg (by simp [areCase, c12])], E⟩
 refine oz_ (xnot rfl) rfl rfl ?_
 refine oz_ (xpick_f rfl rfl) rfl rfl ?_
 refine vm_ rfl rfl rfl ?_
 refine vm_ rfl rfl rfl ?_
 refine oz_ (xlen Tryz.underlying28 rfl) rfl rfl ?_
 refine oz_ (xgtr rfl rfl _ rfl) rfl rfl ?_
 refine ods (fun c18 => ?_) (fun c18 => ?_)
 ·
  refine oz_ (xpick_f rfl rfl) rfl rfl ?_
  refine ct_ rfl ?_
  refine sr_ ?_
  refine vn_ rfl rfl rfl ?_
  refine run_ret Tryz.func54 (res1 rfl rfl) ?_
  exact ⟨_, rfl, by rw [caseCode, if_neg (by rw [areCase, decide_eq_false (show ¬ ps.length ≤ 6 by omega)]; simp)], E⟩
 refine oz_ (xpick_f rfl rfl) rfl rfl ?_
 refine cf_ rfl ?_
 refine run_seq ?_
 refine sr_ ?_
 refine vm_ rfl rfl rfl ?_
 refine oc (xcall Tryz.call68 rfl) rfl rfl rfl (l01In_ok (1) (1) (1000000) _) ?_
 rintro _ w_ ⟨rfl, hw_⟩
 replace hw_ := hw_.symm
 subst hw_
 refine obs (fun c21 => ?_) (fun c21 => ?_)
 rotate_left
 ·
  exfalso; revert c21; decide
 refine oz_ (xnot rfl) rfl rfl ?_
 refine cf_ rfl ?_
 refine sr_ ?_
 refine vn_ rfl rfl rfl ?_
 refine run_ret Tryz.func54 (res1 rfl rfl) ?_
 exact ⟨_, rfl, by rw [caseCode, if_pos (by rw [areCase, c8, c12, decide_eq_true (show ps.length ≤ 6 by omega)]; rfl)], E⟩
set_option maxHeartbeats 400000 in
theorem isCause_ok (t : Tie) (u5 : Option Addr) (n5 v5 : Nat) (ps : List ByteArray) (w : World) (H5 : Sl strc 1 w u5 n5 v5 ps) : Ret Tryz.prog 161 [.agg #[.int .i64 t.Number, .string t.Party, .int .i64 t.Kind, .bool t.Fair], .slice u5 n5 v5] w (Pv w (.bool (causeB t ps))) := by
 refine ret_of_run (N := 19) Tryz.func161 rfl rfl rfl ?_
 have E : Ext w w := Ext.refl w
 refine sr_ ?_
 refine obox rfl rfl rfl ?_
 intro b1 w1 e1 hb1 hz1 O1
 have E := E.trans e1
 replace O1 : Own w1 b1 [.int .i64 t.Number, .string t.Party, .int .i64 t.Kind, .bool t.Fair] 110 := O1
 refine vn_ rfl rfl rfl ?_
 refine sr_ ?_
 refine vm_ rfl rfl rfl ?_
 refine oz_ (xfieldAddr fo110f1 rfl) rfl rfl ?_
 refine oz_ (v := .string t.Party) (xload1 Tryz.isAgg9 rfl (O1.cells) rfl) rfl rfl ?_
 refine oc (xcall Tryz.call165 rfl) rfl rfl rfl (hasS_ok _ _ _ _ (t.Party) _ (H5.ext E)) ?_
 rintro _ w2 ⟨rfl, e2⟩
 have z2 := e2.size
 have E := E.trans e2
 replace O1 := O1.ext e2
 refine obs (fun c8 => ?_) (fun c8 => ?_)
 rotate_left
 ·
  refine vm_ rfl rfl rfl ?_
  refine o2_ rfl rfl rfl rfl ?_
  refine o2_ rfl rfl rfl rfl ?_
  refine o2_ rfl rfl rfl rfl ?_
  refine o2_ rfl rfl rfl rfl ?_
  refine oz_ (xpick_f rfl rfl) rfl rfl ?_
  refine vn_ rfl rfl rfl ?_
  refine run_ret Tryz.func161 (res1 rfl rfl) ?_
  exact ⟨_, rfl, by unfold causeB; rw [c8]; rfl, E⟩
 refine vm_ rfl rfl rfl ?_
 refine oz_ (xfieldAddr fo110f2 rfl) rfl rfl ?_
 refine oz_ (v := .int .i64 t.Kind) (xload1 Tryz.isAgg2 rfl (O1.cells) rfl) rfl rfl ?_
 refine oz_ (xneq rfl rfl _ rfl) rfl rfl ?_
 refine ods (fun c12 => ?_) (fun c12 => ?_)
 ·
  refine vm_ rfl rfl rfl ?_
  refine o2_ rfl rfl rfl rfl ?_
  refine og rfl rfl rfl ?_
  refine oz_ (xpick_t rfl rfl) rfl rfl ?_
  refine oz_ (xpick_t rfl rfl) rfl rfl ?_
  refine vn_ rfl rfl rfl ?_
  refine run_ret Tryz.func161 (res1 rfl rfl) ?_
  exact ⟨_, rfl, by unfold causeB; rw [c8, decide_eq_true c12]; rfl, E⟩
 refine vm_ rfl rfl rfl ?_
 refine oz_ (xfieldAddr fo110f3 rfl) rfl rfl ?_
 refine oz_ (v := .bool t.Fair) (xload1 Tryz.isAgg4 rfl (O1.cells) rfl) rfl rfl ?_
 refine obs (fun c15 => ?_) (fun c15 => ?_)
 ·
  refine oz_ (xnot rfl) rfl rfl ?_
  refine oz_ (xpick_f rfl rfl) rfl rfl ?_
  refine oz_ (xpick_t rfl rfl) rfl rfl ?_
  refine vn_ rfl rfl rfl ?_
  refine run_ret Tryz.func161 (res1 rfl rfl) ?_
  exact ⟨_, rfl, by unfold causeB; rw [c8, decide_eq_false c12, c15]; rfl, E⟩
 refine oz_ (xnot rfl) rfl rfl ?_
 refine oz_ (xpick_f rfl rfl) rfl rfl ?_
 refine oz_ (xpick_t rfl rfl) rfl rfl ?_
 refine vn_ rfl rfl rfl ?_
 refine run_ret Tryz.func161 (res1 rfl rfl) ?_
 exact ⟨_, rfl, by unfold causeB; rw [c8, decide_eq_false c12, c15]; rfl, E⟩
set_option maxHeartbeats 400000 in
theorem l13Cause_ok (t : Tie) (u5 : Option Addr) (n5 v5 : Nat) (ps : List ByteArray) (w : World) (H5 : Sl strc 1 w u5 n5 v5 ps) : Ret Tryz.prog 163 [.agg #[.int .i64 t.Number, .string t.Party, .int .i64 t.Kind, .bool t.Fair], .slice u5 n5 v5] w (Pv w (.bool (causeB t ps))) := by
 refine ret_of_run (N := 19) Tryz.func163 rfl rfl rfl ?_
 have E : Ext w w := Ext.refl w
 refine sr_ ?_
 refine obox rfl rfl rfl ?_
 intro b1 w1 e1 hb1 hz1 O1
 have E := E.trans e1
 replace O1 : Own w1 b1 [.int .i64 t.Number, .string t.Party, .int .i64 t.Kind, .bool t.Fair] 110 := O1
 refine vn_ rfl rfl rfl ?_
 refine sr_ ?_
 refine vm_ rfl rfl rfl ?_
 refine oz_ (xfieldAddr fo110f1 rfl) rfl rfl ?_
 refine oz_ (v := .string t.Party) (xload1 Tryz.isAgg9 rfl (O1.cells) rfl) rfl rfl ?_
 refine oc (xcall Tryz.call166 rfl) rfl rfl rfl (l13Word_ok _ _ _ _ (t.Party) _ (H5.ext E)) ?_
 rintro _ w2 ⟨rfl, e2⟩
 have z2 := e2.size
 have E := E.trans e2
 replace O1 := O1.ext e2
 refine obs (fun c8 => ?_) (fun c8 => ?_)
 rotate_left
 ·
  refine vm_ rfl rfl rfl ?_
  refine o2_ rfl rfl rfl rfl ?_
  refine o2_ rfl rfl rfl rfl ?_
  refine o2_ rfl rfl rfl rfl ?_
  refine o2_ rfl rfl rfl rfl ?_
  refine oz_ (xpick_f rfl rfl) rfl rfl ?_
  refine vn_ rfl rfl rfl ?_
  refine run_ret Tryz.func163 (res1 rfl rfl) ?_
  exact ⟨_, rfl, by unfold causeB; rw [c8]; rfl, E⟩
 refine vm_ rfl rfl rfl ?_
 refine oz_ (xfieldAddr fo110f2 rfl) rfl rfl ?_
 refine oz_ (v := .int .i64 t.Kind) (xload1 Tryz.isAgg2 rfl (O1.cells) rfl) rfl rfl ?_
 refine oz_ (xneq rfl rfl _ rfl) rfl rfl ?_
 refine ods (fun c12 => ?_) (fun c12 => ?_)
 ·
  refine vm_ rfl rfl rfl ?_
  refine o2_ rfl rfl rfl rfl ?_
  refine og rfl rfl rfl ?_
  refine oz_ (xpick_t rfl rfl) rfl rfl ?_
  refine oz_ (xpick_t rfl rfl) rfl rfl ?_
  refine vn_ rfl rfl rfl ?_
  refine run_ret Tryz.func163 (res1 rfl rfl) ?_
  exact ⟨_, rfl, by unfold causeB; rw [c8, decide_eq_true c12]; rfl, E⟩
 refine vm_ rfl rfl rfl ?_
 refine oz_ (xfieldAddr fo110f3 rfl) rfl rfl ?_
 refine oz_ (v := .bool t.Fair) (xload1 Tryz.isAgg4 rfl (O1.cells) rfl) rfl rfl ?_
 refine obs (fun c15 => ?_) (fun c15 => ?_)
 ·
  refine oz_ (xnot rfl) rfl rfl ?_
  refine oz_ (xpick_f rfl rfl) rfl rfl ?_
  refine oz_ (xpick_t rfl rfl) rfl rfl ?_
  refine vn_ rfl rfl rfl ?_
  refine run_ret Tryz.func163 (res1 rfl rfl) ?_
  exact ⟨_, rfl, by unfold causeB; rw [c8, decide_eq_false c12, c15]; rfl, E⟩
 refine oz_ (xnot rfl) rfl rfl ?_
 refine oz_ (xpick_f rfl rfl) rfl rfl ?_
 refine oz_ (xpick_t rfl rfl) rfl rfl ?_
 refine vn_ rfl rfl rfl ?_
 refine run_ret Tryz.func163 (res1 rfl rfl) ?_
 exact ⟨_, rfl, by unfold causeB; rw [c8, decide_eq_false c12, c15]; rfl, E⟩
set_option maxHeartbeats 1000000 in
theorem causes_ok (u4 : Option Addr) (n4 v4 : Nat) (ts : List Tie) (u5 : Option Addr) (n5 v5 : Nat) (ps : List ByteArray) (num : Int) (w : World) (H4 : Sl Tie.cells 4 w u4 n4 v4 ts) (hx4 : ∀ t ∈ ts, t.Party.size ≤ 9223372036854775807) (H5 : Sl strc 1 w u5 n5 v5 ps) (hx5 : ∀ y ∈ ps, y.size ≤ 9223372036854775807) (hl4 : n4 ≤ 1000000) : Ret Tryz.prog 152 [.slice u4 n4 v4, .slice u5 n5 v5, .int .i64 num] w (fun v w' => Ext w w' ∧ ∃ q m d, v = .slice q m d ∧ decide (0 < m) = biasB ts ps num) := by
 refine ret_of_run (N := 33) Tryz.func152 rfl rfl rfl ?_
 have hn4 := H4.len
 have hn46 := H4.n64
 have hn5 := H5.len
 have hn56 := H5.n64
 have E : Ext w w := Ext.refl w
 refine sr_ ?_
 refine vn_ rfl rfl rfl ?_
 refine sr_ ?_
 refine obuild (cs := []) (sz := 1) Tryz.underlying24 inf2 rfl rfl (by decide) rfl rfl (by simp [Value.cells]) rfl rfl rfl ?_
 intro b1 w1 e1 hb1 hz1 O1
 have E := E.trans e1
 have G1 : Ow i64c 1 2 w1 b1 (b1 + 1) (some ⟨b1, 0, none⟩) 0 0 ([] : List Int) := Own.ow (by simpa [i64c] using O1) rfl (by omega) (Nat.le_refl _) (by omega) (by intro x hx; rfl)
 refine vn_ rfl rfl rfl ?_
 refine run_seq ?_
 refine sr_ ?_
 refine vm_ rfl rfl rfl ?_
 refine oz_ (xlen Tryz.underlying27 rfl) rfl rfl ?_
 refine vm_ rfl rfl rfl ?_
 refine ops_nil ?_
 refine run_block ?_
 refine run_loop (ι := Nat × Option Addr × Nat × Nat × List Int × World) (fun x_ => match x_ with | (k, q_7, m_7, c_7, ys_7, wr) => (Ext w wr) ∧ (Ow i64c 1 2 wr b1 wr.heap.size q_7 m_7 c_7 ys_7) ∧ (b1 ≤ wr.heap.size) ∧ (w1.heap.size ≤ wr.heap.size) ∧ (k ≤ n4) ∧ (m_7 ≤ k) ∧ (decide (0 < m_7) = biasB (ts.take k) ps num)) (fun x_ => match x_ with | (k, q_7, m_7, c_7, ys_7, wr) => [(1, .slice u5 n5 v5), (2, .int .i64 num), (7, .slice q_7 m_7 c_7), (11, .slice u4 n4 v4), (12, .int .i64 (n4 : Int)), (13, .int .i64 (k : Int))]) (fun x_ => match x_ with | (k, q_7, m_7, c_7, ys_7, wr) => wr) (fun x_ => match x_ with | (k, q_7, m_7, c_7, ys_7, wr) => n4 - k) ?_ (0, (some ⟨b1, 0, none⟩), 0, 0, [], w1) (⟨E, G1.wide (by omega) (by omega), by omega, Nat.le_refl _, by omega, Nat.le_refl _, by simp [biasB]⟩) ⟨rfl, rfl, rfl, rfl, rfl, rfl, trivial⟩ rfl
 intro i_ hI_ hback3
 obtain ⟨k, q_7, m_7, c_7, ys_7, wr⟩ := i_
 obtain ⟨E, G_7, lo_7, lz_wr, hk, hm7, hbi⟩ := hI_
 try dsimp only
 have zr := E.size
 have lg_7 := G_7.len
 refine sr_ ?_
 refine oz_ (xlss rfl rfl _ rfl) rfl rfl ?_
 refine ods (fun c14 => ?_) (fun c14 => ?_)
 rotate_left
 ·
  refine ops_nil ?_
  refine run_seq ?_
  refine run_cond_f rfl ?_
  refine run_exit rfl ?_
  refine sr_ ?_
  refine vm_ rfl rfl rfl ?_
  refine vn_ rfl rfl rfl ?_
  refine run_ret Tryz.func152 (res1 rfl rfl) ?_
  have hkn : k = n4 := by omega
  exact ⟨_, rfl, E, _, _, _, rfl, by rw [hbi, hkn, hn4, List.take_length]⟩
 refine ops_nil ?_
 refine run_seq ?_
 refine run_cond_t rfl ?_
 refine run_skip ?_
 refine run_seq ?_
 refine run_block ?_
 refine sr_ ?_
 refine vm_ rfl rfl rfl ?_
 have h16 := (H4.ext E).at (i := k) (by omega)
 refine oz_ (xindexN (i := k) Tryz.underlying27 Tryz.sizeOf110 rfl rfl rfl ((H4.ext E).p (i := k) (by omega)) (by have := (H4.ext E).len; omega)) rfl rfl ?_
 refine oz_ (v := .agg #[.int .i64 ts[k].Number, .string ts[k].Party, .int .i64 ts[k].Kind, .bool ts[k].Fair]) (xloadN Tryz.isAgg110 Tryz.sizeOf110 rfl (h16) rfl) rfl rfl ?_
 refine oalloc Tryz.zeroValue110 rfl rfl ?_
 intro b2 w2 e2 hb2 hz2 O2
 have E := E.trans e2
 replace G_7 := G_7.ext e2
 replace O2 : Own w2 b2 [.int .i64 0, .string ⟨#[]⟩, .int .i64 0, .bool false] 110 := O2
 refine va_ rfl rfl rfl ?_
 refine ostoreN (vs := _) Tryz.sizeOf110 rfl rfl O2 rfl (by simp) (by simp [Value.oneCell']) rfl ?_
 intro w3 on3 O3
 have hz3 := on3.size
 have E := on3.ext E (by omega)
 replace G_7 := G_7.only on3 (by omega)
 replace O3 : Own w3 b2 [.int .i64 ts[k].Number, .string ts[k].Party, .int .i64 ts[k].Kind, .bool ts[k].Fair] 110 := O3
 refine ops_nil ?_
 refine sr_ ?_
 refine oz_ (xfieldAddr fo110f0 rfl) rfl rfl ?_
 refine oz_ (v := .int .i64 ts[k].Number) (xload1 Tryz.isAgg2 rfl (O3.cells) rfl) rfl rfl ?_
 refine vm_ rfl rfl rfl ?_
 refine oz_ (xeql rfl rfl _ rfl) rfl rfl ?_
 refine ods (fun c21 => ?_) (fun c21 => ?_)
 rotate_left
 ·
  refine vm_ rfl rfl rfl ?_
  refine o2_ rfl rfl rfl rfl ?_
  refine og rfl rfl rfl ?_
  refine oz_ (xpick_f rfl rfl) rfl rfl ?_
  refine cf_ rfl ?_
  refine run_inBlock ?_
  refine run_region ?_
  refine oz_ (xadd rfl rfl (by unfold I64; omega)) rfl rfl ?_
  refine vm_ rfl rfl rfl ?_
  refine ops_nil ?_
  refine run_sub ?_ (hback3 (k + 1, q_7, m_7, c_7, ys_7, w3) (⟨E, G_7.wide (by omega) (by omega), by omega, by omega, by omega, by omega, by rw [biasB_step (by omega), decide_eq_false c21, hbi]; simp⟩) (by first | omega | (dsimp only; omega)))
  exact ⟨rfl, rfl, rfl, rfl, rfl, rfl, trivial⟩
 refine vm_ rfl rfl rfl ?_
 refine oz_ (v := .agg #[.int .i64 ts[k].Number, .string ts[k].Party, .int .i64 ts[k].Kind, .bool ts[k].Fair]) (xloadN Tryz.isAgg110 Tryz.sizeOf110 rfl (O3.cells) rfl) rfl rfl ?_
 refine vm_ rfl rfl rfl ?_
 refine oc (xcall Tryz.call161 rfl) rfl rfl rfl (isCause_ok ts[k] _ _ _ ps _ (H5.ext E)) ?_
 rintro _ w4 ⟨rfl, e4⟩
 have z4 := e4.size
 have E := E.trans e4
 replace G_7 := G_7.ext e4
 refine obs (fun c25 => ?_) (fun c25 => ?_)
 rotate_left
 ·
  refine oz_ (xpick_t rfl rfl) rfl rfl ?_
  refine cf_ rfl ?_
  refine run_inBlock ?_
  refine run_region ?_
  refine oz_ (xadd rfl rfl (by unfold I64; omega)) rfl rfl ?_
  refine vm_ rfl rfl rfl ?_
  refine ops_nil ?_
  refine run_sub ?_ (hback3 (k + 1, q_7, m_7, c_7, ys_7, w4) (⟨E, G_7.wide (by omega) (by omega), by omega, by omega, by omega, by omega, by rw [biasB_step (by omega), decide_eq_true c21, c25, hbi]; simp⟩) (by first | omega | (dsimp only; omega)))
  exact ⟨rfl, rfl, rfl, rfl, rfl, rfl, trivial⟩
 refine oz_ (xpick_t rfl rfl) rfl rfl ?_
 refine ct_ rfl ?_
 refine run_region ?_
 refine vm_ rfl rfl rfl ?_
 refine vm_ rfl rfl rfl ?_
 refine obuild (cs := [.int .i64 (k : Int)]) (sz := 1) Tryz.underlying24 inf2 rfl rfl (by decide) rfl rfl (by simp [Value.cells]) rfl rfl rfl ?_
 intro b5 w5 e5 hb5 hz5 O5
 have E := E.trans e5
 replace G_7 := G_7.ext e5
 refine oapp (bytes := 8) (nm := (m_7 + 1)) G_7 rfl rfl elem2 (Own.sl1 (y := (k : Int)) O5) (by intro h; cases h) (by intro y hy; rfl) (by intro y hy u hu; rw [List.mem_singleton] at hy; subst hy; revert u; simp [Value.oneCell', i64c]) (by omega) (by omega) (by omega) (by omega) rfl rfl ?_
 intro p6 c6_ w6 m6 G6
 have hz6 := m6.size
 have E := m6.toExt E (by omega)
 refine vn_ rfl rfl rfl ?_
 refine run_inBlock ?_
 refine run_region ?_
 refine oz_ (xadd rfl rfl (by unfold I64; omega)) rfl rfl ?_
 refine vm_ rfl rfl rfl ?_
 refine ops_nil ?_
 refine run_sub ?_ (hback3 (k + 1, p6, (m_7 + 1), c6_, (ys_7 ++ [(k : Int)]), w6) (⟨E, G6.wide (by omega) (by omega), by omega, by omega, by omega, by omega, by rw [biasB_step (by omega), decide_eq_true c21, c25, decide_eq_true (by omega)]; simp⟩) (by first | omega | (dsimp only; omega)))
 exact ⟨rfl, rfl, rfl, rfl, rfl, rfl, trivial⟩
set_option maxHeartbeats 1000000 in
theorem l13Causes_ok (u4 : Option Addr) (n4 v4 : Nat) (ts : List Tie) (u5 : Option Addr) (n5 v5 : Nat) (ps : List ByteArray) (num : Int) (w : World) (H4 : Sl Tie.cells 4 w u4 n4 v4 ts) (hx4 : ∀ t ∈ ts, t.Party.size ≤ 9223372036854775807) (H5 : Sl strc 1 w u5 n5 v5 ps) (hx5 : ∀ y ∈ ps, y.size ≤ 9223372036854775807) (hl4 : n4 ≤ 1000000) : Ret Tryz.prog 154 [.slice u4 n4 v4, .slice u5 n5 v5, .int .i64 num] w (fun v w' => Ext w w' ∧ ∃ q m d, v = .slice q m d ∧ decide (0 < m) = biasB ts ps num) := by
 refine ret_of_run (N := 36) Tryz.func154 rfl rfl rfl ?_
 have hn4 := H4.len
 have hn46 := H4.n64
 have hn5 := H5.len
 have hn56 := H5.n64
 have E : Ext w w := Ext.refl w
 refine sr_ ?_
 refine vn_ rfl rfl rfl ?_
 refine sr_ ?_
 refine obuild (cs := []) (sz := 1) Tryz.underlying24 inf2 rfl rfl (by decide) rfl rfl (by simp [Value.cells]) rfl rfl rfl ?_
 intro b1 w1 e1 hb1 hz1 O1
 have E := E.trans e1
 have G1 : Ow i64c 1 2 w1 b1 (b1 + 1) (some ⟨b1, 0, none⟩) 0 0 ([] : List Int) := Own.ow (by simpa [i64c] using O1) rfl (by omega) (Nat.le_refl _) (by omega) (by intro x hx; rfl)
 refine vn_ rfl rfl rfl ?_
 refine run_seq ?_
 refine sr_ ?_
 refine vn_ rfl rfl rfl ?_
 refine run_block ?_
 refine run_loop (ι := Nat × Option Addr × Nat × Nat × List Int × World) (fun x_ => match x_ with | (k, q_7, m_7, c_7, ys_7, wr) => (Ext w wr) ∧ (Ow i64c 1 2 wr b1 wr.heap.size q_7 m_7 c_7 ys_7) ∧ (b1 ≤ wr.heap.size) ∧ (w1.heap.size ≤ wr.heap.size) ∧ (k ≤ n4) ∧ (m_7 ≤ k) ∧ (decide (0 < m_7) = biasB (ts.take k) ps num)) (fun x_ => match x_ with | (k, q_7, m_7, c_7, ys_7, wr) => [(0, .slice u4 n4 v4), (1, .slice u5 n5 v5), (2, .int .i64 num), (7, .slice q_7 m_7 c_7), (8, .int .i64 (k : Int))]) (fun x_ => match x_ with | (k, q_7, m_7, c_7, ys_7, wr) => wr) (fun x_ => match x_ with | (k, q_7, m_7, c_7, ys_7, wr) => n4 - k) ?_ (0, (some ⟨b1, 0, none⟩), 0, 0, [], w1) (⟨E, G1.wide (by omega) (by omega), by omega, Nat.le_refl _, by omega, Nat.le_refl _, by simp [biasB]⟩) ⟨rfl, rfl, rfl, rfl, rfl, trivial⟩ rfl
 intro i_ hI_ hback3
 obtain ⟨k, q_7, m_7, c_7, ys_7, wr⟩ := i_
 obtain ⟨E, G_7, lo_7, lz_wr, hk, hm7, hbi⟩ := hI_
 try dsimp only
 have zr := E.size
 have lg_7 := G_7.len
 refine run_seq ?_
 refine sr_ ?_
 refine vm_ rfl rfl rfl ?_
 refine vm_ rfl rfl rfl ?_
 refine oz_ (xlen Tryz.underlying27 rfl) rfl rfl ?_
 refine oz_ (xlss rfl rfl _ rfl) rfl rfl ?_
 refine ods (fun c13 => ?_) (fun c13 => ?_)
 rotate_left
 ·
  refine cg_ rfl ?_
  refine run_exit rfl ?_
  refine sr_ ?_
  refine vm_ rfl rfl rfl ?_
  refine vn_ rfl rfl rfl ?_
  refine run_ret Tryz.func154 (res1 rfl rfl) ?_
  have hkn : k = n4 := by omega
  exact ⟨_, rfl, E, _, _, _, rfl, by rw [hbi, hkn, hn4, List.take_length]⟩
 refine ct_ rfl ?_
 refine run_skip ?_
 refine run_seq ?_
 refine run_block ?_
 refine sr_ ?_
 refine vm_ rfl rfl rfl ?_
 refine vm_ rfl rfl rfl ?_
 have h18 := (H4.ext E).at (i := k) (by omega)
 refine oz_ (xindexN (i := k) Tryz.underlying27 Tryz.sizeOf110 rfl rfl rfl ((H4.ext E).p (i := k) (by omega)) (by have := (H4.ext E).len; omega)) rfl rfl ?_
 refine oz_ (xfieldAddr fo110f0 rfl) rfl rfl ?_
 refine oz_ (v := .int .i64 ts[k].Number) (xload1 Tryz.isAgg2 rfl (h18) rfl) rfl rfl ?_
 refine vm_ rfl rfl rfl ?_
 refine oz_ (xeql rfl rfl _ rfl) rfl rfl ?_
 refine ods (fun c22 => ?_) (fun c22 => ?_)
 rotate_left
 ·
  refine vm_ rfl rfl rfl ?_
  refine o2_ rfl rfl rfl rfl ?_
  refine o2_ rfl rfl rfl rfl ?_
  refine o2_ rfl rfl rfl rfl ?_
  refine oz_ (xpick_f rfl rfl) rfl rfl ?_
  refine cf_ rfl ?_
  refine run_inBlock ?_
  refine run_region ?_
  refine vm_ rfl rfl rfl ?_
  refine oz_ (xadd rfl rfl (by unfold I64; omega)) rfl rfl ?_
  refine vn_ rfl rfl rfl ?_
  refine run_sub ?_ (hback3 (k + 1, q_7, m_7, c_7, ys_7, wr) (⟨E, G_7.wide (by omega) (by omega), by omega, by omega, by omega, by omega, by rw [biasB_step (by omega), decide_eq_false c22, hbi]; simp⟩) (by first | omega | (dsimp only; omega)))
  exact ⟨rfl, rfl, rfl, rfl, rfl, trivial⟩
 refine vm_ rfl rfl rfl ?_
 refine vm_ rfl rfl rfl ?_
 refine vm_ rfl rfl rfl ?_
 have h26 := (H4.ext E).at (i := k) (by omega)
 refine oz_ (xindexN (i := k) Tryz.underlying27 Tryz.sizeOf110 rfl rfl rfl ((H4.ext E).p (i := k) (by omega)) (by have := (H4.ext E).len; omega)) rfl rfl ?_
 refine oz_ (v := .agg #[.int .i64 ts[k].Number, .string ts[k].Party, .int .i64 ts[k].Kind, .bool ts[k].Fair]) (xloadN Tryz.isAgg110 Tryz.sizeOf110 rfl (h26) rfl) rfl rfl ?_
 refine vm_ rfl rfl rfl ?_
 refine oc (xcall Tryz.call163 rfl) rfl rfl rfl (l13Cause_ok ts[k] _ _ _ ps _ (H5.ext E)) ?_
 rintro _ w2 ⟨rfl, e2⟩
 have z2 := e2.size
 have E := E.trans e2
 replace G_7 := G_7.ext e2
 refine obs (fun c29 => ?_) (fun c29 => ?_)
 rotate_left
 ·
  refine oz_ (xpick_t rfl rfl) rfl rfl ?_
  refine cf_ rfl ?_
  refine run_inBlock ?_
  refine run_region ?_
  refine vm_ rfl rfl rfl ?_
  refine oz_ (xadd rfl rfl (by unfold I64; omega)) rfl rfl ?_
  refine vn_ rfl rfl rfl ?_
  refine run_sub ?_ (hback3 (k + 1, q_7, m_7, c_7, ys_7, w2) (⟨E, G_7.wide (by omega) (by omega), by omega, by omega, by omega, by omega, by rw [biasB_step (by omega), decide_eq_true c22, c29, hbi]; simp⟩) (by first | omega | (dsimp only; omega)))
  exact ⟨rfl, rfl, rfl, rfl, rfl, trivial⟩
 refine oz_ (xpick_t rfl rfl) rfl rfl ?_
 refine ct_ rfl ?_
 refine run_region ?_
 refine vm_ rfl rfl rfl ?_
 refine vm_ rfl rfl rfl ?_
 refine obuild (cs := [.int .i64 (k : Int)]) (sz := 1) Tryz.underlying24 inf2 rfl rfl (by decide) rfl rfl (by simp [Value.cells]) rfl rfl rfl ?_
 intro b3 w3 e3 hb3 hz3 O3
 have E := E.trans e3
 replace G_7 := G_7.ext e3
 refine oapp (bytes := 8) (nm := (m_7 + 1)) G_7 rfl rfl elem2 (Own.sl1 (y := (k : Int)) O3) (by intro h; cases h) (by intro y hy; rfl) (by intro y hy u hu; rw [List.mem_singleton] at hy; subst hy; revert u; simp [Value.oneCell', i64c]) (by omega) (by omega) (by omega) (by omega) rfl rfl ?_
 intro p4 c4_ w4 m4 G4
 have hz4 := m4.size
 have E := m4.toExt E (by omega)
 refine vn_ rfl rfl rfl ?_
 refine run_inBlock ?_
 refine run_region ?_
 refine vm_ rfl rfl rfl ?_
 refine oz_ (xadd rfl rfl (by unfold I64; omega)) rfl rfl ?_
 refine vn_ rfl rfl rfl ?_
 refine run_sub ?_ (hback3 (k + 1, p4, (m_7 + 1), c4_, (ys_7 ++ [(k : Int)]), w4) (⟨E, G4.wide (by omega) (by omega), by omega, by omega, by omega, by omega, by rw [biasB_step (by omega), decide_eq_true c22, c29, decide_eq_true (by omega)]; simp⟩) (by first | omega | (dsimp only; omega)))
 exact ⟨rfl, rfl, rfl, rfl, rfl, trivial⟩
set_option maxHeartbeats 400000 in
theorem biased_ok (u4 : Option Addr) (n4 v4 : Nat) (ts : List Tie) (u5 : Option Addr) (n5 v5 : Nat) (ps : List ByteArray) (num : Int) (w : World) (H4 : Sl Tie.cells 4 w u4 n4 v4 ts) (hx4 : ∀ t ∈ ts, t.Party.size ≤ 9223372036854775807) (H5 : Sl strc 1 w u5 n5 v5 ps) (hx5 : ∀ y ∈ ps, y.size ≤ 9223372036854775807) (hl4 : n4 ≤ 1000000) : Ret Tryz.prog 131 [.slice u4 n4 v4, .slice u5 n5 v5, .int .i64 num] w (Pv w (.bool (biasB ts ps num))) := by
 refine ret_of_run (N := 13) Tryz.func131 rfl rfl rfl ?_
 have E : Ext w w := Ext.refl w
 refine sr_ ?_
 refine vn_ rfl rfl rfl ?_
 refine sr_ ?_
 refine vm_ rfl rfl rfl ?_
 refine vm_ rfl rfl rfl ?_
 refine vm_ rfl rfl rfl ?_
 refine oc (xcall Tryz.call152 rfl) rfl rfl rfl (causes_ok _ _ _ ts _ _ _ ps (num) _ (H4.ext E) (by assumption) (H5.ext E) (by assumption) (by omega)) ?_
 rintro _ w1 ⟨e1, q10, m10, d10, rfl, hb10⟩
 have z1 := e1.size
 have E := E.trans e1
 refine oz_ (xlen Tryz.underlying24 rfl) rfl rfl ?_
 refine oz_ (xgtr rfl rfl _ rfl) rfl rfl ?_
 refine vn_ rfl rfl rfl ?_
 refine run_ret Tryz.func131 (res1 rfl rfl) ?_
 exact ⟨_, rfl, congrArg Value.bool (by rw [← hb10]; exact decide_eq_decide.2 (by omega)), E⟩
end Go.Proofs.YtchblgaklknkcaaGreat
