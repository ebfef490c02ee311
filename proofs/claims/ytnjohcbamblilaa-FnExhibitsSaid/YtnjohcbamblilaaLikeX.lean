/-
  The laws' own comparisons of what they drew. No condition beyond those written in each theorem.
-/
import Derived.Test.YtnjohcbamblilaaExhP
import Derived.Test.YtnjohcbamblilaaLikeI
namespace Go.Proofs.Ytnjohcbamblilaa
open Go.RowKit
set_option linter.unusedVariables false
set_option linter.unusedSimpArgs false
set_option linter.unusedSectionVars false
set_option maxRecDepth 4000

theorem eq77 (w : World) {a0 : Int} {a1 : ByteArray} {a2 : ByteArray} {a3 : Int} : (Op.equalIn 10000 77 (.agg #[.int .i64 a0, .string a1, .string a2, .int .i64 a3]) (.agg #[.int .i64 a0, .string a1, .string a2, .int .i64 a3])).run Try.prog w = .ok true w := by
  have h1 : Try.prog.underlying 77 = some (.struct (Try.prog.fieldsOf 77)) := by rw [Program.fieldsOf, Try.underlying77]
  rw [run_equalIn_struct w 9999 77 _ _ h1 (by kernel_rfl)]
  simp only [Program.fieldsOf, Try.underlying77]
  simp [Op.eqFields, part, run_equalIn_string, run_equalIn_int, Try.underlying2, Try.underlying9]
theorem xneq77 {N : Nat} {σ : Env} {w : World} {d : Option Tmp} {ty : TypeId} {pos : String} {aft : Array Edge} {gd : Option (Nat × Bool)} {x y : Operand} {u : TypeId} {a0 : Int} {a1 : ByteArray} {a2 : ByteArray} {a3 : Int}
    (hx : ev σ x = some (.agg #[.int .i64 a0, .string a1, .string a2, .int .i64 a3])) (hy : ev σ y = some (.agg #[.int .i64 a0, .string a1, .string a2, .int .i64 a3])) : XV Try.prog N σ ⟨d, .binOp .neq 77 x y u, ty, pos, aft, gd⟩ w (.bool (decide (1 = 0))) w := fun e he => by
  simp [execOp, he.eval hx, he.eval hy, run_eqGuard_agg (P := Try.prog) w .neq 77 x y _ _ (by kernel_rfl), run_neq_struct, eq77, Result.andThen]

theorem hold_size {x : Exhibit} (h : exSmall x) (k : Nat) : (hold x k).size ≤ 9223372036854775807 := by
  unfold hold
  split
  · exact h.2.1
  · split
    · rename_i y hy; exact (h.2.2 y (List.mem_of_getElem? hy)).2
    · exact Nat.zero_le _

set_option maxHeartbeats 1000000 in
theorem likeHandings_ok (p q : Option Addr) (n c m d : Nat) (xs : List Handing) (w : World) (H : Sl Handing.cells 4 w p n c xs) (K : Sl Handing.cells 4 w q m d xs) : Ret Try.prog 123 [.slice p n c, .slice q m d] w (Pv w (.bool true)) := by
  refine ret_of_run (N := 26) Try.func123 rfl rfl rfl ?_
  have hn := H.len
  have hm := K.len
  have hn6 := H.n64
  have E : Ext w w := Ext.refl w
  refine run_seq ?_
  refine run_region ?_
  refine ov (xassign rfl) rfl rfl rfl ?_
  refine ops_nil ?_
  refine run_seq ?_
  refine run_seq ?_
  refine run_region ?_
  refine ov (xmove rfl) rfl rfl rfl ?_
  refine ov (xlen Try.underlying47 rfl) rfl rfl rfl ?_
  refine ov (xmove rfl) rfl rfl rfl ?_
  refine ov (xlen Try.underlying47 rfl) rfl rfl rfl ?_
  refine ov (xneq rfl rfl _ rfl) rfl rfl rfl ?_
  refine ods (fun c10 => ?_) (fun c10 => ?_)
  · exfalso; omega
  ·
    refine ops_nil ?_
    refine run_cond_f rfl ?_
    refine run_skip ?_
    refine run_seq ?_
    refine run_seq ?_
    refine run_region ?_
    refine ov (xassign rfl) rfl rfl rfl ?_
    refine ops_nil ?_
    refine run_block ?_
    refine run_loop (ι := Nat × World) (fun x_ => match x_ with | (k, wr) => (Ext w wr) ∧ (w.heap.size ≤ wr.heap.size) ∧ (k ≤ n)) (fun x_ => match x_ with | (k, wr) => [(0, .slice p n c), (1, .slice q m d), (5, .int .i64 (k : Int))]) (fun x_ => match x_ with | (k, wr) => wr) (fun x_ => match x_ with | (k, wr) => n - k) ?_ (0, w) (⟨E, Nat.le_refl _, by omega⟩) ⟨rfl, rfl, rfl, trivial⟩ rfl
    intro i_ hI_ hback4
    obtain ⟨k, wr⟩ := i_
    obtain ⟨E, lz_wr, hk⟩ := hI_
    try dsimp only
    have zr := E.size
    refine run_seq ?_
    refine run_seq ?_
    refine run_region ?_
    refine ov (xmove rfl) rfl rfl rfl ?_
    refine ov (xmove rfl) rfl rfl rfl ?_
    refine ov (xlen Try.underlying47 rfl) rfl rfl rfl ?_
    refine ov (xlss rfl rfl _ rfl) rfl rfl rfl ?_
    refine ods (fun c14 => ?_) (fun c14 => ?_)
    ·
      refine ops_nil ?_
      refine run_cond_t rfl ?_
      refine run_skip ?_
      refine run_seq ?_
      refine run_block ?_
      refine run_seq ?_
      refine run_draw (by kernel_rfl) (by kernel_rfl) ?_
      refine qv (fun w' x_ => xmove rfl) rfl rfl rfl ?_
      refine qv (fun w' x_ => xmove rfl) rfl rfl rfl ?_
      have h19 := (H.ext E).at (i := k) (by omega)
      refine qv (fun w' x_ => xindexN (i := k) Try.underlying47 Try.sizeOf77 rfl rfl rfl ((H.ext E).p (i := k) (by omega)) (by have := (H.ext E).len; omega)) rfl rfl rfl ?_
      refine qv (v := .agg #[.int .i64 xs[k].Day, .string xs[k].From, .string xs[k].To, .int .i64 xs[k].Seal]) (fun w' x_ => xloadN Try.isAgg77 Try.sizeOf77 rfl ((h19).ext x_) rfl) rfl rfl rfl ?_
      refine qv (fun w' x_ => xmove rfl) rfl rfl rfl ?_
      refine qv (fun w' x_ => xmove rfl) rfl rfl rfl ?_
      have h23 := (K.ext E).at (i := k) (by omega)
      refine qv (fun w' x_ => xindexN (i := k) Try.underlying47 Try.sizeOf77 rfl rfl rfl ((K.ext E).p (i := k) (by omega)) (by have := (K.ext E).len; omega)) rfl rfl rfl ?_
      refine qv (v := .agg #[.int .i64 xs[k].Day, .string xs[k].From, .string xs[k].To, .int .i64 xs[k].Seal]) (fun w' x_ => xloadN Try.isAgg77 Try.sizeOf77 rfl ((h23).ext x_) rfl) rfl rfl rfl ?_
      refine qv (fun w' x_ => xneq77 rfl rfl) rfl rfl rfl ?_
      refine qds (fun c25 => ?_) (fun c25 => ?_)
      · exfalso; first | omega | exact absurd c25 (by decide)
      ·
        refine q_nil ?_
        intro w1 e1
        have z1 := e1.size
        have E := E.trans e1
        refine run_cond_f rfl ?_
        refine run_skip ?_
        refine run_inBlock ?_
        refine run_region ?_
        refine ov (xmove rfl) rfl rfl rfl ?_
        refine ov (xadd rfl rfl (by unfold I64; omega)) rfl rfl rfl ?_
        refine ov (xassign rfl) rfl rfl rfl ?_
        refine ops_nil ?_
        refine run_sub ?_ (hback4 (k + 1, w1) (⟨E, by omega, by omega⟩) (by first | omega | (dsimp only; omega)))
        exact ⟨rfl, rfl, rfl, trivial⟩
    ·
      refine ops_nil ?_
      refine run_cond_f rfl ?_
      refine run_exit rfl ?_
      refine run_seq ?_
      refine run_region ?_
      refine ov (xassign rfl) rfl rfl rfl ?_
      refine ops_nil ?_
      refine run_ret Try.func123 (res1 rfl rfl) ?_
      exact ⟨_, rfl, rfl, E⟩

set_option maxHeartbeats 1000000 in
theorem likeExhibit_ok (x : Exhibit) (p q : Option Addr) (n c m d : Nat) (w : World) (H : Sl Handing.cells 4 w p n c x.Chain) (K : Sl Handing.cells 4 w q m d x.Chain) : Ret Try.prog 64 [.agg #[.string x.Code, .string x.Found, .int .i64 x.Day, .int .i64 x.Seal, .slice p n c], .agg #[.string x.Code, .string x.Found, .int .i64 x.Day, .int .i64 x.Seal, .slice q m d]] w (Pv w (.bool true)) := by
  refine ret_of_run (N := 38) Try.func64 rfl rfl rfl ?_
  have E : Ext w w := Ext.refl w
  refine run_seq ?_
  refine run_region ?_
  refine obox rfl rfl rfl ?_
  intro b1 w1 e1 hb1 hz1 O1
  have E := E.trans e1
  replace O1 : Own w1 b1 [.string x.Code, .string x.Found, .int .i64 x.Day, .int .i64 x.Seal, .slice p n c] 49 := O1
  refine obox rfl rfl rfl ?_
  intro b2 w2 e2 hb2 hz2 O2
  have E := E.trans e2
  replace O1 := O1.ext e2
  replace O2 : Own w2 b2 [.string x.Code, .string x.Found, .int .i64 x.Day, .int .i64 x.Seal, .slice q m d] 49 := O2
  refine ov (xassign rfl) rfl rfl rfl ?_
  refine ops_nil ?_
  refine run_seq ?_
  refine run_region ?_
  refine ov (xfieldAddr fo49f0 rfl) rfl rfl rfl ?_
  refine ov (v := .string x.Code) (xload1 Try.isAgg9 rfl (O1.cells) rfl) rfl rfl rfl ?_
  refine ov (xfieldAddr fo49f0 rfl) rfl rfl rfl ?_
  refine ov (v := .string x.Code) (xload1 Try.isAgg9 rfl (O2.cells) rfl) rfl rfl rfl ?_
  refine ov (xseql rfl rfl _ rfl) rfl rfl rfl ?_
  refine ods (fun c9 => ?_) (fun c9 => ?_)
  ·
    refine ov (xmove rfl) rfl rfl rfl ?_
    refine ov (xfieldAddr fo49f1 rfl) rfl rfl rfl ?_
    refine ov (v := .string x.Found) (xload1 Try.isAgg9 rfl (O1.cells) rfl) rfl rfl rfl ?_
    refine ov (xfieldAddr fo49f1 rfl) rfl rfl rfl ?_
    refine ov (v := .string x.Found) (xload1 Try.isAgg9 rfl (O2.cells) rfl) rfl rfl rfl ?_
    refine ov (xseql rfl rfl _ rfl) rfl rfl rfl ?_
    refine ods (fun c15 => ?_) (fun c15 => ?_)
    ·
      refine ov (xpick_t rfl rfl) rfl rfl rfl ?_
      refine ov (xmove rfl) rfl rfl rfl ?_
      refine ov (xfieldAddr fo49f2 rfl) rfl rfl rfl ?_
      refine ov (v := .int .i64 x.Day) (xload1 Try.isAgg2 rfl (O1.cells) rfl) rfl rfl rfl ?_
      refine ov (xfieldAddr fo49f2 rfl) rfl rfl rfl ?_
      refine ov (v := .int .i64 x.Day) (xload1 Try.isAgg2 rfl (O2.cells) rfl) rfl rfl rfl ?_
      refine ov (xeql rfl rfl _ rfl) rfl rfl rfl ?_
      refine ods (fun c22 => ?_) (fun c22 => ?_)
      ·
        refine ov (xpick_t rfl rfl) rfl rfl rfl ?_
        refine ov (xmove rfl) rfl rfl rfl ?_
        refine ov (xfieldAddr fo49f3 rfl) rfl rfl rfl ?_
        refine ov (v := .int .i64 x.Seal) (xload1 Try.isAgg2 rfl (O1.cells) rfl) rfl rfl rfl ?_
        refine ov (xfieldAddr fo49f3 rfl) rfl rfl rfl ?_
        refine ov (v := .int .i64 x.Seal) (xload1 Try.isAgg2 rfl (O2.cells) rfl) rfl rfl rfl ?_
        refine ov (xeql rfl rfl _ rfl) rfl rfl rfl ?_
        refine ods (fun c29 => ?_) (fun c29 => ?_)
        ·
          refine ov (xpick_t rfl rfl) rfl rfl rfl ?_
          refine ov (xmove rfl) rfl rfl rfl ?_
          refine ov (xfieldAddr fo49f4 rfl) rfl rfl rfl ?_
          refine ov (v := .slice p n c) (xload1 Try.isAgg47 rfl (O1.cells) rfl) rfl rfl rfl ?_
          refine ov (xfieldAddr fo49f4 rfl) rfl rfl rfl ?_
          refine ov (v := .slice q m d) (xload1 Try.isAgg47 rfl (O2.cells) rfl) rfl rfl rfl ?_
          refine oc (xcall Try.call123 rfl) rfl rfl rfl (likeHandings_ok _ _ _ _ _ _ _ _ ((H.ext E)) ((K.ext E))) ?_
          rintro _ w3 ⟨rfl, e3⟩
          have z3 := e3.size
          have E := E.trans e3
          replace O1 := O1.ext e3
          replace O2 := O2.ext e3
          refine ov (xpick_t rfl rfl) rfl rfl rfl ?_
          refine ov (xassign rfl) rfl rfl rfl ?_
          refine ops_nil ?_
          refine run_ret Try.func64 (res1 rfl rfl) ?_
          exact ⟨_, rfl, rfl, E⟩
        · exfalso; exact absurd rfl c29
      · exfalso; exact absurd rfl c22
    · exfalso; exact absurd rfl c15
  · exfalso; exact absurd rfl c9

set_option maxHeartbeats 400000 in
theorem FirstBreak_ok (p : Option Addr) (n c : Nat) (x : Exhibit) (w : World) (H : Sl Handing.cells 4 w p n c x.Chain) (hx : exSmall x) : Ret Try.prog 61 [.agg #[.string x.Code, .string x.Found, .int .i64 x.Day, .int .i64 x.Seal, .slice p n c]] w (Pv w (.tuple #[.int .i64 (firstBreak x).1, .int .i64 (firstBreak x).2])) := by
  refine ret_of_run (N := 11) Try.func61 rfl rfl rfl ?_
  have hn := H.len
  have hn6 := H.n64
  have E : Ext w w := Ext.refl w
  refine run_seq ?_
  refine run_region ?_
  refine obox rfl rfl rfl ?_
  intro b1 w1 e1 hb1 hz1 O1
  have E := E.trans e1
  replace O1 : Own w1 b1 [.string x.Code, .string x.Found, .int .i64 x.Day, .int .i64 x.Seal, .slice p n c] 49 := O1
  refine ov (xassign rfl) rfl rfl rfl ?_
  refine ov (xassign rfl) rfl rfl rfl ?_
  refine ops_nil ?_
  refine run_seq ?_
  refine run_seq ?_
  refine run_region ?_
  refine ov (v := .agg #[.string x.Code, .string x.Found, .int .i64 x.Day, .int .i64 x.Seal, .slice p n c]) (xloadN Try.isAgg49 Try.sizeOf49 rfl (O1.cells) rfl) rfl rfl rfl ?_
  refine oc (xcall Try.call66 rfl) rfl rfl rfl (IsExhibit_ok _ _ _ _ _ (H.ext E) (by assumption)) ?_
  rintro _ w2 ⟨rfl, e2⟩
  have z2 := e2.size
  have E := E.trans e2
  replace O1 := O1.ext e2
  refine obs (fun c5 => ?_) (fun c5 => ?_)
  ·
    refine ov (xnot rfl) rfl rfl rfl ?_
    refine ops_nil ?_
    refine run_cond_f rfl ?_
    refine run_skip ?_
    refine run_seq ?_
    refine run_seq ?_
    refine run_region ?_
    refine ov (v := .agg #[.string x.Code, .string x.Found, .int .i64 x.Day, .int .i64 x.Seal, .slice p n c]) (xloadN Try.isAgg49 Try.sizeOf49 rfl (O1.cells) rfl) rfl rfl rfl ?_
    refine oc (xcall Try.call109 rfl) rfl rfl rfl (unbroken_ok _ _ _ _ _ (H.ext E)) ?_
    rintro _ w3 ⟨rfl, e3⟩
    have z3 := e3.size
    have E := E.trans e3
    replace O1 := O1.ext e3
    refine obs (fun c8 => ?_) (fun c8 => ?_)
    ·
      refine ops_nil ?_
      refine run_cond_t rfl ?_
      refine run_seq ?_
      refine run_region ?_
      refine ov (xassign rfl) rfl rfl rfl ?_
      refine ov (xassign rfl) rfl rfl rfl ?_
      refine ops_nil ?_
      refine run_ret Try.func61 (res2 rfl rfl rfl) ?_
      exact ⟨_, rfl, by rw [firstBreak, if_neg (by simp [c5]), if_pos (by simpa using c8)], E⟩
    ·
      refine ops_nil ?_
      refine run_cond_f rfl ?_
      refine run_skip ?_
      refine run_seq ?_
      refine run_region ?_
      refine ov (v := .agg #[.string x.Code, .string x.Found, .int .i64 x.Day, .int .i64 x.Seal, .slice p n c]) (xloadN Try.isAgg49 Try.sizeOf49 rfl (O1.cells) rfl) rfl rfl rfl ?_
      refine oc (xcall Try.call105 rfl) rfl rfl rfl (firstBreak_ok _ _ _ _ _ (H.ext E)) ?_
      rintro _ w4 ⟨rfl, e4⟩
      have z4 := e4.size
      have E := E.trans e4
      replace O1 := O1.ext e4
      refine ov (xassign rfl) rfl rfl rfl ?_
      refine ov (xassign rfl) rfl rfl rfl ?_
      refine ops_nil ?_
      refine run_ret Try.func61 (res2 rfl rfl rfl) ?_
      exact ⟨_, rfl, by rw [firstBreak, if_neg (by simp [c5]), if_neg (by simpa using c8)], E⟩
  ·
    refine ov (xnot rfl) rfl rfl rfl ?_
    refine ops_nil ?_
    refine run_cond_t rfl ?_
    refine run_seq ?_
    refine run_region ?_
    refine ov (xassign rfl) rfl rfl rfl ?_
    refine ov (xassign rfl) rfl rfl rfl ?_
    refine ops_nil ?_
    refine run_ret Try.func61 (res2 rfl rfl rfl) ?_
    exact ⟨_, rfl, by rw [firstBreak, if_pos c5], E⟩

set_option maxHeartbeats 400000 in
theorem sFirstBreak_ok (p : Option Addr) (n c : Nat) (x : Exhibit) (w : World) (H : Sl Handing.cells 4 w p n c x.Chain) (hx : exSmall x) : Ret Try.prog 62 [.agg #[.string x.Code, .string x.Found, .int .i64 x.Day, .int .i64 x.Seal, .slice p n c]] w (Pv w (.tuple #[.int .i64 (firstBreak x).1, .int .i64 (firstBreak x).2])) := by
  refine ret_of_run (N := 13) Try.func62 rfl rfl rfl ?_
  have hn := H.len
  have hn6 := H.n64
  have hz := brkZ_or x
  have hbl := brk_le x
  have E : Ext w w := Ext.refl w
  refine run_seq ?_
  refine run_region ?_
  refine obox rfl rfl rfl ?_
  intro b1 w1 e1 hb1 hz1 O1
  have E := E.trans e1
  replace O1 : Own w1 b1 [.string x.Code, .string x.Found, .int .i64 x.Day, .int .i64 x.Seal, .slice p n c] 49 := O1
  refine ov (xassign rfl) rfl rfl rfl ?_
  refine ov (xassign rfl) rfl rfl rfl ?_
  refine ops_nil ?_
  refine run_seq ?_
  refine run_seq ?_
  refine run_region ?_
  refine ov (v := .agg #[.string x.Code, .string x.Found, .int .i64 x.Day, .int .i64 x.Seal, .slice p n c]) (xloadN Try.isAgg49 Try.sizeOf49 rfl (O1.cells) rfl) rfl rfl rfl ?_
  refine oc (xcall Try.call101 rfl) rfl rfl rfl (sIsExhibit_ok _ _ _ _ _ (H.ext E) (by assumption)) ?_
  rintro _ w2 ⟨rfl, e2⟩
  have z2 := e2.size
  have E := E.trans e2
  replace O1 := O1.ext e2
  refine obs (fun c6 => ?_) (fun c6 => ?_)
  ·
    refine ov (xnot rfl) rfl rfl rfl ?_
    refine ops_nil ?_
    refine run_cond_f rfl ?_
    refine run_skip ?_
    refine run_seq ?_
    refine run_region ?_
    refine ov (v := .agg #[.string x.Code, .string x.Found, .int .i64 x.Day, .int .i64 x.Seal, .slice p n c]) (xloadN Try.isAgg49 Try.sizeOf49 rfl (O1.cells) rfl) rfl rfl rfl ?_
    refine oc (xcall Try.call103 rfl) rfl rfl rfl (l23Break_ok _ _ _ _ _ (H.ext E)) ?_
    rintro _ w3 ⟨rfl, e3⟩
    have z3 := e3.size
    have E := E.trans e3
    replace O1 := O1.ext e3
    refine ov (xassign rfl) rfl rfl rfl ?_
    refine ops_nil ?_
    refine run_seq ?_
    refine run_seq ?_
    refine run_region ?_
    refine ov (xmove rfl) rfl rfl rfl ?_
    refine ov (xlss rfl rfl _ rfl) rfl rfl rfl ?_
    refine ods (fun c11 => ?_) (fun c11 => ?_)
    ·
      refine ops_nil ?_
      refine run_cond_t rfl ?_
      refine run_seq ?_
      refine run_region ?_
      refine ov (xassign rfl) rfl rfl rfl ?_
      refine ov (xassign rfl) rfl rfl rfl ?_
      refine ops_nil ?_
      refine run_ret Try.func62 (res2 rfl rfl rfl) ?_
      exact ⟨_, rfl, by rw [firstBreak, if_neg (by simp [c6]), if_pos (by omega)], E⟩
    ·
      refine ops_nil ?_
      refine run_cond_f rfl ?_
      refine run_skip ?_
      refine run_seq ?_
      refine run_region ?_
      refine ov (xmove rfl) rfl rfl rfl ?_
      refine ov (xassign rfl) rfl rfl rfl ?_
      refine ov (xassign rfl) rfl rfl rfl ?_
      refine ops_nil ?_
      refine run_ret Try.func62 (res2 rfl rfl rfl) ?_
      have hzz : brkZ x = (brk x : Int) := by omega
      exact ⟨_, rfl, by rw [firstBreak, if_neg (by simp [c6]), if_neg (by omega), hzz], E⟩
  ·
    refine ov (xnot rfl) rfl rfl rfl ?_
    refine ops_nil ?_
    refine run_cond_t rfl ?_
    refine run_seq ?_
    refine run_region ?_
    refine ov (xassign rfl) rfl rfl rfl ?_
    refine ov (xassign rfl) rfl rfl rfl ?_
    refine ops_nil ?_
    refine run_ret Try.func62 (res2 rfl rfl rfl) ?_
    exact ⟨_, rfl, by rw [firstBreak, if_pos c6], E⟩

set_option maxHeartbeats 2000000 in
theorem DrawAreExhibits_ok (p : Option Addr) (n c : Nat) (bs : List Int) (w : World) (H : Sl u8c 1 w p n c bs) (hbs : ∀ x ∈ bs, 0 ≤ x ∧ x ≤ 255) : Ret Try.prog 63 [.slice p n c] w (fun v w' => Ext w w' ∧ ∃ (xs : List Exhibit) (q : Option Addr) (m d : Nat), v = .slice q m d ∧ (∀ x ∈ xs, exOk x) ∧ m ≤ 12 ∧ OnExhibitS w' w.heap.size w'.heap.size q m d xs) := by
  refine ret_of_run (N := 6) Try.func63 rfl rfl rfl ?_
  have hfar := H.blk (fun x => by simp [u8c])
  have E : Ext w w := Ext.refl w
  refine run_seq ?_
  refine run_region ?_
  refine ov (xassign rfl) rfl rfl rfl ?_
  refine ops_nil ?_
  refine run_seq ?_
  refine run_region ?_
  refine ov (xmove rfl) rfl rfl rfl ?_
  refine oc (xcall Try.call112 rfl) rfl rfl rfl (l01From_ok _ _ _ _ _ (H.ext E) (by assumption) w.heap.size hfar (by omega)) ?_
  rintro _ w1 ⟨e1, b4_, rfl, hcb4, S⟩
  have z1 := e1.size
  have E := E.trans e1
  have hcc4 := S.cb
  have hbl4 := S.lt
  refine oc (xcall Try.call122 rfl) rfl rfl rfl (l23List_ok b4_ w.heap.size _ S) ?_
  rintro _ w2 ⟨r5_0, r5_1, r5_2, r5_3, rfl, h5_0, h5_1, h5_2, m2, S2⟩
  have z2 := m2.size
  have E := m2.toExt E (by omega)
  replace S := S2
  refine ov (xassign rfl) rfl rfl rfl ?_
  refine ops_nil ?_
  refine run_ret Try.func63 (res1 rfl rfl) ?_
  exact ⟨_, rfl, E, _, _, _, _, rfl, h5_0, by omega, h5_2.wide (by omega) (by omega)⟩

set_option maxHeartbeats 2000000 in
theorem DrawHandOver_ok (p : Option Addr) (n c : Nat) (bs : List Int) (w : World) (H : Sl u8c 1 w p n c bs) (hbs : ∀ x ∈ bs, 0 ≤ x ∧ x ≤ 255) : Ret Try.prog 58 [.slice p n c] w (fun v w' => Ext w w' ∧ ∃ (x : Exhibit) (q : Option Addr) (m d : Nat) (r : Handing), v = .tuple #[.agg #[.string x.Code, .string x.Found, .int .i64 x.Day, .int .i64 x.Seal, .slice q m d], .agg #[.int .i64 r.Day, .string r.From, .string r.To, .int .i64 r.Seal]] ∧ exOk x ∧ m ≤ 13 ∧ Ow Handing.cells 4 77 w' w.heap.size w'.heap.size q m d x.Chain ∧ (r.From.size ≤ 9223372036854775807 ∧ r.To.size ≤ 9223372036854775807)) := by
  refine ret_of_run (N := 36) Try.func58 rfl rfl rfl ?_
  have hfar := H.blk (fun x => by simp [u8c])
  have E : Ext w w := Ext.refl w
  refine run_seq ?_
  refine run_region ?_
  refine oalloc Try.zeroValue49 rfl rfl ?_
  intro b1 w1 e1 hb1 hz1 O1
  have E := E.trans e1
  replace O1 : Own w1 b1 [.string ⟨#[]⟩, .string ⟨#[]⟩, .int .i64 0, .int .i64 0, .slice none 0 0] 49 := O1
  refine oalloc Try.zeroValue77 rfl rfl ?_
  intro b2 w2 e2 hb2 hz2 O2
  have E := E.trans e2
  replace O1 := O1.ext e2
  replace O2 : Own w2 b2 [.int .i64 0, .string ⟨#[]⟩, .string ⟨#[]⟩, .int .i64 0] 77 := O2
  refine ops_nil ?_
  refine run_seq ?_
  refine run_region ?_
  refine ov (xmove rfl) rfl rfl rfl ?_
  refine oc (xcall Try.call112 rfl) rfl rfl rfl (l01From_ok _ _ _ _ _ (H.ext E) (by assumption) w.heap.size hfar (by omega)) ?_
  rintro _ w3 ⟨e3, b10_, rfl, hcb10, S⟩
  have z3 := e3.size
  have E := E.trans e3
  replace O1 := O1.ext e3
  replace O2 := O2.ext e3
  have hcc10 := S.cb
  have hbl10 := S.lt
  refine ov (xassign rfl) rfl rfl rfl ?_
  refine ops_nil ?_
  refine run_seq ?_
  refine run_region ?_
  refine ov (xmove rfl) rfl rfl rfl ?_
  refine oc (xcall Try.call113 rfl) rfl rfl rfl (l23Draw_ok b10_ w.heap.size (⟨#[107, 110, 105, 102, 101]⟩) _ S (by first | omega | decide)) ?_
  rintro _ w4 ⟨r12_0, r12_1, r12_2, r12_3, rfl, h12_0, h12_1, h12_2, m4, S4⟩
  have z4 := m4.size
  have E := m4.toExt E (by omega)
  replace O1 := m4.own O1 (by omega)
  replace O2 := m4.own O2 (by omega)
  replace S := S4
  have h12_2l := h12_2.len
  have h12_0d := h12_0.2.2.1
  refine oalloc Try.zeroValue49 rfl rfl ?_
  intro b5 w5 e5 hb5 hz5 O5
  have E := E.trans e5
  replace S := S.ext e5
  replace h12_2 := h12_2.ext e5
  replace O1 := O1.ext e5
  replace O2 := O2.ext e5
  replace O5 : Own w5 b5 [.string ⟨#[]⟩, .string ⟨#[]⟩, .int .i64 0, .int .i64 0, .slice none 0 0] 49 := O5
  refine ostoreN (vs := _) Try.sizeOf49 rfl rfl O5 rfl (by simp) (by simp [Value.oneCell']) rfl ?_
  intro w6 on6 O6
  have hz6 := on6.size
  have E := on6.ext E (by omega)
  replace S := S.off (Mk.ofOnly on6 (Nat.le_refl _) (Nat.lt_succ_self _)) (by omega)
  replace h12_2 := h12_2.only on6 (by omega)
  replace O1 := on6.own O1 (by omega)
  replace O2 := on6.own O2 (by omega)
  replace O6 : Own w6 b5 [.string (r12_0).Code, .string (r12_0).Found, .int .i64 (r12_0).Day, .int .i64 (r12_0).Seal, .slice r12_1 r12_2 r12_3] 49 := O6
  refine ops_nil ?_
  refine run_seq ?_
  refine run_region ?_
  refine ov (v := .agg #[.string (r12_0).Code, .string (r12_0).Found, .int .i64 (r12_0).Day, .int .i64 (r12_0).Seal, .slice r12_1 r12_2 r12_3]) (xloadN Try.isAgg49 Try.sizeOf49 rfl (O6.cells) rfl) rfl rfl rfl ?_
  refine oc (xcall Try.call102 rfl) rfl rfl rfl (l23Holder_ok _ _ _ r12_0 _ (h12_2.sl) 20000) ?_
  rintro _ w7 ⟨rfl, e7⟩
  have z7 := e7.size
  have E := E.trans e7
  replace S := S.ext e7
  replace h12_2 := h12_2.ext e7
  replace O1 := O1.ext e7
  replace O2 := O2.ext e7
  replace O6 := O6.ext e7
  refine ov (xmove rfl) rfl rfl rfl ?_
  refine ov (xextract rfl rfl) rfl rfl rfl ?_
  refine ov (xextract rfl rfl) rfl rfl rfl ?_
  refine ov (xassign rfl) rfl rfl rfl ?_
  refine ov (xassign rfl) rfl rfl rfl ?_
  refine ops_nil ?_
  refine run_seq ?_
  refine run_region ?_
  have hsz := hold_size (exOk_small h12_0) (past r12_0 20000)
  refine ov (xmove rfl) rfl rfl rfl ?_
  refine oc (xcall Try.call114 rfl) rfl rfl rfl (l01Next_ok b10_ w.heap.size (60) _ S) ?_
  rintro _ w8 ⟨r19_0, rfl, h19_0, h19_1, m8, S8⟩
  have z8 := m8.size
  have E := m8.toExt E (by omega)
  replace h12_2 := h12_2.off m8 (by omega)
  replace O1 := m8.own O1 (by omega)
  replace O2 := m8.own O2 (by omega)
  replace O6 := m8.own O6 (by omega)
  replace S := S8
  refine ov (xadd rfl rfl (by unfold I64; omega)) rfl rfl rfl ?_
  refine ov (xmove rfl) rfl rfl rfl ?_
  refine ov (xmove rfl) rfl rfl rfl ?_
  refine oc (xcall Try.call120 rfl) rfl rfl rfl (l01Good_ok b10_ w.heap.size _ S) ?_
  rintro _ w9 ⟨r23_0, rfl, h23_0, m9, S9⟩
  have z9 := m9.size
  have E := m9.toExt E (by omega)
  replace h12_2 := h12_2.off m9 (by omega)
  replace O1 := m9.own O1 (by omega)
  replace O2 := m9.own O2 (by omega)
  replace O6 := m9.own O6 (by omega)
  replace S := S9
  refine ov (xmove rfl) rfl rfl rfl ?_
  refine oc (xcall Try.call114 rfl) rfl rfl rfl (l01Next_ok b10_ w.heap.size (9) _ S) ?_
  rintro _ w10 ⟨r25_0, rfl, h25_0, h25_1, m10, S10⟩
  have z10 := m10.size
  have E := m10.toExt E (by omega)
  replace h12_2 := h12_2.off m10 (by omega)
  replace O1 := m10.own O1 (by omega)
  replace O2 := m10.own O2 (by omega)
  replace O6 := m10.own O6 (by omega)
  replace S := S10
  refine ov (xadd rfl rfl (by unfold I64; omega)) rfl rfl rfl ?_
  refine ov (xbuild (vs := [.int .i64 (120 + r19_0), .string (hold r12_0 (past r12_0 20000)), .string r23_0, .int .i64 (1 + r25_0)]) (cells := #[.int .i64 (120 + r19_0), .string (hold r12_0 (past r12_0 20000)), .string r23_0, .int .i64 (1 + r25_0)]) rfl (by kernel_rfl)) rfl rfl rfl ?_
  refine oalloc Try.zeroValue77 rfl rfl ?_
  intro b11 w11 e11 hb11 hz11 O11
  have E := E.trans e11
  replace S := S.ext e11
  replace h12_2 := h12_2.ext e11
  replace O1 := O1.ext e11
  replace O2 := O2.ext e11
  replace O6 := O6.ext e11
  replace O11 : Own w11 b11 [.int .i64 0, .string ⟨#[]⟩, .string ⟨#[]⟩, .int .i64 0] 77 := O11
  refine ostoreN (vs := _) Try.sizeOf77 rfl rfl O11 rfl (by simp) (by simp [Value.oneCell']) rfl ?_
  intro w12 on12 O12
  have hz12 := on12.size
  have E := on12.ext E (by omega)
  replace S := S.off (Mk.ofOnly on12 (Nat.le_refl _) (Nat.lt_succ_self _)) (by omega)
  replace h12_2 := h12_2.only on12 (by omega)
  replace O1 := on12.own O1 (by omega)
  replace O2 := on12.own O2 (by omega)
  replace O6 := on12.own O6 (by omega)
  replace O12 : Own w12 b11 [.int .i64 (120 + r19_0), .string (hold r12_0 (past r12_0 20000)), .string r23_0, .int .i64 (1 + r25_0)] 77 := O12
  refine ops_nil ?_
  refine run_seq ?_
  refine run_seq ?_
  refine run_region ?_
  refine ov (xmove rfl) rfl rfl rfl ?_
  refine oc (xcall Try.call114 rfl) rfl rfl rfl (l01Next_ok b10_ w.heap.size (8) _ S) ?_
  rintro _ w13 ⟨r29_0, rfl, h29_0, h29_1, m13, S13⟩
  have z13 := m13.size
  have E := m13.toExt E (by omega)
  replace h12_2 := h12_2.off m13 (by omega)
  replace O1 := m13.own O1 (by omega)
  replace O2 := m13.own O2 (by omega)
  replace O6 := m13.own O6 (by omega)
  replace O12 := m13.own O12 (by omega)
  replace S := S13
  refine ov (xeql rfl rfl _ rfl) rfl rfl rfl ?_
  refine ods (fun c30 => ?_) (fun c30 => ?_)
  ·
    refine ops_nil ?_
    refine run_cond_t rfl ?_
    refine run_region ?_
    refine ov (xmove rfl) rfl rfl rfl ?_
    refine oc (xcall Try.call121 rfl) rfl rfl rfl (l01DrawWord_ok b10_ w.heap.size _ S) ?_
    rintro _ w14 ⟨r32_0, rfl, h32_0, m14, S14⟩
    have z14 := m14.size
    have E := m14.toExt E (by omega)
    replace h12_2 := h12_2.off m14 (by omega)
    replace O1 := m14.own O1 (by omega)
    replace O2 := m14.own O2 (by omega)
    replace O6 := m14.own O6 (by omega)
    replace O12 := m14.own O12 (by omega)
    replace S := S14
    refine ov (xfieldAddr fo77f1 rfl) rfl rfl rfl ?_
    refine ostore1 Try.sizeOf9 rfl rfl O12 (by simp) rfl rfl ?_
    intro w15 on15 O15
    have hz15 := on15.size
    have E := on15.ext E (by omega)
    replace S := S.off (Mk.ofOnly on15 (Nat.le_refl _) (Nat.lt_succ_self _)) (by omega)
    replace h12_2 := h12_2.only on15 (by omega)
    replace O1 := on15.own O1 (by omega)
    replace O2 := on15.own O2 (by omega)
    replace O6 := on15.own O6 (by omega)
    replace O15 : Own w15 b11 [.int .i64 (120 + r19_0), .string r32_0, .string r23_0, .int .i64 (1 + r25_0)] 77 := O15
    refine ops_nil ?_
    refine run_seq ?_
    have RE := E
    have RO1 := O1
    have RO2 := O2
    have RO6 := O6
    have RO15 := O15
    refine run_heldE E (ι := ByteArray × Unit) (fun x_ w' => match x_ with | (fr, u_) => Ext w w' ∧ fr.size ≤ 9223372036854775807 ∧ Own w' b1 [.string r12_0.Code, .string r12_0.Found, .int .i64 r12_0.Day, .int .i64 r12_0.Seal, .slice r12_1 r12_2 r12_3] 49 ∧ Own w' b2 [.int .i64 (120 + r19_0), .string fr, .string r23_0, .int .i64 (1 + r25_0)] 77 ∧ Ow Handing.cells 4 77 w' w.heap.size w'.heap.size r12_1 r12_2 r12_3 r12_0.Chain) (fun x_ => match x_ with | (fr, u_) => [(2, .pointer (some ⟨b1, 0, none⟩)), (3, .pointer (some ⟨b2, 0, none⟩))]) (by kernel_rfl) ?_ ?_
    · intro w0_ F
      have z0_ := F.size
      have E := E.trans F
      replace S := S.ext F
      replace h12_2 := h12_2.ext F
      replace O1 := O1.ext F
      replace O2 := O2.ext F
      replace O6 := O6.ext F
      replace O15 := O15.ext F
      replace F := E
      refine h_ready (rs := [0, 1]) (by kernel_rfl) (by decide) ⟨?_, ?_, trivial⟩
      ·
        refine hs_val (v := .agg #[.string (r12_0).Code, .string (r12_0).Found, .int .i64 (r12_0).Day, .int .i64 (r12_0).Seal, .slice r12_1 r12_2 r12_3]) rfl (xloadN Try.isAgg49 Try.sizeOf49 rfl (O6.cells) rfl) rfl rfl rfl F ?_
        refine h_ready (rs := [1, 2]) (by kernel_rfl) (by decide) ⟨?_, ?_, trivial⟩
        ·
          refine hs_val (v := .agg #[.int .i64 (120 + r19_0), .string r32_0, .string r23_0, .int .i64 (1 + r25_0)]) rfl (xloadN Try.isAgg77 Try.sizeOf77 rfl (O15.cells) rfl) rfl rfl rfl F ?_
          refine h_ready (rs := [2]) (by kernel_rfl) (by decide) ⟨?_, trivial⟩
          ·
            refine hs_storeN (vs := [.string (r12_0).Code, .string (r12_0).Found, .int .i64 (r12_0).Day, .int .i64 (r12_0).Seal, .slice r12_1 r12_2 r12_3]) Try.sizeOf49 rfl rfl O1 rfl (by simp) (by simp [Value.oneCell']) F (by omega) rfl rfl ?_
            intro w16 on16 O16
            have hz16 := on16.size
            have E := on16.ext E (by omega)
            replace S := S.off (Mk.ofOnly on16 (Nat.le_refl _) (Nat.lt_succ_self _)) (by omega)
            replace h12_2 := h12_2.only on16 (by omega)
            replace O2 := on16.own O2 (by omega)
            replace O6 := on16.own O6 (by omega)
            replace O15 := on16.own O15 (by omega)
            have F := on16.ext F (by omega)
            replace O16 : Own w16 b1 [.string (r12_0).Code, .string (r12_0).Found, .int .i64 (r12_0).Day, .int .i64 (r12_0).Seal, .slice r12_1 r12_2 r12_3] 49 := O16
            refine h_ready (rs := [3]) (by kernel_rfl) (by decide) ⟨?_, trivial⟩
            ·
              refine hs_storeN (vs := [.int .i64 (120 + r19_0), .string r32_0, .string r23_0, .int .i64 (1 + r25_0)]) Try.sizeOf77 rfl rfl O2 rfl (by simp) (by simp [Value.oneCell']) F (by omega) rfl rfl ?_
              intro w17 on17 O17
              have hz17 := on17.size
              have E := on17.ext E (by omega)
              replace S := S.off (Mk.ofOnly on17 (Nat.le_refl _) (Nat.lt_succ_self _)) (by omega)
              replace h12_2 := h12_2.only on17 (by omega)
              replace O16 := on17.own O16 (by omega)
              replace O6 := on17.own O6 (by omega)
              replace O15 := on17.own O15 (by omega)
              have F := on17.ext F (by omega)
              replace O17 : Own w17 b2 [.int .i64 (120 + r19_0), .string r32_0, .string r23_0, .int .i64 (1 + r25_0)] 77 := O17
              refine h_done (by kernel_rfl) ?_
              intro a_ ha_
              exact ⟨(r32_0, ()), ⟨F, ⟨by omega, O16, O17, h12_2.wide (by omega) (by omega)⟩⟩, ha_.sub ⟨rfl, rfl, trivial⟩⟩
        ·
          refine hs_storeN (vs := [.string (r12_0).Code, .string (r12_0).Found, .int .i64 (r12_0).Day, .int .i64 (r12_0).Seal, .slice r12_1 r12_2 r12_3]) Try.sizeOf49 rfl rfl O1 rfl (by simp) (by simp [Value.oneCell']) F (by omega) rfl rfl ?_
          intro w16 on16 O16
          have hz16 := on16.size
          have E := on16.ext E (by omega)
          replace S := S.off (Mk.ofOnly on16 (Nat.le_refl _) (Nat.lt_succ_self _)) (by omega)
          replace h12_2 := h12_2.only on16 (by omega)
          replace O2 := on16.own O2 (by omega)
          replace O6 := on16.own O6 (by omega)
          replace O15 := on16.own O15 (by omega)
          have F := on16.ext F (by omega)
          replace O16 : Own w16 b1 [.string (r12_0).Code, .string (r12_0).Found, .int .i64 (r12_0).Day, .int .i64 (r12_0).Seal, .slice r12_1 r12_2 r12_3] 49 := O16
          refine h_ready (rs := [1]) (by kernel_rfl) (by decide) ⟨?_, trivial⟩
          ·
            refine hs_val (v := .agg #[.int .i64 (120 + r19_0), .string r32_0, .string r23_0, .int .i64 (1 + r25_0)]) rfl (xloadN Try.isAgg77 Try.sizeOf77 rfl (O15.cells) rfl) rfl rfl rfl F ?_
            refine h_ready (rs := [3]) (by kernel_rfl) (by decide) ⟨?_, trivial⟩
            ·
              refine hs_storeN (vs := [.int .i64 (120 + r19_0), .string r32_0, .string r23_0, .int .i64 (1 + r25_0)]) Try.sizeOf77 rfl rfl O2 rfl (by simp) (by simp [Value.oneCell']) F (by omega) rfl rfl ?_
              intro w17 on17 O17
              have hz17 := on17.size
              have E := on17.ext E (by omega)
              replace S := S.off (Mk.ofOnly on17 (Nat.le_refl _) (Nat.lt_succ_self _)) (by omega)
              replace h12_2 := h12_2.only on17 (by omega)
              replace O16 := on17.own O16 (by omega)
              replace O6 := on17.own O6 (by omega)
              replace O15 := on17.own O15 (by omega)
              have F := on17.ext F (by omega)
              replace O17 : Own w17 b2 [.int .i64 (120 + r19_0), .string r32_0, .string r23_0, .int .i64 (1 + r25_0)] 77 := O17
              refine h_done (by kernel_rfl) ?_
              intro a_ ha_
              exact ⟨(r32_0, ()), ⟨F, ⟨by omega, O16, O17, h12_2.wide (by omega) (by omega)⟩⟩, ha_.sub ⟨rfl, rfl, trivial⟩⟩
      ·
        refine hs_val (v := .agg #[.int .i64 (120 + r19_0), .string r32_0, .string r23_0, .int .i64 (1 + r25_0)]) rfl (xloadN Try.isAgg77 Try.sizeOf77 rfl (O15.cells) rfl) rfl rfl rfl F ?_
        refine h_ready (rs := [0]) (by kernel_rfl) (by decide) ⟨?_, trivial⟩
        ·
          refine hs_val (v := .agg #[.string (r12_0).Code, .string (r12_0).Found, .int .i64 (r12_0).Day, .int .i64 (r12_0).Seal, .slice r12_1 r12_2 r12_3]) rfl (xloadN Try.isAgg49 Try.sizeOf49 rfl (O6.cells) rfl) rfl rfl rfl F ?_
          refine h_ready (rs := [2]) (by kernel_rfl) (by decide) ⟨?_, trivial⟩
          ·
            refine hs_storeN (vs := [.string (r12_0).Code, .string (r12_0).Found, .int .i64 (r12_0).Day, .int .i64 (r12_0).Seal, .slice r12_1 r12_2 r12_3]) Try.sizeOf49 rfl rfl O1 rfl (by simp) (by simp [Value.oneCell']) F (by omega) rfl rfl ?_
            intro w16 on16 O16
            have hz16 := on16.size
            have E := on16.ext E (by omega)
            replace S := S.off (Mk.ofOnly on16 (Nat.le_refl _) (Nat.lt_succ_self _)) (by omega)
            replace h12_2 := h12_2.only on16 (by omega)
            replace O2 := on16.own O2 (by omega)
            replace O6 := on16.own O6 (by omega)
            replace O15 := on16.own O15 (by omega)
            have F := on16.ext F (by omega)
            replace O16 : Own w16 b1 [.string (r12_0).Code, .string (r12_0).Found, .int .i64 (r12_0).Day, .int .i64 (r12_0).Seal, .slice r12_1 r12_2 r12_3] 49 := O16
            refine h_ready (rs := [3]) (by kernel_rfl) (by decide) ⟨?_, trivial⟩
            ·
              refine hs_storeN (vs := [.int .i64 (120 + r19_0), .string r32_0, .string r23_0, .int .i64 (1 + r25_0)]) Try.sizeOf77 rfl rfl O2 rfl (by simp) (by simp [Value.oneCell']) F (by omega) rfl rfl ?_
              intro w17 on17 O17
              have hz17 := on17.size
              have E := on17.ext E (by omega)
              replace S := S.off (Mk.ofOnly on17 (Nat.le_refl _) (Nat.lt_succ_self _)) (by omega)
              replace h12_2 := h12_2.only on17 (by omega)
              replace O16 := on17.own O16 (by omega)
              replace O6 := on17.own O6 (by omega)
              replace O15 := on17.own O15 (by omega)
              have F := on17.ext F (by omega)
              replace O17 : Own w17 b2 [.int .i64 (120 + r19_0), .string r32_0, .string r23_0, .int .i64 (1 + r25_0)] 77 := O17
              refine h_done (by kernel_rfl) ?_
              intro a_ ha_
              exact ⟨(r32_0, ()), ⟨F, ⟨by omega, O16, O17, h12_2.wide (by omega) (by omega)⟩⟩, ha_.sub ⟨rfl, rfl, trivial⟩⟩
    · intro x_
      obtain ⟨fr, u_⟩ := x_
      rintro w16 ⟨e16, hfr, OX1, OX2, GX⟩
      have z16 := e16.size
      replace E := e16
      refine run_ret Try.func58 (rescCC rfl rfl (run_loadVar_cells Try.isAgg49 Try.sizeOf49 OX1.cells rfl) rfl (run_loadVar_cells Try.isAgg77 Try.sizeOf77 OX2.cells rfl)) ?_
      exact ⟨_, rfl, E, r12_0, _, _, _, ⟨120 + r19_0, fr, r23_0, 1 + r25_0⟩, rfl, h12_0, by omega, GX.wide (by omega) (by omega), ⟨hfr, by dsimp only; omega⟩⟩
  ·
    refine ops_nil ?_
    refine run_cond_f rfl ?_
    refine run_skip ?_
    refine run_seq ?_
    have RE := E
    have RO1 := O1
    have RO2 := O2
    have RO6 := O6
    have RO12 := O12
    refine run_heldE E (ι := ByteArray × Unit) (fun x_ w' => match x_ with | (fr, u_) => Ext w w' ∧ fr.size ≤ 9223372036854775807 ∧ Own w' b1 [.string r12_0.Code, .string r12_0.Found, .int .i64 r12_0.Day, .int .i64 r12_0.Seal, .slice r12_1 r12_2 r12_3] 49 ∧ Own w' b2 [.int .i64 (120 + r19_0), .string fr, .string r23_0, .int .i64 (1 + r25_0)] 77 ∧ Ow Handing.cells 4 77 w' w.heap.size w'.heap.size r12_1 r12_2 r12_3 r12_0.Chain) (fun x_ => match x_ with | (fr, u_) => [(2, .pointer (some ⟨b1, 0, none⟩)), (3, .pointer (some ⟨b2, 0, none⟩))]) (by kernel_rfl) ?_ ?_
    · intro w0_ F
      have z0_ := F.size
      have E := E.trans F
      replace S := S.ext F
      replace h12_2 := h12_2.ext F
      replace O1 := O1.ext F
      replace O2 := O2.ext F
      replace O6 := O6.ext F
      replace O12 := O12.ext F
      replace F := E
      refine h_ready (rs := [0, 1]) (by kernel_rfl) (by decide) ⟨?_, ?_, trivial⟩
      ·
        refine hs_val (v := .agg #[.string (r12_0).Code, .string (r12_0).Found, .int .i64 (r12_0).Day, .int .i64 (r12_0).Seal, .slice r12_1 r12_2 r12_3]) rfl (xloadN Try.isAgg49 Try.sizeOf49 rfl (O6.cells) rfl) rfl rfl rfl F ?_
        refine h_ready (rs := [1, 2]) (by kernel_rfl) (by decide) ⟨?_, ?_, trivial⟩
        ·
          refine hs_val (v := .agg #[.int .i64 (120 + r19_0), .string (hold r12_0 (past r12_0 20000)), .string r23_0, .int .i64 (1 + r25_0)]) rfl (xloadN Try.isAgg77 Try.sizeOf77 rfl (O12.cells) rfl) rfl rfl rfl F ?_
          refine h_ready (rs := [2]) (by kernel_rfl) (by decide) ⟨?_, trivial⟩
          ·
            refine hs_storeN (vs := [.string (r12_0).Code, .string (r12_0).Found, .int .i64 (r12_0).Day, .int .i64 (r12_0).Seal, .slice r12_1 r12_2 r12_3]) Try.sizeOf49 rfl rfl O1 rfl (by simp) (by simp [Value.oneCell']) F (by omega) rfl rfl ?_
            intro w14 on14 O14
            have hz14 := on14.size
            have E := on14.ext E (by omega)
            replace S := S.off (Mk.ofOnly on14 (Nat.le_refl _) (Nat.lt_succ_self _)) (by omega)
            replace h12_2 := h12_2.only on14 (by omega)
            replace O2 := on14.own O2 (by omega)
            replace O6 := on14.own O6 (by omega)
            replace O12 := on14.own O12 (by omega)
            have F := on14.ext F (by omega)
            replace O14 : Own w14 b1 [.string (r12_0).Code, .string (r12_0).Found, .int .i64 (r12_0).Day, .int .i64 (r12_0).Seal, .slice r12_1 r12_2 r12_3] 49 := O14
            refine h_ready (rs := [3]) (by kernel_rfl) (by decide) ⟨?_, trivial⟩
            ·
              refine hs_storeN (vs := [.int .i64 (120 + r19_0), .string (hold r12_0 (past r12_0 20000)), .string r23_0, .int .i64 (1 + r25_0)]) Try.sizeOf77 rfl rfl O2 rfl (by simp) (by simp [Value.oneCell']) F (by omega) rfl rfl ?_
              intro w15 on15 O15
              have hz15 := on15.size
              have E := on15.ext E (by omega)
              replace S := S.off (Mk.ofOnly on15 (Nat.le_refl _) (Nat.lt_succ_self _)) (by omega)
              replace h12_2 := h12_2.only on15 (by omega)
              replace O14 := on15.own O14 (by omega)
              replace O6 := on15.own O6 (by omega)
              replace O12 := on15.own O12 (by omega)
              have F := on15.ext F (by omega)
              replace O15 : Own w15 b2 [.int .i64 (120 + r19_0), .string (hold r12_0 (past r12_0 20000)), .string r23_0, .int .i64 (1 + r25_0)] 77 := O15
              refine h_done (by kernel_rfl) ?_
              intro a_ ha_
              exact ⟨((hold r12_0 (past r12_0 20000)), ()), ⟨F, ⟨by omega, O14, O15, h12_2.wide (by omega) (by omega)⟩⟩, ha_.sub ⟨rfl, rfl, trivial⟩⟩
        ·
          refine hs_storeN (vs := [.string (r12_0).Code, .string (r12_0).Found, .int .i64 (r12_0).Day, .int .i64 (r12_0).Seal, .slice r12_1 r12_2 r12_3]) Try.sizeOf49 rfl rfl O1 rfl (by simp) (by simp [Value.oneCell']) F (by omega) rfl rfl ?_
          intro w14 on14 O14
          have hz14 := on14.size
          have E := on14.ext E (by omega)
          replace S := S.off (Mk.ofOnly on14 (Nat.le_refl _) (Nat.lt_succ_self _)) (by omega)
          replace h12_2 := h12_2.only on14 (by omega)
          replace O2 := on14.own O2 (by omega)
          replace O6 := on14.own O6 (by omega)
          replace O12 := on14.own O12 (by omega)
          have F := on14.ext F (by omega)
          replace O14 : Own w14 b1 [.string (r12_0).Code, .string (r12_0).Found, .int .i64 (r12_0).Day, .int .i64 (r12_0).Seal, .slice r12_1 r12_2 r12_3] 49 := O14
          refine h_ready (rs := [1]) (by kernel_rfl) (by decide) ⟨?_, trivial⟩
          ·
            refine hs_val (v := .agg #[.int .i64 (120 + r19_0), .string (hold r12_0 (past r12_0 20000)), .string r23_0, .int .i64 (1 + r25_0)]) rfl (xloadN Try.isAgg77 Try.sizeOf77 rfl (O12.cells) rfl) rfl rfl rfl F ?_
            refine h_ready (rs := [3]) (by kernel_rfl) (by decide) ⟨?_, trivial⟩
            ·
              refine hs_storeN (vs := [.int .i64 (120 + r19_0), .string (hold r12_0 (past r12_0 20000)), .string r23_0, .int .i64 (1 + r25_0)]) Try.sizeOf77 rfl rfl O2 rfl (by simp) (by simp [Value.oneCell']) F (by omega) rfl rfl ?_
              intro w15 on15 O15
              have hz15 := on15.size
              have E := on15.ext E (by omega)
              replace S := S.off (Mk.ofOnly on15 (Nat.le_refl _) (Nat.lt_succ_self _)) (by omega)
              replace h12_2 := h12_2.only on15 (by omega)
              replace O14 := on15.own O14 (by omega)
              replace O6 := on15.own O6 (by omega)
              replace O12 := on15.own O12 (by omega)
              have F := on15.ext F (by omega)
              replace O15 : Own w15 b2 [.int .i64 (120 + r19_0), .string (hold r12_0 (past r12_0 20000)), .string r23_0, .int .i64 (1 + r25_0)] 77 := O15
              refine h_done (by kernel_rfl) ?_
              intro a_ ha_
              exact ⟨((hold r12_0 (past r12_0 20000)), ()), ⟨F, ⟨by omega, O14, O15, h12_2.wide (by omega) (by omega)⟩⟩, ha_.sub ⟨rfl, rfl, trivial⟩⟩
      ·
        refine hs_val (v := .agg #[.int .i64 (120 + r19_0), .string (hold r12_0 (past r12_0 20000)), .string r23_0, .int .i64 (1 + r25_0)]) rfl (xloadN Try.isAgg77 Try.sizeOf77 rfl (O12.cells) rfl) rfl rfl rfl F ?_
        refine h_ready (rs := [0]) (by kernel_rfl) (by decide) ⟨?_, trivial⟩
        ·
          refine hs_val (v := .agg #[.string (r12_0).Code, .string (r12_0).Found, .int .i64 (r12_0).Day, .int .i64 (r12_0).Seal, .slice r12_1 r12_2 r12_3]) rfl (xloadN Try.isAgg49 Try.sizeOf49 rfl (O6.cells) rfl) rfl rfl rfl F ?_
          refine h_ready (rs := [2]) (by kernel_rfl) (by decide) ⟨?_, trivial⟩
          ·
            refine hs_storeN (vs := [.string (r12_0).Code, .string (r12_0).Found, .int .i64 (r12_0).Day, .int .i64 (r12_0).Seal, .slice r12_1 r12_2 r12_3]) Try.sizeOf49 rfl rfl O1 rfl (by simp) (by simp [Value.oneCell']) F (by omega) rfl rfl ?_
            intro w14 on14 O14
            have hz14 := on14.size
            have E := on14.ext E (by omega)
            replace S := S.off (Mk.ofOnly on14 (Nat.le_refl _) (Nat.lt_succ_self _)) (by omega)
            replace h12_2 := h12_2.only on14 (by omega)
            replace O2 := on14.own O2 (by omega)
            replace O6 := on14.own O6 (by omega)
            replace O12 := on14.own O12 (by omega)
            have F := on14.ext F (by omega)
            replace O14 : Own w14 b1 [.string (r12_0).Code, .string (r12_0).Found, .int .i64 (r12_0).Day, .int .i64 (r12_0).Seal, .slice r12_1 r12_2 r12_3] 49 := O14
            refine h_ready (rs := [3]) (by kernel_rfl) (by decide) ⟨?_, trivial⟩
            ·
              refine hs_storeN (vs := [.int .i64 (120 + r19_0), .string (hold r12_0 (past r12_0 20000)), .string r23_0, .int .i64 (1 + r25_0)]) Try.sizeOf77 rfl rfl O2 rfl (by simp) (by simp [Value.oneCell']) F (by omega) rfl rfl ?_
              intro w15 on15 O15
              have hz15 := on15.size
              have E := on15.ext E (by omega)
              replace S := S.off (Mk.ofOnly on15 (Nat.le_refl _) (Nat.lt_succ_self _)) (by omega)
              replace h12_2 := h12_2.only on15 (by omega)
              replace O14 := on15.own O14 (by omega)
              replace O6 := on15.own O6 (by omega)
              replace O12 := on15.own O12 (by omega)
              have F := on15.ext F (by omega)
              replace O15 : Own w15 b2 [.int .i64 (120 + r19_0), .string (hold r12_0 (past r12_0 20000)), .string r23_0, .int .i64 (1 + r25_0)] 77 := O15
              refine h_done (by kernel_rfl) ?_
              intro a_ ha_
              exact ⟨((hold r12_0 (past r12_0 20000)), ()), ⟨F, ⟨by omega, O14, O15, h12_2.wide (by omega) (by omega)⟩⟩, ha_.sub ⟨rfl, rfl, trivial⟩⟩
    · intro x_
      obtain ⟨fr, u_⟩ := x_
      rintro w14 ⟨e14, hfr, OX1, OX2, GX⟩
      have z14 := e14.size
      replace E := e14
      refine run_ret Try.func58 (rescCC rfl rfl (run_loadVar_cells Try.isAgg49 Try.sizeOf49 OX1.cells rfl) rfl (run_loadVar_cells Try.isAgg77 Try.sizeOf77 OX2.cells rfl)) ?_
      exact ⟨_, rfl, E, r12_0, _, _, _, ⟨120 + r19_0, fr, r23_0, 1 + r25_0⟩, rfl, h12_0, by omega, GX.wide (by omega) (by omega), ⟨hfr, by dsimp only; omega⟩⟩
end Go.Proofs.Ytnjohcbamblilaa
