/-
  The dice of the laws. No condition beyond those written in each theorem.
-/
import Derived.Test.YtnjohcbamblilaaDraw
import Derived.Test.YtnjohcbamblilaaTail
import Derived.Test.YtnjohcbamblilaaMore
namespace Go.Proofs.Ytnjohcbamblilaa
open Go.RowKit
set_option linter.unusedVariables false
set_option linter.unusedSimpArgs false
set_option linter.unusedSectionVars false
set_option maxRecDepth 4000

def u64 (n : Int) : Int := IntKind.u64.wrap n
/-- the lowest 24 bits -/
def low24 (m : Int) : Int := ((BitVec.ofInt 64 m &&& BitVec.ofInt 64 16777215).toNat : Int)
theorem low24_le (m : Int) : 0 ≤ low24 m ∧ low24 m ≤ 16777215 := by
  unfold low24
  rw [BitVec.toNat_and, show (BitVec.ofInt 64 16777215).toNat = 16777215 from rfl]
  have := @Nat.and_le_right (BitVec.ofInt 64 m).toNat 16777215
  omega
section
variable {P : Program} {N : Nat} {σ : Env} {w : World} {d : Option Tmp} {ty : TypeId} {pos : String} {aft : Array Edge} {gd : Option (Nat × Bool)}
theorem xaddU {m n : Int} {x y : Operand} {t u : TypeId} (hx : ev σ x = some (.int .u64 m)) (hy : ev σ y = some (.int .u64 n)) :
    XV P N σ ⟨d, .binOp .add t x y u, ty, pos, aft, gd⟩ w (.int .u64 (u64 (m + n))) w := xbin hx hy fun w => by simp [binOp_add, Op.intArith, u64]
theorem xmulU {m n : Int} {x y : Operand} {t u : TypeId} (hx : ev σ x = some (.int .u64 m)) (hy : ev σ y = some (.int .u64 n)) :
    XV P N σ ⟨d, .binOp .mul t x y u, ty, pos, aft, gd⟩ w (.int .u64 (u64 (m * n))) w := xbin hx hy fun w => by simp [binOp_mul, Op.intArith, u64]
theorem xshrU {m n : Int} {x y : Operand} {t u : TypeId} (hx : ev σ x = some (.int .u64 m)) (hy : ev σ y = some (.int .u64 n)) (h0 : 0 ≤ n) (h1 : n ≤ 64) :
    XV P N σ ⟨d, .binOp .shr t x y u, ty, pos, aft, gd⟩ w (.int .u64 (m / 2 ^ n.toNat)) w := xbin hx hy fun w => by
  rw [binOp_shr, shift_shr .u64 .u64 m n h0 h1]; rfl
theorem xlow24 {m : Int} {x y : Operand} {t u : TypeId} (hx : ev σ x = some (.int .u64 m)) (hy : ev σ y = some (.int .u64 16777215)) :
    XV P N σ ⟨d, .binOp .and t x y u, ty, pos, aft, gd⟩ w (.int .u64 (low24 m)) w := xbin hx hy fun w => by
  rw [binOp_and]
  have h := low24_le m
  show (pure (Value.int .u64 (IntKind.u64.wrap (low24 m))) : Sem Value).run P w = _
  have e : IntKind.u64.wrap (low24 m) = low24 m := by
    unfold IntKind.wrap
    simp [IntKind.bits, IntKind.signed]
    omega
  rw [e]; rfl
theorem xconvU {x : Operand} {src dst : TypeId} {k : IntKind} {n : Int} {ds : TypeDesc} (hs : P.underlying src = some ds) (hd : P.underlying dst = some (.int .u64)) (hx : ev σ x = some (.int k n)) :
    XV P N σ ⟨d, .convert src dst x, ty, pos, aft, gd⟩ w (.int .u64 (u64 n)) w := fun a ha => by
  have : P.intKind dst = .u64 := by simp [Program.intKind, hd]
  have h1 := run_convert_int (P := P) w src dst k n (by simp [hs]) (by rw [this]; exact hd)
  rw [this] at h1
  simp [execOp, ha.eval hx, h1, u64]
end

set_option maxHeartbeats 1000000 in
theorem roll_ok (p : Option Addr) (n c : Nat) (bs : List Int) (k : Int) (w : World) (H : Sl u8c 1 w p n c bs) : Ret Try.prog 86 [.slice p n c, .int .u64 k] w (fun v w' => Ext w w' ∧ ∃ (b : Nat) (sd : Int), v = .pointer (some ⟨b, 0, none⟩) ∧ w.heap.size ≤ b ∧ Own w' b [.slice p n c, .int .i64 0, .int .u64 sd] 145) := by
  refine ret_of_run (N := 38) Try.func86 rfl rfl rfl ?_
  have hn := H.len
  have hn6 := H.n64
  have E : Ext w w := Ext.refl w
  refine run_seq ?_
  refine run_region ?_
  refine ov (xassign rfl) rfl rfl rfl ?_
  refine ops_nil ?_
  refine run_seq ?_
  refine run_region ?_
  refine ov (xmove rfl) rfl rfl rfl ?_
  refine ov (xmove rfl) rfl rfl rfl ?_
  refine ov (xmulU rfl rfl) rfl rfl rfl ?_
  refine ov (xmove rfl) rfl rfl rfl ?_
  refine ov (xlen Try.underlying62 rfl) rfl rfl rfl ?_
  refine ov (xconvU Try.underlying3 Try.underlying110 rfl) rfl rfl rfl ?_
  refine ov (xaddU rfl rfl) rfl rfl rfl ?_
  refine ov (xbuild (vs := [.slice p n c, .int .u64 (u64 ((u64 (k * 7919)) + (u64 (n : Int))))]) (cells := #[.slice p n c, .int .i64 0, .int .u64 (u64 ((u64 (k * 7919)) + (u64 (n : Int))))]) rfl (by kernel_rfl)) rfl rfl rfl ?_
  refine obox rfl rfl rfl ?_
  intro b1 w1 e1 hb1 hz1 O1
  have E := E.trans e1
  replace O1 : Own w1 b1 [.slice p n c, .int .i64 0, .int .u64 (u64 ((u64 (k * 7919)) + (u64 (n : Int))))] 145 := O1
  refine ov (xassign rfl) rfl rfl rfl ?_
  refine ops_nil ?_
  refine run_seq ?_
  refine run_seq ?_
  refine run_region ?_
  refine ov (xassign rfl) rfl rfl rfl ?_
  refine ops_nil ?_
  refine run_block ?_
  refine run_loop (ι := Nat × Int × World) (fun x_ => match x_ with | (j, sd, wr) => (Ext w wr) ∧ (Own wr b1 ([.slice p n c, .int .i64 0, .int .u64 sd]) 145) ∧ (w1.heap.size ≤ wr.heap.size) ∧ (j ≤ n)) (fun x_ => match x_ with | (j, sd, wr) => [(0, .slice p n c), (5, .pointer (some ⟨b1, 0, none⟩)), (6, .int .i64 (j : Int))]) (fun x_ => match x_ with | (j, sd, wr) => wr) (fun x_ => match x_ with | (j, sd, wr) => n - j) ?_ (0, (u64 (u64 (k * 7919) + u64 (n : Int))), w1) (⟨E, O1, Nat.le_refl _, by omega⟩) ⟨rfl, rfl, rfl, trivial⟩ rfl
  intro i_ hI_ hback3
  obtain ⟨j, sd, wr⟩ := i_
  obtain ⟨E, O_b1, lz_wr, hj⟩ := hI_
  try dsimp only
  have zr := E.size
  have lt_b1 := O_b1.lt
  refine run_seq ?_
  refine run_seq ?_
  refine run_region ?_
  refine ov (xmove rfl) rfl rfl rfl ?_
  refine ov (xmove rfl) rfl rfl rfl ?_
  refine ov (xlen Try.underlying62 rfl) rfl rfl rfl ?_
  refine ov (xlss rfl rfl _ rfl) rfl rfl rfl ?_
  refine ods (fun c19 => ?_) (fun c19 => ?_)
  ·
    refine ops_nil ?_
    refine run_cond_t rfl ?_
    refine run_skip ?_
    refine run_seq ?_
    refine run_block ?_
    refine run_tail 15 (by kernel_rfl) (by kernel_rfl) ?_
    intro w2 e2
    have z2 := e2.size
    have E := E.trans e2
    replace O_b1 := O_b1.ext e2
    refine stv (xmove rfl) rfl rfl rfl ?_
    refine stv (xmove rfl) rfl rfl rfl ?_
    refine stv (xnilCheck rfl) rfl rfl rfl ?_
    refine stv (xfieldAddr fo145f2 rfl) rfl rfl rfl ?_
    refine stv (v := .int .u64 sd) (xload1 Try.isAgg110 rfl (O_b1.cells) rfl) rfl rfl rfl ?_
    refine stv (xmulU rfl rfl) rfl rfl rfl ?_
    refine stv (xmove rfl) rfl rfl rfl ?_
    refine stv (xmove rfl) rfl rfl rfl ?_
    have h30 := (H.ext E).at (i := j) (by omega)
    refine stv (xindexN (i := j) Try.underlying62 Try.sizeOf5 rfl rfl rfl ((H.ext E).p (i := j) (by omega)) (by have := (H.ext E).len; omega)) rfl rfl rfl ?_
    refine stv (v := .int .u8 bs[j]) (xloadz Try.isAgg5 rfl (h30) rfl) rfl rfl rfl ?_
    refine stv (xconvU Try.underlying5 Try.underlying110 rfl) rfl rfl rfl ?_
    refine stv (xaddU rfl rfl) rfl rfl rfl ?_
    refine stv (xaddU rfl rfl) rfl rfl rfl ?_
    refine stv (xnilCheck rfl) rfl rfl rfl ?_
    refine stv (xfieldAddr fo145f2 rfl) rfl rfl rfl ?_
    refine st_store1 Try.sizeOf110 rfl rfl O_b1 (by simp) rfl rfl ?_
    intro w3 on3 O3
    have hz3 := on3.size
    have E := on3.ext E (by omega)
    replace O3 : Own w3 b1 [.slice p n c, .int .i64 0, .int .u64 (u64 ((u64 ((u64 (sd * 1099511628211)) + (u64 bs[j]))) + 3))] 145 := O3
    refine run_inBlock ?_
    refine run_region ?_
    refine ov (xmove rfl) rfl rfl rfl ?_
    refine ov (xadd rfl rfl (by unfold I64; omega)) rfl rfl rfl ?_
    refine ov (xassign rfl) rfl rfl rfl ?_
    refine ops_nil ?_
    refine run_sub ?_ (hback3 (j + 1, (u64 ((u64 ((u64 (sd * 1099511628211)) + (u64 bs[j]))) + 3)), w3) (⟨E, O3, by omega, by omega⟩) (by first | omega | (dsimp only; omega)))
    exact ⟨rfl, rfl, rfl, trivial⟩
  ·
    refine ops_nil ?_
    refine run_cond_f rfl ?_
    refine run_exit rfl ?_
    refine run_seq ?_
    refine run_region ?_
    refine ov (xmove rfl) rfl rfl rfl ?_
    refine ov (xassign rfl) rfl rfl rfl ?_
    refine ops_nil ?_
    refine run_ret Try.func86 (res1 rfl rfl) ?_
    exact ⟨_, rfl, E, _, _, rfl, by omega, O_b1⟩

set_option maxHeartbeats 2000000 in
theorem below_ok (b cb : Nat) (p : Option Addr) (n c : Nat) (bs : List Int) (sd k : Int) (w : World) (O : Own w b [.slice p n c, .int .i64 0, .int .u64 sd] 145) (H : CodeSl b cb w p n c bs) (hbs : ∀ x ∈ bs, 0 ≤ x ∧ x ≤ 255) (hk : 0 < k) : Ret Try.prog 87 [.pointer (some ⟨b, 0, none⟩), .int .i64 k] w (fun v w' => ∃ r : Int, v = .int .i64 r ∧ 0 ≤ r ∧ r < k ∧ Mk b (b + 1) w w') := by
  refine ret_of_run (N := 56) Try.func87 rfl rfl rfl ?_
  have hbl := O.lt
  have hn := H.sl.len
  have hn6 := H.sl.n64
  have E : Mk b (b + 1) w w := Mk.refl _ _ _
  refine run_seq ?_
  refine run_region ?_
  refine ov (xassign rfl) rfl rfl rfl ?_
  refine ops_nil ?_
  refine run_seq ?_
  refine run_region ?_
  refine ov (xmove rfl) rfl rfl rfl ?_
  refine ov (xmove rfl) rfl rfl rfl ?_
  refine ov (xnilCheck rfl) rfl rfl rfl ?_
  refine ov (xfieldAddr fo145f2 rfl) rfl rfl rfl ?_
  refine ov (v := .int .u64 sd) (xload1 Try.isAgg110 rfl (O.cells) rfl) rfl rfl rfl ?_
  refine ov (xmulU rfl rfl) rfl rfl rfl ?_
  refine ov (xaddU rfl rfl) rfl rfl rfl ?_
  refine ov (xnilCheck rfl) rfl rfl rfl ?_
  refine ov (xfieldAddr fo145f2 rfl) rfl rfl rfl ?_
  refine ostore1 Try.sizeOf110 rfl rfl O (by simp) rfl rfl ?_
  intro w1 on1 O1
  have hz1 := on1.size
  have E := E.trans (Mk.ofOnly on1 (by omega) (by omega))
  replace H := H.only on1 (by omega)
  replace O1 : Own w1 b [.slice p n c, .int .i64 0, .int .u64 (u64 ((u64 (sd * 6364136223846793005)) + 1442695040888963407))] 145 := O1
  refine ops_nil ?_
  refine run_seq ?_
  refine run_region ?_
  refine ov (xmove rfl) rfl rfl rfl ?_
  refine ov (xnilCheck rfl) rfl rfl rfl ?_
  refine ov (xfieldAddr fo145f2 rfl) rfl rfl rfl ?_
  refine ov (v := .int .u64 (u64 ((u64 (sd * 6364136223846793005)) + 1442695040888963407))) (xload1 Try.isAgg110 rfl (O1.cells) rfl) rfl rfl rfl ?_
  refine ov (xshrU rfl rfl (by decide) (by decide)) rfl rfl rfl ?_
  refine ov (xlow24 rfl rfl) rfl rfl rfl ?_
  have hlo := low24_le ((u64 (u64 (sd * 6364136223846793005) + 1442695040888963407)) / 2 ^ (33 : Int).toNat)
  refine ov (xconv Try.underlying110 Try.underlying2 rfl (by unfold I64; omega)) rfl rfl rfl ?_
  refine ov (xassign rfl) rfl rfl rfl ?_
  refine ops_nil ?_
  refine run_seq ?_
  refine run_seq ?_
  refine run_draw (by kernel_rfl) (by kernel_rfl) ?_
  refine qv (fun w' x_ => xmove rfl) rfl rfl rfl ?_
  refine qv (fun w' x_ => xnilCheck rfl) rfl rfl rfl ?_
  refine qv (fun w' x_ => xfieldAddr fo145f1 rfl) rfl rfl rfl ?_
  refine qv (v := .int .i64 0) (fun w' x_ => xload1 Try.isAgg3 rfl ((O1.cells).ext x_) rfl) rfl rfl rfl ?_
  refine qv (fun w' x_ => xmove rfl) rfl rfl rfl ?_
  refine qv (fun w' x_ => xnilCheck rfl) rfl rfl rfl ?_
  refine qv (fun w' x_ => xfieldAddr fo145f0 rfl) rfl rfl rfl ?_
  refine qv (v := .slice p n c) (fun w' x_ => xload1 Try.isAgg62 rfl ((O1.cells).ext x_) rfl) rfl rfl rfl ?_
  refine qv (fun w' x_ => xlen Try.underlying62 rfl) rfl rfl rfl ?_
  refine qv (fun w' x_ => xlss rfl rfl _ rfl) rfl rfl rfl ?_
  refine qds (fun c31 => ?_) (fun c31 => ?_)
  ·
    refine q_nil ?_
    intro w2 e2
    have z2 := e2.size
    have E := E.trans (Mk.ofExt e2)
    replace H := H.ext e2
    replace O1 := O1.ext e2
    refine run_cond_t rfl ?_
    refine run_seq ?_
    refine run_draw (by kernel_rfl) (by kernel_rfl) ?_
    refine qv (fun w' x_ => xmove rfl) rfl rfl rfl ?_
    refine qv (fun w' x_ => xmove rfl) rfl rfl rfl ?_
    refine qv (fun w' x_ => xnilCheck rfl) rfl rfl rfl ?_
    refine qv (fun w' x_ => xfieldAddr fo145f0 rfl) rfl rfl rfl ?_
    refine qv (v := .slice p n c) (fun w' x_ => xload1 Try.isAgg62 rfl ((O1.cells).ext x_) rfl) rfl rfl rfl ?_
    refine qv (fun w' x_ => xmove rfl) rfl rfl rfl ?_
    refine qv (fun w' x_ => xnilCheck rfl) rfl rfl rfl ?_
    refine qv (fun w' x_ => xfieldAddr fo145f1 rfl) rfl rfl rfl ?_
    refine qv (v := .int .i64 0) (fun w' x_ => xload1 Try.isAgg3 rfl ((O1.cells).ext x_) rfl) rfl rfl rfl ?_
    have h41 := (H.sl).at (i := 0) (by omega)
    refine qv (fun w' x_ => xindexN (i := 0) Try.underlying62 Try.sizeOf5 rfl rfl (by omega) ((H.sl).p (i := 0) (by omega)) (by have := (H.sl).len; omega)) rfl rfl rfl ?_
    refine qv (v := .int .u8 bs[0]) (fun w' x_ => xloadz Try.isAgg5 rfl ((h41).ext x_) rfl) rfl rfl rfl ?_
    have hbb := hbs _ (List.getElem_mem (by omega : 0 < bs.length))
    refine qv (fun w' x_ => xconv Try.underlying5 Try.underlying2 rfl (by unfold I64; omega)) rfl rfl rfl ?_
    refine qv (fun w' x_ => xadd rfl rfl (by unfold I64; omega)) rfl rfl rfl ?_
    refine qv (fun w' x_ => xassign rfl) rfl rfl rfl ?_
    refine q_nil ?_
    intro w3 e3
    have z3 := e3.size
    have E := E.trans (Mk.ofExt e3)
    replace H := H.ext e3
    replace O1 := O1.ext e3
    refine run_region ?_
    refine ov (xmove rfl) rfl rfl rfl ?_
    refine ov (xmove rfl) rfl rfl rfl ?_
    refine ov (xnilCheck rfl) rfl rfl rfl ?_
    refine ov (xfieldAddr fo145f1 rfl) rfl rfl rfl ?_
    refine ov (v := .int .i64 0) (xload1 Try.isAgg3 rfl (O1.cells) rfl) rfl rfl rfl ?_
    refine ov (xadd rfl rfl (by unfold I64; omega)) rfl rfl rfl ?_
    refine ov (xnilCheck rfl) rfl rfl rfl ?_
    refine ov (xfieldAddr fo145f1 rfl) rfl rfl rfl ?_
    refine ostore1 Try.sizeOf3 rfl rfl O1 (by simp) rfl rfl ?_
    intro w4 on4 O4
    have hz4 := on4.size
    have E := E.trans (Mk.ofOnly on4 (by omega) (by omega))
    replace H := H.only on4 (by omega)
    replace O4 : Own w4 b [.slice p n c, .int .i64 (0 + 1), .int .u64 (u64 ((u64 (sd * 6364136223846793005)) + 1442695040888963407))] 145 := O4
    refine ops_nil ?_
    refine run_seq ?_
    refine run_region ?_
    refine ov (xmove rfl) rfl rfl rfl ?_
    refine ov (xmove rfl) rfl rfl rfl ?_
    refine ov (xrem rfl rfl (by omega) (by omega)) rfl rfl rfl ?_
    refine ov (xassign rfl) rfl rfl rfl ?_
    refine ops_nil ?_
    refine run_ret Try.func87 (res1 rfl rfl) ?_
    exact ⟨_, rfl, _, rfl, Int.emod_nonneg _ (by omega), Int.emod_lt_of_pos _ (by omega), E⟩
  ·
    refine q_nil ?_
    intro w2 e2
    have z2 := e2.size
    have E := E.trans (Mk.ofExt e2)
    replace H := H.ext e2
    replace O1 := O1.ext e2
    refine run_cond_f rfl ?_
    refine run_skip ?_
    refine run_seq ?_
    refine run_region ?_
    refine ov (xmove rfl) rfl rfl rfl ?_
    refine ov (xmove rfl) rfl rfl rfl ?_
    refine ov (xrem rfl rfl (by omega) (by omega)) rfl rfl rfl ?_
    refine ov (xassign rfl) rfl rfl rfl ?_
    refine ops_nil ?_
    refine run_ret Try.func87 (res1 rfl rfl) ?_
    exact ⟨_, rfl, _, rfl, Int.emod_nonneg _ (by omega), Int.emod_lt_of_pos _ (by omega), E⟩
end Go.Proofs.Ytnjohcbamblilaa
