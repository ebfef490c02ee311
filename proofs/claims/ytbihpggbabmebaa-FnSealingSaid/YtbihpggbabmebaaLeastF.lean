/-
  The walk of the search through all sets. No condition beyond those written in each theorem.
-/
import Derived.Test.YtbihpggbabmebaaLeastN
import Derived.Test.YtbihpggbabmebaaSealF
import Derived.Test.YtbihpggbabmebaaRg2
import Derived.Laws.Cover3
namespace Go.Proofs.Ytbihpggbabmebaa
open Go.RowKit
set_option linter.unusedVariables false
set_option linter.unusedSimpArgs false
set_option linter.unusedSectionVars false
set_option maxRecDepth 4000

/-! comparing a slice with nil, shifting, the last bit -/
section
variable {P : Program} {N : Nat} {σ : Env} {w : World} {d : Option Tmp} {t ty u : TypeId} {pos : String} {aft : Array Edge} {gd : Option (Nat × Bool)} {x y : Operand}
theorem xslneq {e : TypeId} {p : Option Addr} {n c : Nat} {b : Bool} (ht : P.underlying t = some (.slice e)) (hx : ev σ x = some (.slice p n c)) (hy : ev σ y = some (.slice none 0 0)) (h : decide (p ≠ none) = b) :
    XV P N σ ⟨d, .binOp .neq t x y u, ty, pos, aft, gd⟩ w (.bool b) w := fun c' ha => by
  have h2 := run_equal_slice_nil (P := P) w t e p n c ht
  subst h
  cases p <;> simp_all [execOp, ha.eval hx, ha.eval hy, eqGuard, binOp]
theorem xsleql {e : TypeId} {p : Option Addr} {n c : Nat} {b : Bool} (ht : P.underlying t = some (.slice e)) (hx : ev σ x = some (.slice p n c)) (hy : ev σ y = some (.slice none 0 0)) (h : decide (p = none) = b) :
    XV P N σ ⟨d, .binOp .eql t x y u, ty, pos, aft, gd⟩ w (.bool b) w := fun c' ha => by
  have h2 := run_equal_slice_nil (P := P) w t e p n c ht
  subst h
  cases p <;> simp_all [execOp, ha.eval hx, ha.eval hy, eqGuard, binOp]
theorem xshr {m n r : Int} (hx : ev σ x = some (.int .i64 m)) (hy : ev σ y = some (.int .i64 n)) (h0 : 0 ≤ n) (h1 : n ≤ 64) (hr : m / 2 ^ n.toNat = r) :
    XV P N σ ⟨d, .binOp .shr t x y u, ty, pos, aft, gd⟩ w (.int .i64 r) w := xbin hx hy fun w => by
  rw [binOp_shr, shift_shr .i64 .i64 m n h0 h1, hr]; rfl
theorem xshl {m n r : Int} (hx : ev σ x = some (.int .i64 m)) (hy : ev σ y = some (.int .i64 n)) (h0 : 0 ≤ n) (h1 : n ≤ 64) (hr : m * 2 ^ n.toNat = r) (h2 : I64 r) :
    XV P N σ ⟨d, .binOp .shl t x y u, ty, pos, aft, gd⟩ w (.int .i64 r) w := xbin hx hy fun w => by
  rw [binOp_shl, shift_shl .i64 .i64 m n h0 h1, hr, wrap64 h2]; rfl
theorem xand1 {m : Nat} (hx : ev σ x = some (.int .i64 (m : Int))) (hy : ev σ y = some (.int .i64 1)) (h : m < 9223372036854775808) :
    XV P N σ ⟨d, .binOp .and t x y u, ty, pos, aft, gd⟩ w (.int .i64 ((m % 2 : Nat) : Int)) w := xbin hx hy fun w => by
  rw [binOp_and]
  have h1 : ((BitVec.ofInt 64 (m : Int) &&& BitVec.ofInt 64 1).toNat) = m % 2 := by
    rw [BitVec.toNat_and, BitVec.ofInt_natCast, show BitVec.ofInt 64 1 = 1#64 from rfl, BitVec.toNat_ofNat, Nat.mod_eq_of_lt (by omega)]
    exact Nat.and_one_is_mod m
  show (pure (Value.int .i64 (IntKind.i64.wrap ((BitVec.ofInt 64 (m : Int) &&& BitVec.ofInt 64 1).toNat))) : Sem Value).run P w = _
  rw [h1, wrap64 (by unfold I64; omega)]; rfl
theorem xsubE {m n r : Int} (hx : ev σ x = some (.int .i64 m)) (hy : ev σ y = some (.int .i64 n)) (hr : m - n = r) (h : I64 r) :
    XV P N σ ⟨d, .binOp .sub t x y u, ty, pos, aft, gd⟩ w (.int .i64 r) w := by subst hr; exact xsub hx hy h
theorem xaddE {m n r : Int} (hx : ev σ x = some (.int .i64 m)) (hy : ev σ y = some (.int .i64 n)) (hr : m + n = r) (h : I64 r) :
    XV P N σ ⟨d, .binOp .add t x y u, ty, pos, aft, gd⟩ w (.int .i64 r) w := by subst hr; exact xadd hx hy h
end


set_option maxHeartbeats 400000 in
theorem IndexFuncI64_ok (p : Option Addr) (n c : Nat) (xs : List Int) (w : World) (H : Sl i64c 1 w p n c xs) (g : FuncId) (caps : List Value) (f : Int → Bool) (hg : ∀ args w, (callFunc g args).run Try.prog w = .ok (.enter g args) w) (hf : ∀ (w' : World), Ext w w' → ∀ i (hi : i < xs.length), Ret Try.prog g ([.int .i64 xs[i]] ++ caps) w' (Pv w' (.bool (f xs[i])))) : Ret Try.prog 103 [.slice p n c, .func (.func g) #[] caps.toArray] w (Pv w (.int .i64 (findI f xs))) := by
  refine ret_of_run (N := 19) Try.func103 rfl rfl rfl ?_
  have hn := H.len
  have hn6 := H.n64
  have E : Ext w w := Ext.refl w
  refine run_seq ?_
  refine run_region ?_
  refine ov (xassign rfl) rfl rfl rfl ?_
  refine ops_nil ?_
  refine run_seq ?_
  refine run_seq ?_
  refine run_region ?_
  refine ov (xmove rfl) rfl rfl rfl ?_
  refine ov (xlen Try.underlying94 rfl) rfl rfl rfl ?_
  refine ov (xmove rfl) rfl rfl rfl ?_
  refine ops_nil ?_
  refine run_block ?_
  refine run_loop (ι := Nat × World) (fun x_ => match x_ with | (k, wr) => (Ext w wr) ∧ (w.heap.size ≤ wr.heap.size) ∧ (k ≤ n) ∧ (∀ j (hj : j < xs.length), j < k → f xs[j] = false)) (fun x_ => match x_ with | (k, wr) => [(0, .slice p n c), (1, .func (.func g) #[] caps.toArray), (7, .int .i64 (n : Int)), (8, .int .i64 (k : Int))]) (fun x_ => match x_ with | (k, wr) => wr) (fun x_ => match x_ with | (k, wr) => n - k) ?_ (0, w) (⟨E, Nat.le_refl _, by omega, fun j hj h => absurd h (Nat.not_lt_zero j)⟩) ⟨rfl, rfl, rfl, rfl, trivial⟩ rfl
  intro i_ hI_ hback2
  obtain ⟨k, wr⟩ := i_
  obtain ⟨E, lz_wr, hk, ha⟩ := hI_
  try dsimp only
  have zr := E.size
  refine run_seq ?_
  refine run_region ?_
  refine ov (xlss rfl rfl _ rfl) rfl rfl rfl ?_
  refine ods (fun c9 => ?_) (fun c9 => ?_)
  ·
    refine ops_nil ?_
    refine run_seq ?_
    refine run_cond_t rfl ?_
    refine run_skip ?_
    refine run_seq ?_
    refine run_block ?_
    refine run_seq ?_
    refine run_region ?_
    refine ov (xmove rfl) rfl rfl rfl ?_
    refine ov (xassign rfl) rfl rfl rfl ?_
    refine ops_nil ?_
    refine run_seq ?_
    refine run_region ?_
    refine ov (xmove rfl) rfl rfl rfl ?_
    refine ov (xmove rfl) rfl rfl rfl ?_
    refine ov (xmove rfl) rfl rfl rfl ?_
    have h14 := (H.ext E).at (i := k) (by omega)
    refine ov (xindexN (i := k) Try.underlying94 Try.sizeOf2 rfl rfl rfl ((H.ext E).p (i := k) (by omega)) (by have := (H.ext E).len; omega)) rfl rfl rfl ?_
    refine ov (v := .int .i64 xs[k]) (xloadz Try.isAgg2 rfl (h14) rfl) rfl rfl rfl ?_
    refine oc (xcallv rfl hg rfl) rfl rfl rfl (hf _ E k (by omega)) ?_
    rintro _ w1 ⟨rfl, e1⟩
    have z1 := e1.size
    have E := E.trans e1
    refine obs (fun c16 => ?_) (fun c16 => ?_)
    ·
      refine ops_nil ?_
      refine run_cond_t rfl ?_
      refine run_seq ?_
      refine run_region ?_
      refine ov (xmove rfl) rfl rfl rfl ?_
      refine ov (xassign rfl) rfl rfl rfl ?_
      refine ops_nil ?_
      refine run_ret Try.func103 (res1 rfl rfl) ?_
      exact ⟨_, rfl, by rw [findI_at (k := k) (by omega) (by assumption) ha], E⟩
    ·
      refine ops_nil ?_
      refine run_cond_f rfl ?_
      refine run_skip ?_
      refine run_inBlock ?_
      refine run_region ?_
      refine ov (xadd rfl rfl (by unfold I64; omega)) rfl rfl rfl ?_
      refine ov (xmove rfl) rfl rfl rfl ?_
      refine ops_nil ?_
      refine run_sub ?_ (hback2 (k + 1, w1) (⟨E, by omega, by omega, below_succ (q := fun x => f x = false) ha (fun _ => by assumption)⟩) (by first | omega | (dsimp only; omega)))
      exact ⟨rfl, rfl, rfl, rfl, trivial⟩
  ·
    refine ops_nil ?_
    refine run_seq ?_
    refine run_cond_f rfl ?_
    refine run_exit rfl ?_
    refine run_seq ?_
    refine run_region ?_
    refine ov (xassign rfl) rfl rfl rfl ?_
    refine ops_nil ?_
    refine run_ret Try.func103 (res1 rfl rfl) ?_
    exact ⟨_, rfl, by rw [findI_none (fun j hj => ha j hj (by omega))], E⟩

set_option maxHeartbeats 400000 in
theorem ContainsFuncI64_ok (p : Option Addr) (n c : Nat) (xs : List Int) (w : World) (H : Sl i64c 1 w p n c xs) (g : FuncId) (caps : List Value) (f : Int → Bool) (hg : ∀ args w, (callFunc g args).run Try.prog w = .ok (.enter g args) w) (hf : ∀ (w' : World), Ext w w' → ∀ i (hi : i < xs.length), Ret Try.prog g ([.int .i64 xs[i]] ++ caps) w' (Pv w' (.bool (f xs[i])))) : Ret Try.prog 100 [.slice p n c, .func (.func g) #[] caps.toArray] w (Pv w (.bool (xs.any f))) := by
  refine ret_of_run (N := 9) Try.func100 rfl rfl rfl ?_
  have E : Ext w w := Ext.refl w
  refine run_seq ?_
  refine run_region ?_
  refine ov (xassign rfl) rfl rfl rfl ?_
  refine ops_nil ?_
  refine run_seq ?_
  refine run_region ?_
  refine ov (xmove rfl) rfl rfl rfl ?_
  refine ov (xmove rfl) rfl rfl rfl ?_
  refine oc (xcall Try.call103 rfl) rfl rfl rfl (IndexFuncI64_ok _ _ _ _ _ (H.ext E) g caps f hg (fun w2 x2 => hf w2 (E.trans x2))) ?_
  rintro _ w1 ⟨rfl, e1⟩
  have z1 := e1.size
  have E := E.trans e1
  refine ov (xgeq rfl rfl _ rfl) rfl rfl rfl ?_
  refine ov (xassign rfl) rfl rfl rfl ?_
  refine ops_nil ?_
  refine run_ret Try.func100 (res1 rfl rfl) ?_
  exact ⟨_, rfl, congrArg Value.bool (by rw [Bool.eq_iff_iff, decide_eq_true_iff]; exact findI_nn), E⟩

set_option maxHeartbeats 1000000 in
theorem subset_ok (s N : Nat) (w : World) (hN : N ≤ 8) (hs : s < 256) : Ret Try.prog 81 [.int .i64 (s : Int), .int .i64 (N : Int)] w (fun v w' => Ext w w' ∧ ∃ q m d, v = .slice q m d ∧ q ≠ none ∧ Ow i64c 1 2 w' w.heap.size w'.heap.size q m d (subI N s)) := by
  refine ret_of_run (N := 23) Try.func81 rfl rfl rfl ?_
  have E : Ext w w := Ext.refl w
  refine run_seq ?_
  refine run_region ?_
  refine ov (xassign rfl) rfl rfl rfl ?_
  refine ops_nil ?_
  refine run_seq ?_
  refine run_region ?_
  refine obuild (cs := []) (sz := 1) Try.underlying94 inf2 rfl rfl (by decide) rfl rfl (by simp [Value.cells]) rfl rfl rfl ?_
  intro b1 w1 e1 hb1 hz1 O1
  have E := E.trans e1
  have G1 : Ow i64c 1 2 w1 b1 (b1 + 1) (some ⟨b1, 0, none⟩) 0 0 ([] : List Int) := Own.ow (by simpa [i64c] using O1) rfl (by omega) (Nat.le_refl _) (by omega) (by intro x hx; rfl)
  refine ov (xassign rfl) rfl rfl rfl ?_
  refine ops_nil ?_
  refine run_seq ?_
  refine run_seq ?_
  refine run_region ?_
  refine ov (xmove rfl) rfl rfl rfl ?_
  refine ov (xmove rfl) rfl rfl rfl ?_
  refine ops_nil ?_
  refine run_block ?_
  refine run_loop (ι := Nat × Option Addr × Nat × Nat × List Int × World) (fun x_ => match x_ with | (k, q_5, m_5, c_5, ys_5, wr) => (Ext w wr) ∧ (Ow i64c 1 2 wr b1 wr.heap.size q_5 m_5 c_5 ys_5) ∧ (b1 ≤ wr.heap.size) ∧ (w1.heap.size ≤ wr.heap.size) ∧ (k ≤ N) ∧ (m_5 ≤ k) ∧ (ys_5 = subI k s) ∧ (q_5 ≠ none)) (fun x_ => match x_ with | (k, q_5, m_5, c_5, ys_5, wr) => [(0, .int .i64 (s : Int)), (5, .slice q_5 m_5 c_5), (8, .int .i64 (N : Int)), (9, .int .i64 (k : Int))]) (fun x_ => match x_ with | (k, q_5, m_5, c_5, ys_5, wr) => wr) (fun x_ => match x_ with | (k, q_5, m_5, c_5, ys_5, wr) => N - k) ?_ (0, (some ⟨b1, 0, none⟩), 0, 0, [], w1) (⟨E, G1.wide (by omega) (by omega), by omega, Nat.le_refl _, by omega, Nat.le_refl _, rfl, (by simp)⟩) ⟨rfl, rfl, rfl, rfl, trivial⟩ rfl
  intro i_ hI_ hback3
  obtain ⟨k, q_5, m_5, c_5, ys_5, wr⟩ := i_
  obtain ⟨E, G_5, lo_5, lz_wr, hk, hm5, hy, hq⟩ := hI_
  try dsimp only
  have zr := E.size
  have lg_5 := G_5.len
  refine run_seq ?_
  refine run_region ?_
  refine ov (xlss rfl rfl _ rfl) rfl rfl rfl ?_
  refine ods (fun c10 => ?_) (fun c10 => ?_)
  ·
    refine ops_nil ?_
    refine run_seq ?_
    refine run_cond_t rfl ?_
    refine run_skip ?_
    refine run_seq ?_
    refine run_block ?_
    refine run_seq ?_
    refine run_region ?_
    refine ov (xmove rfl) rfl rfl rfl ?_
    refine ov (xassign rfl) rfl rfl rfl ?_
    refine ops_nil ?_
    refine run_seq ?_
    refine run_region ?_
    refine ov (xmove rfl) rfl rfl rfl ?_
    refine ov (xmove rfl) rfl rfl rfl ?_
    refine ov (xshr rfl rfl (by omega) (by omega) (shr_nat s k)) rfl rfl rfl ?_
    refine ov (xand1 rfl rfl (shr_lt k hs)) rfl rfl rfl ?_
    refine ov (xeql rfl rfl _ rfl) rfl rfl rfl ?_
    refine ods (fun c16 => ?_) (fun c16 => ?_)
    ·
      refine ops_nil ?_
      refine run_cond_t rfl ?_
      refine run_region ?_
      refine ov (xmove rfl) rfl rfl rfl ?_
      refine ov (xmove rfl) rfl rfl rfl ?_
      refine obuild (cs := [.int .i64 (k : Int)]) (sz := 1) Try.underlying94 inf2 rfl rfl (by decide) rfl rfl (by simp [Value.cells]) rfl rfl rfl ?_
      intro b2 w2 e2 hb2 hz2 O2
      have E := E.trans e2
      replace G_5 := G_5.ext e2
      refine oapp2 (bytes := 8) (nm := (m_5 + 1)) G_5 rfl rfl elem2 (Own.sl1 (y := (k : Int)) O2) (by intro h; cases h) (by intro y hy; rfl) (by intro y hy u hu; rw [List.mem_singleton] at hy; subst hy; revert u; simp [Value.oneCell', i64c]) (by omega) (by omega) (by omega) (by omega) rfl rfl ?_
      intro p3 c3_ w3 m3 k3 hat20 G3
      have hh3 := hend_le q_5
      have hz3 := m3.size
      have E := m3.toExt E (by omega)
      try replace O2 := m3.own O2 (by omega)
      refine ov (xassign rfl) rfl rfl rfl ?_
      refine ops_nil ?_
      refine run_inBlock ?_
      refine run_region ?_
      refine ov (xadd rfl rfl (by unfold I64; omega)) rfl rfl rfl ?_
      refine ov (xmove rfl) rfl rfl rfl ?_
      refine ops_nil ?_
      refine run_sub ?_ (hback3 (k + 1, p3, (m_5 + 1), c3_, _, w3) (⟨E, G3.wide (by omega) (by omega), by omega, by omega, by omega, by omega, by rw [hy]; exact subI_t c16, hat20.elim (fun h => by rw [h]; exact hq) (fun h h2 => by subst h2; simp only [pb, Option.getD_none] at h; omega)⟩) (by first | omega | (dsimp only; omega)))
      exact ⟨rfl, rfl, rfl, rfl, trivial⟩
    ·
      refine ops_nil ?_
      refine run_cond_f rfl ?_
      refine run_skip ?_
      refine run_inBlock ?_
      refine run_region ?_
      refine ov (xadd rfl rfl (by unfold I64; omega)) rfl rfl rfl ?_
      refine ov (xmove rfl) rfl rfl rfl ?_
      refine ops_nil ?_
      refine run_sub ?_ (hback3 (k + 1, q_5, m_5, c_5, ys_5, wr) (⟨E, G_5.wide (by omega) (by omega), by omega, by omega, by omega, by omega, by rw [hy]; exact subI_f c16, hq⟩) (by first | omega | (dsimp only; omega)))
      exact ⟨rfl, rfl, rfl, rfl, trivial⟩
  ·
    refine ops_nil ?_
    refine run_seq ?_
    refine run_cond_f rfl ?_
    refine run_exit rfl ?_
    refine run_seq ?_
    refine run_region ?_
    refine ov (xmove rfl) rfl rfl rfl ?_
    refine ov (xassign rfl) rfl rfl rfl ?_
    refine ops_nil ?_
    refine run_ret Try.func81 (res1 rfl rfl) ?_
    obtain rfl : k = N := by omega
    exact ⟨_, rfl, E, _, _, _, rfl, hq, by rw [← hy]; exact G_5.wide (by omega) (by omega)⟩

set_option maxHeartbeats 1000000 in
theorem less_ok (p q : Option Addr) (n c m d : Nat) (xs ys : List Int) (w : World) (H : Sl i64c 1 w p n c xs) (K : Sl i64c 1 w q m d ys) : Ret Try.prog 82 [.slice p n c, .slice q m d] w (Pv w (.bool (lexI xs ys))) := by
  refine ret_of_run (N := 38) Try.func82 rfl rfl rfl ?_
  have hn := H.len
  have hm := K.len
  have hn6 := H.n64
  have hm6 := K.n64
  have E : Ext w w := Ext.refl w
  refine run_seq ?_
  refine run_region ?_
  refine ov (xassign rfl) rfl rfl rfl ?_
  refine ops_nil ?_
  refine run_seq ?_
  refine run_seq ?_
  refine run_region ?_
  refine ov (xmove rfl) rfl rfl rfl ?_
  refine ov (xlen Try.underlying94 rfl) rfl rfl rfl ?_
  refine ov (xmove rfl) rfl rfl rfl ?_
  refine ov (xlen Try.underlying94 rfl) rfl rfl rfl ?_
  refine ov (v := .int .i64 (min (n : Int) (m : Int))) (xmin rfl rfl) rfl rfl rfl ?_
  refine ov (xmove rfl) rfl rfl rfl ?_
  refine ops_nil ?_
  refine run_block ?_
  refine run_loop (ι := Nat × World) (fun x_ => match x_ with | (k, wr) => (Ext w wr) ∧ (w.heap.size ≤ wr.heap.size) ∧ (k ≤ n) ∧ (k ≤ m) ∧ (lexI xs ys = lexI (xs.drop k) (ys.drop k))) (fun x_ => match x_ with | (k, wr) => [(0, .slice p n c), (1, .slice q m d), (10, .int .i64 (min (n : Int) (m : Int))), (11, .int .i64 (k : Int))]) (fun x_ => match x_ with | (k, wr) => wr) (fun x_ => match x_ with | (k, wr) => n - k) ?_ (0, w) (⟨E, Nat.le_refl _, by omega, by omega, rfl⟩) ⟨rfl, rfl, rfl, rfl, trivial⟩ rfl
  intro i_ hI_ hback2
  obtain ⟨k, wr⟩ := i_
  obtain ⟨E, lz_wr, hk, hk2, hl⟩ := hI_
  try dsimp only
  have zr := E.size
  refine run_seq ?_
  refine run_region ?_
  refine ov (xlss rfl rfl _ rfl) rfl rfl rfl ?_
  refine ods (fun c12 => ?_) (fun c12 => ?_)
  ·
    refine ops_nil ?_
    refine run_seq ?_
    refine run_cond_t rfl ?_
    refine run_skip ?_
    refine run_seq ?_
    refine run_block ?_
    refine run_seq ?_
    refine run_region ?_
    refine ov (xmove rfl) rfl rfl rfl ?_
    refine ov (xassign rfl) rfl rfl rfl ?_
    refine ops_nil ?_
    refine run_seq ?_
    refine run_draw (by kernel_rfl) (by kernel_rfl) ?_
    refine qv (fun w' x_ => xmove rfl) rfl rfl rfl ?_
    refine qv (fun w' x_ => xmove rfl) rfl rfl rfl ?_
    have h16 := (H.ext E).at (i := k) (by omega)
    refine qv (fun w' x_ => xindexN (i := k) Try.underlying94 Try.sizeOf2 rfl rfl rfl ((H.ext E).p (i := k) (by omega)) (by have := (H.ext E).len; omega)) rfl rfl rfl ?_
    refine qv (v := .int .i64 xs[k]) (fun w' x_ => xloadz Try.isAgg2 rfl ((h16).ext x_) rfl) rfl rfl rfl ?_
    refine qv (fun w' x_ => xmove rfl) rfl rfl rfl ?_
    refine qv (fun w' x_ => xmove rfl) rfl rfl rfl ?_
    have h20 := (K.ext E).at (i := k) (by omega)
    refine qv (fun w' x_ => xindexN (i := k) Try.underlying94 Try.sizeOf2 rfl rfl rfl ((K.ext E).p (i := k) (by omega)) (by have := (K.ext E).len; omega)) rfl rfl rfl ?_
    refine qv (v := .int .i64 ys[k]) (fun w' x_ => xloadz Try.isAgg2 rfl ((h20).ext x_) rfl) rfl rfl rfl ?_
    refine qv (fun w' x_ => xneq rfl rfl _ rfl) rfl rfl rfl ?_
    refine qds (fun c22 => ?_) (fun c22 => ?_)
    ·
      refine q_nil ?_
      intro w1 e1
      have z1 := e1.size
      have E := E.trans e1
      refine run_cond_t rfl ?_
      refine run_seq ?_
      refine run_draw (by kernel_rfl) (by kernel_rfl) ?_
      refine qv (fun w' x_ => xmove rfl) rfl rfl rfl ?_
      refine qv (fun w' x_ => xmove rfl) rfl rfl rfl ?_
      have h25 := (H.ext E).at (i := k) (by omega)
      refine qv (fun w' x_ => xindexN (i := k) Try.underlying94 Try.sizeOf2 rfl rfl rfl ((H.ext E).p (i := k) (by omega)) (by have := (H.ext E).len; omega)) rfl rfl rfl ?_
      refine qv (v := .int .i64 xs[k]) (fun w' x_ => xloadz Try.isAgg2 rfl ((h25).ext x_) rfl) rfl rfl rfl ?_
      refine qv (fun w' x_ => xmove rfl) rfl rfl rfl ?_
      refine qv (fun w' x_ => xmove rfl) rfl rfl rfl ?_
      have h29 := (K.ext E).at (i := k) (by omega)
      refine qv (fun w' x_ => xindexN (i := k) Try.underlying94 Try.sizeOf2 rfl rfl rfl ((K.ext E).p (i := k) (by omega)) (by have := (K.ext E).len; omega)) rfl rfl rfl ?_
      refine qv (v := .int .i64 ys[k]) (fun w' x_ => xloadz Try.isAgg2 rfl ((h29).ext x_) rfl) rfl rfl rfl ?_
      refine qv (fun w' x_ => xlss rfl rfl _ rfl) rfl rfl rfl ?_
      refine qv (fun w' x_ => xassign rfl) rfl rfl rfl ?_
      refine q_nil ?_
      intro w2 e2
      have z2 := e2.size
      have E := E.trans e2
      refine run_ret Try.func82 (res1 rfl rfl) ?_
      exact ⟨_, rfl, by rw [hl, lexI_ne (by omega) (by omega) c22], E⟩
    ·
      refine q_nil ?_
      intro w1 e1
      have z1 := e1.size
      have E := E.trans e1
      refine run_cond_f rfl ?_
      refine run_skip ?_
      refine run_inBlock ?_
      refine run_region ?_
      refine ov (xadd rfl rfl (by unfold I64; omega)) rfl rfl rfl ?_
      refine ov (xmove rfl) rfl rfl rfl ?_
      refine ops_nil ?_
      refine run_sub ?_ (hback2 (k + 1, w1) (⟨E, by omega, by omega, by omega, by rw [hl]; exact lexI_eq (by omega) (by omega) (Classical.not_not.1 c22)⟩) (by first | omega | (dsimp only; omega)))
      exact ⟨rfl, rfl, rfl, rfl, trivial⟩
  ·
    refine ops_nil ?_
    refine run_seq ?_
    refine run_cond_f rfl ?_
    refine run_exit rfl ?_
    refine run_seq ?_
    refine run_region ?_
    refine ov (xmove rfl) rfl rfl rfl ?_
    refine ov (xlen Try.underlying94 rfl) rfl rfl rfl ?_
    refine ov (xmove rfl) rfl rfl rfl ?_
    refine ov (xlen Try.underlying94 rfl) rfl rfl rfl ?_
    refine ov (xlss rfl rfl _ rfl) rfl rfl rfl ?_
    refine ov (xassign rfl) rfl rfl rfl ?_
    refine ops_nil ?_
    refine run_ret Try.func82 (res1 rfl rfl) ?_
    exact ⟨_, rfl, by rw [hl, lexI_end (by omega) (by omega) (by omega)]; exact congrArg Value.bool (decide_eq_decide.2 (by omega)), E⟩

set_option maxHeartbeats 1000000 in
theorem seeAll1_ok (i : Int) (b1 b2 b3 : Nat) (p : Option Addr) (n c : Nat) (rs : List Role) (hd : Nat → Hd) (f : File) (k : Hd) (day : Int) (w : World) (O1 : Own w b1 [.slice p n c] 25) (O2 : Own w b2 [.string f.Code, .int .i64 f.Level, .slice k.p k.n k.c, .int .i64 f.Until] 54) (O3 : Own w b3 [.int .i64 day] 2) (H : NS cellsRoleS 3 innRoleS strc 1 w p n c rs hd) (K : Sl strc 1 w k.p k.n k.c f.Groups) (h0 : 0 ≤ i) (h1 : i.toNat < rs.length) : Ret Try.prog 101 [.int .i64 i, .pointer (some ⟨b1, 0, none⟩), .pointer (some ⟨b2, 0, none⟩), .pointer (some ⟨b3, 0, none⟩)] w (Pv w (.bool (seeP (getR rs i) f day))) := by
  refine ret_of_run (N := 13) Try.func101 rfl rfl rfl ?_
  have hn := H.len
  have hn6 := H.n64
  have E : Ext w w := Ext.refl w
  refine run_seq ?_
  refine run_region ?_
  refine ov (xassign rfl) rfl rfl rfl ?_
  refine ops_nil ?_
  refine run_seq ?_
  refine run_draw (by kernel_rfl) (by kernel_rfl) ?_
  refine qv (v := .slice p n c) (fun w' x_ => xloadz Try.isAgg25 rfl ((O1.cells).ext x_) rfl) rfl rfl rfl ?_
  refine qv (fun w' x_ => xmove rfl) rfl rfl rfl ?_
  have h8 := (H.ext E).at (i := i.toNat) (by omega)
  refine qv (fun w' x_ => xindexN (i := i.toNat) Try.underlying25 Try.sizeOf71 rfl rfl (by omega) ((H.ext E).p (i := i.toNat) (by omega)) (by have := (H.ext E).len; omega)) rfl rfl rfl ?_
  refine qv (v := .agg #[.string rs[i.toNat].Name, .int .i64 rs[i.toNat].Level, .slice (hd i.toNat).p (hd i.toNat).n (hd i.toNat).c]) (fun w' x_ => xloadN Try.isAgg71 Try.sizeOf71 rfl ((h8).ext x_) rfl) rfl rfl rfl ?_
  refine qv (v := .agg #[.string f.Code, .int .i64 f.Level, .slice k.p k.n k.c, .int .i64 f.Until]) (fun w' x_ => xloadN Try.isAgg54 Try.sizeOf54 rfl ((O2.cells).ext x_) rfl) rfl rfl rfl ?_
  refine qv (v := .int .i64 day) (fun w' x_ => xloadz Try.isAgg2 rfl ((O3.cells).ext x_) rfl) rfl rfl rfl ?_
  have t12 := fun (w' : World) (x_ : Ext w w') => Ret.q (w := w') (maySee_ok _ _ _ _ (day) _ (((show Sl strc 1 _ _ _ _ rs[i.toNat].Groups from (H.inner (i := i.toNat) (by omega)).ext E)).ext x_) ((K.ext E).ext x_))
  refine qc (fun w' => xcall Try.call79 rfl) rfl rfl rfl t12 ?_
  clear t12
  refine qv (fun w' x_ => xassign rfl) rfl rfl rfl ?_
  refine q_nil ?_
  intro w1 e1
  have z1 := e1.size
  have E := E.trans e1
  replace O1 := O1.ext e1
  replace O2 := O2.ext e1
  replace O3 := O3.ext e1
  refine run_ret Try.func101 (res1 rfl rfl) ?_
  exact ⟨_, rfl, by rw [getR_eq h1], E⟩

set_option maxHeartbeats 2000000 in
theorem seeAll_ok (p : Option Addr) (n c : Nat) (xs : List Role) (q : Option Addr) (m d : Nat) (ys : List File) (r2 : Option Addr) (n2 c2 : Nat) (is : List Int) (day : Int) (w : World) (H0 : SnRoleS w p n c xs) (K0 : SnFileS w q m d ys) (I : Sl i64c 1 w r2 n2 c2 is) (his : ∀ i ∈ is, 0 ≤ i ∧ i.toNat < xs.length) : Ret Try.prog 83 [.slice p n c, .slice q m d, .slice r2 n2 c2, .int .i64 day] w (Pv w (.bool (satI xs ys day is))) := by
  refine ret_of_run (N := 22) Try.func83 rfl rfl rfl ?_
  obtain ⟨hd, H⟩ := H0
  have hn := H.len
  have hn6 := H.n64
  obtain ⟨he_, K⟩ := K0
  have hm := K.len
  have hm6 := K.n64
  have hi_ := I.len
  have hi6 := I.n64
  have E : Ext w w := Ext.refl w
  refine run_seq ?_
  refine run_region ?_
  refine obox rfl rfl rfl ?_
  intro b1 w1 e1 hb1 hz1 O1
  have E := E.trans e1
  replace O1 : Own w1 b1 [.slice p n c] 25 := O1
  refine obox rfl rfl rfl ?_
  intro b2 w2 e2 hb2 hz2 O2
  have E := E.trans e2
  replace O1 := O1.ext e2
  replace O2 : Own w2 b2 [.int .i64 day] 2 := O2
  refine ov (xassign rfl) rfl rfl rfl ?_
  refine ops_nil ?_
  refine run_seq ?_
  refine run_seq ?_
  refine run_region ?_
  refine ov (xmove rfl) rfl rfl rfl ?_
  refine ov (xlen Try.underlying32 rfl) rfl rfl rfl ?_
  refine ov (xmove rfl) rfl rfl rfl ?_
  refine ops_nil ?_
  refine run_block ?_
  refine run_loop (ι := Nat × World) (fun x_ => match x_ with | (k, wr) => (Ext w wr) ∧ (Own wr b1 ([.slice p n c]) 25) ∧ (Own wr b2 ([.int .i64 day]) 2) ∧ (w2.heap.size ≤ wr.heap.size) ∧ (k ≤ m) ∧ (allB k (allI (fun _ f => is.any fun i => seeP (getR xs i) f day) ys) = true)) (fun x_ => match x_ with | (k, wr) => [(2, .slice r2 n2 c2), (4, .pointer (some ⟨b1, 0, none⟩)), (7, .pointer (some ⟨b2, 0, none⟩)), (11, .slice q m d), (12, .int .i64 (m : Int)), (13, .int .i64 (k : Int))]) (fun x_ => match x_ with | (k, wr) => wr) (fun x_ => match x_ with | (k, wr) => m - k) ?_ (0, w2) (⟨E, O1, O2, Nat.le_refl _, by omega, allB_zero⟩) ⟨rfl, rfl, rfl, rfl, rfl, rfl, trivial⟩ rfl
  intro i_ hI_ hback2
  obtain ⟨k, wr⟩ := i_
  obtain ⟨E, O_b1, O_b2, lz_wr, hk, ha⟩ := hI_
  try dsimp only
  have zr := E.size
  have lt_b1 := O_b1.lt
  have lt_b2 := O_b2.lt
  refine run_seq ?_
  refine run_region ?_
  refine ov (xlss rfl rfl _ rfl) rfl rfl rfl ?_
  refine ods (fun c14 => ?_) (fun c14 => ?_)
  ·
    refine ops_nil ?_
    refine run_seq ?_
    refine run_cond_t rfl ?_
    refine run_skip ?_
    refine run_seq ?_
    refine run_block ?_
    refine run_seq ?_
    refine run_region ?_
    have h15 := (K.ext E).at (i := k) (by omega)
    refine ov (xindexN (i := k) Try.underlying32 Try.sizeOf54 rfl rfl rfl ((K.ext E).p (i := k) (by omega)) (by have := (K.ext E).len; omega)) rfl rfl rfl ?_
    refine ov (v := .agg #[.string ys[k].Code, .int .i64 ys[k].Level, .slice (he_ k).p (he_ k).n (he_ k).c, .int .i64 ys[k].Until]) (xloadN Try.isAgg54 Try.sizeOf54 rfl (h15) rfl) rfl rfl rfl ?_
    refine oalloc Try.zeroValue54 rfl rfl ?_
    intro b3 w3 e3 hb3 hz3 O3
    have E := E.trans e3
    replace O_b1 := O_b1.ext e3
    replace O_b2 := O_b2.ext e3
    replace O3 : Own w3 b3 [.string ⟨#[]⟩, .int .i64 0, .slice none 0 0, .int .i64 0] 54 := O3
    refine ostoreN (vs := _) Try.sizeOf54 rfl rfl O3 rfl (by simp) (by simp [Value.oneCell']) rfl ?_
    intro w4 on4 O4
    have hz4 := on4.size
    have E := on4.ext E (by omega)
    replace O_b1 := on4.own O_b1 (by omega)
    replace O_b2 := on4.own O_b2 (by omega)
    replace O4 : Own w4 b3 [.string ys[k].Code, .int .i64 ys[k].Level, .slice (he_ k).p (he_ k).n (he_ k).c, .int .i64 ys[k].Until] 54 := O4
    refine ops_nil ?_
    refine run_seq ?_
    refine run_region ?_
    refine ov (xmove rfl) rfl rfl rfl ?_
    refine ov (xmakeFunc rfl rfl) rfl rfl rfl ?_
    refine oc (xcall Try.call100 rfl) rfl rfl rfl (ContainsFuncI64_ok _ _ _ _ _ (I.ext E) 101 [.pointer (some ⟨b1, 0, none⟩), .pointer (some ⟨b3, 0, none⟩), .pointer (some ⟨b2, 0, none⟩)] (fun i : Int => seeP (getR xs i) ys[k] day) Try.call101 (fun w2 x2 i2 hi2 => seeAll1_ok _ _ _ _ _ _ _ _ _ _ (he_ k) _ _ (O_b1.ext x2) (O4.ext x2) (O_b2.ext x2) ((H.ext E).ext x2) ((show Sl strc 1 _ _ _ _ ys[k].Groups from (K.inner (i := k) (by omega)).ext E).ext x2) (his _ (List.getElem_mem _)).1 (his _ (List.getElem_mem _)).2)) ?_
    rintro _ w5 ⟨rfl, e5⟩
    have z5 := e5.size
    have E := E.trans e5
    replace O_b1 := O_b1.ext e5
    replace O_b2 := O_b2.ext e5
    replace O4 := O4.ext e5
    refine obs (fun c19 => ?_) (fun c19 => ?_)
    ·
      refine ov (xnot rfl) rfl rfl rfl ?_
      refine ops_nil ?_
      refine run_cond_f rfl ?_
      refine run_skip ?_
      refine run_inBlock ?_
      refine run_region ?_
      refine ov (xadd rfl rfl (by unfold I64; omega)) rfl rfl rfl ?_
      refine ov (xmove rfl) rfl rfl rfl ?_
      refine ops_nil ?_
      refine run_sub ?_ (hback2 (k + 1, w5) (⟨E, O_b1, O_b2, by omega, by omega, allB_succ ha (by rw [allI_of (by omega)]; exact c19)⟩) (by first | omega | (dsimp only; omega)))
      exact ⟨rfl, rfl, rfl, rfl, rfl, rfl, trivial⟩
    ·
      refine ov (xnot rfl) rfl rfl rfl ?_
      refine ops_nil ?_
      refine run_cond_t rfl ?_
      refine run_seq ?_
      refine run_region ?_
      refine ov (xassign rfl) rfl rfl rfl ?_
      refine ops_nil ?_
      refine run_ret Try.func83 (res1 rfl rfl) ?_
      exact ⟨_, rfl, by rw [satI, allB_false (i := k) (by omega) (by rw [allI_of (by omega)]; exact c19)], E⟩
  ·
    refine ops_nil ?_
    refine run_seq ?_
    refine run_cond_f rfl ?_
    refine run_exit rfl ?_
    refine run_seq ?_
    refine run_region ?_
    refine ov (xassign rfl) rfl rfl rfl ?_
    refine ops_nil ?_
    refine run_ret Try.func83 (res1 rfl rfl) ?_
    obtain rfl : k = m := by omega
    exact ⟨_, rfl, by rw [satI, ← hm, ha], E⟩

set_option maxHeartbeats 4000000 in
theorem LeastRoles_ok (p : Option Addr) (n c : Nat) (xs : List Role) (q : Option Addr) (m d : Nat) (ys : List File) (day : Int) (w : World) (H0 : SnRoleS w p n c xs) (K0 : SnFileS w q m d ys) (hx : ∀ x ∈ xs, x.ok) (hy : ∀ x ∈ ys, x.ok) : Ret Try.prog 48 [.slice p n c, .slice q m d, .int .i64 day] w (fun v w' => Ext w w' ∧ ∃ q m d, v = .tuple #[.slice q m d, .int .i64 (leastR xs ys day).2] ∧ Ow strc 1 9 w' w.heap.size w'.heap.size q m d (leastR xs ys day).1) := by
  refine ret_of_run (N := 80) Try.func48 rfl rfl rfl ?_
  obtain ⟨hd, H⟩ := H0
  have hn := H.len
  have hn6 := H.n64
  obtain ⟨he_, K⟩ := K0
  have hm := K.len
  have hm6 := K.n64
  have E : Ext w w := Ext.refl w
  refine run_seq ?_
  refine run_region ?_
  refine ov (xassign rfl) rfl rfl rfl ?_
  refine ov (xassign rfl) rfl rfl rfl ?_
  refine ops_nil ?_
  refine run_seq ?_
  refine run_seq ?_
  refine run_region ?_
  refine ov (xmove rfl) rfl rfl rfl ?_
  refine ov (xmove rfl) rfl rfl rfl ?_
  refine ov (xmove rfl) rfl rfl rfl ?_
  refine oc (xcall Try.call78 rfl) rfl rfl rfl (sealCode_ok _ _ _ _ _ _ _ _ (day) _ (H.ext E).sn (K.ext E).sn (by assumption) (by assumption)) ?_
  rintro _ w1 ⟨rfl, e1⟩
  have z1 := e1.size
  have E := E.trans e1
  refine ov (xassign rfl) rfl rfl rfl ?_
  refine ops_nil ?_
  refine run_seq ?_
  refine run_region ?_
  refine ov (xmove rfl) rfl rfl rfl ?_
  refine ov (xneq rfl rfl _ rfl) rfl rfl rfl ?_
  refine ods (fun c20 => ?_) (fun c20 => ?_)
  ·
    refine ops_nil ?_
    refine run_cond_t rfl ?_
    refine run_seq ?_
    refine run_region ?_
    refine ov (xmove rfl) rfl rfl rfl ?_
    refine ov (xassign rfl) rfl rfl rfl ?_
    refine ov (xassign rfl) rfl rfl rfl ?_
    refine ops_nil ?_
    refine run_ret Try.func48 (res2 rfl rfl rfl) ?_
    have he : leastR xs ys day = ([], (sealCode xs ys day)) := by rw [leastR, if_pos (by omega)]
    exact ⟨_, rfl, E, none, 0, 0, by rw [he], by rw [he]; exact Ow.none _ _ _ _ _ _⟩
  ·
    have hz_ := sealCode_zero (by omega : sealCode xs ys day = 0)
    have hr8_ := areRoles_len hz_.1
    have hp0_ : 2 ^ n ≤ 256 := Nat.pow_le_pow_right (n := 2) (by omega) (by omega : n ≤ 8)
    obtain ⟨P2, hP2⟩ : ∃ x, x = 2 ^ n := ⟨_, rfl⟩
    have hp_ : P2 ≤ 256 := by rw [hP2]; exact hp0_
    clear hp0_
    refine ops_nil ?_
    refine run_cond_f rfl ?_
    refine run_skip ?_
    refine run_seq ?_
    refine run_region ?_
    refine ov (xassign rfl) rfl rfl rfl ?_
    refine ops_nil ?_
    refine run_seq ?_
    refine run_seq ?_
    refine run_region ?_
    refine ov (xmove rfl) rfl rfl rfl ?_
    refine ov (xlen Try.underlying25 rfl) rfl rfl rfl ?_
    refine ov (xshl (r := (P2 : Int)) rfl rfl (by omega) (by omega) (by rw [hP2]; exact shl_nat n) (by unfold I64; omega)) rfl rfl rfl ?_
    refine ov (xmove rfl) rfl rfl rfl ?_
    refine ops_nil ?_
    refine run_block ?_
    refine run_loop (ι := Nat × Option Addr × Nat × Nat × List Int × World) (fun x_ => match x_ with | (k, q9, m9, c9, fl, wr) => (Ext w wr) ∧ (Ow i64c 1 2 wr w.heap.size wr.heap.size q9 m9 c9 fl) ∧ (w1.heap.size ≤ wr.heap.size) ∧ (k ≤ P2) ∧ (FND xs ys day n k q9 fl)) (fun x_ => match x_ with | (k, q9, m9, c9, fl, wr) => [(0, .slice p n c), (1, .slice q m d), (2, .int .i64 day), (9, .slice q9 m9 c9), (24, .int .i64 (P2 : Int)), (25, .int .i64 (k : Int))]) (fun x_ => match x_ with | (k, q9, m9, c9, fl, wr) => wr) (fun x_ => match x_ with | (k, q9, m9, c9, fl, wr) => P2 - k) ?_ (0, none, 0, 0, [], w1) (⟨E, Ow.none _ _ _ _ _ _, Nat.le_refl _, by omega, .inl ⟨rfl, rfl⟩⟩) ⟨rfl, rfl, rfl, rfl, rfl, rfl, trivial⟩ rfl
    intro i_ hI_ hback6
    obtain ⟨k, q9, m9, c9, fl, wr⟩ := i_
    obtain ⟨E, GF, lz_wr, hk, hf⟩ := hI_
    try dsimp only
    have zr := E.size
    have lGF := GF.len
    have hsl := subI_len n k
    refine run_seq ?_
    refine run_region ?_
    refine ov (xlss rfl rfl _ rfl) rfl rfl rfl ?_
    refine ods (fun c26 => ?_) (fun c26 => ?_)
    ·
      refine ops_nil ?_
      refine run_seq ?_
      refine run_cond_t rfl ?_
      refine run_skip ?_
      refine run_seq ?_
      refine run_block ?_
      refine run_seq ?_
      refine run_region ?_
      refine ov (xmove rfl) rfl rfl rfl ?_
      refine ov (xassign rfl) rfl rfl rfl ?_
      refine ops_nil ?_
      refine run_seq ?_
      refine run_region ?_
      refine ov (xmove rfl) rfl rfl rfl ?_
      refine ov (xmove rfl) rfl rfl rfl ?_
      refine ov (xlen Try.underlying25 rfl) rfl rfl rfl ?_
      refine oc (xcall Try.call81 rfl) rfl rfl rfl (subset_ok k n _ (by omega) (by omega)) ?_
      rintro _ w2 ⟨e2, q31, m31, d31, rfl, hq31, G31⟩
      have z2 := e2.size
      have E := E.trans e2
      replace GF := GF.ext e2
      have lG31 := G31.len
      refine ov (xassign rfl) rfl rfl rfl ?_
      refine ops_nil ?_
      refine run_seq ?_
      refine run_seq ?_
      refine run_region ?_
      refine ov (xmove rfl) rfl rfl rfl ?_
      refine ov (xslneq Try.underlying94 rfl rfl rfl) rfl rfl rfl ?_
      refine ods (fun c33 => ?_) (fun c33 => ?_)
      ·
        refine ov (xmove rfl) rfl rfl rfl ?_
        refine ov (xmove rfl) rfl rfl rfl ?_
        refine ov (xlen Try.underlying94 rfl) rfl rfl rfl ?_
        refine ov (xmove rfl) rfl rfl rfl ?_
        refine ov (xlen Try.underlying94 rfl) rfl rfl rfl ?_
        refine ov (xgtr rfl rfl _ rfl) rfl rfl rfl ?_
        refine ods (fun c39 => ?_) (fun c39 => ?_)
        ·
          refine ov (xmove rfl) rfl rfl rfl ?_
          refine og rfl rfl rfl ?_
          refine og rfl rfl rfl ?_
          refine og rfl rfl rfl ?_
          refine og rfl rfl rfl ?_
          refine og rfl rfl rfl ?_
          refine og rfl rfl rfl ?_
          refine og rfl rfl rfl ?_
          refine og rfl rfl rfl ?_
          refine og rfl rfl rfl ?_
          refine og rfl rfl rfl ?_
          refine og rfl rfl rfl ?_
          refine ov (xpick_t rfl rfl) rfl rfl rfl ?_
          refine ov (xpick_t rfl rfl) rfl rfl rfl ?_
          refine ops_nil ?_
          refine run_cond_t rfl ?_
          refine run_exit rfl ?_
          refine run_region ?_
          refine ov (xadd rfl rfl (by unfold I64; omega)) rfl rfl rfl ?_
          refine ov (xmove rfl) rfl rfl rfl ?_
          refine ops_nil ?_
          refine run_sub ?_ (hback6 (k + 1, q9, m9, c9, fl, w2) (⟨E, GF.wide (by omega) (by omega), by omega, by omega, srch_c hf c33 (by first | exact .inl (by omega) | exact .inr ⟨by omega, by assumption⟩)⟩) (by first | omega | (dsimp only; omega)))
          exact ⟨rfl, rfl, rfl, rfl, rfl, rfl, trivial⟩
        ·
          refine ov (xmove rfl) rfl rfl rfl ?_
          refine ov (xmove rfl) rfl rfl rfl ?_
          refine ov (xlen Try.underlying94 rfl) rfl rfl rfl ?_
          refine ov (xmove rfl) rfl rfl rfl ?_
          refine ov (xlen Try.underlying94 rfl) rfl rfl rfl ?_
          refine ov (xeql rfl rfl _ rfl) rfl rfl rfl ?_
          refine ods (fun c45 => ?_) (fun c45 => ?_)
          ·
            refine ov (xmove rfl) rfl rfl rfl ?_
            refine ov (xmove rfl) rfl rfl rfl ?_
            refine ov (xmove rfl) rfl rfl rfl ?_
            refine oc (xcall Try.call82 rfl) rfl rfl rfl (less_ok _ _ _ _ _ _ _ _ _ (G31.sl) (GF.sl)) ?_
            rintro _ w3 ⟨rfl, e3⟩
            have z3 := e3.size
            have E := E.trans e3
            replace GF := GF.ext e3
            replace G31 := G31.ext e3
            refine obs (fun c49 => ?_) (fun c49 => ?_)
            ·
              refine ov (xnot rfl) rfl rfl rfl ?_
              refine ov (xpick_t rfl rfl) rfl rfl rfl ?_
              refine ov (xpick_f rfl rfl) rfl rfl rfl ?_
              refine ov (xpick_t rfl rfl) rfl rfl rfl ?_
              refine ops_nil ?_
              refine run_cond_f rfl ?_
              refine run_skip ?_
              refine run_seq ?_
              refine run_region ?_
              refine ov (xmove rfl) rfl rfl rfl ?_
              refine ov (xmove rfl) rfl rfl rfl ?_
              refine ov (xmove rfl) rfl rfl rfl ?_
              refine ov (xmove rfl) rfl rfl rfl ?_
              refine oc (xcall Try.call83 rfl) rfl rfl rfl (seeAll_ok _ _ _ xs _ _ _ ys _ _ _ (subI n k) day _ (H.ext E).sn (K.ext E).sn (G31.sl) (fun i hi => by have := subI_lt n k i hi; omega)) ?_
              rintro _ w4 ⟨rfl, e4⟩
              have z4 := e4.size
              have E := E.trans e4
              replace GF := GF.ext e4
              replace G31 := G31.ext e4
              refine obs (fun c58 => ?_) (fun c58 => ?_)
              ·
                refine ops_nil ?_
                refine run_cond_t rfl ?_
                refine run_region ?_
                refine ov (xmove rfl) rfl rfl rfl ?_
                refine ov (xassign rfl) rfl rfl rfl ?_
                refine ops_nil ?_
                refine run_inBlock ?_
                refine run_region ?_
                refine ov (xadd rfl rfl (by unfold I64; omega)) rfl rfl rfl ?_
                refine ov (xmove rfl) rfl rfl rfl ?_
                refine ops_nil ?_
                refine run_sub ?_ (hback6 (k + 1, q31, m31, d31, (subI n k), w4) (⟨E, G31.wide (by omega) (by omega), by omega, by omega, srch_t hf (by by_cases hq0 : q9 = none <;> first | exact .inl hq0 | exact absurd hq0 c33 | exact .inr ⟨by omega, by first | exact .inr (by assumption) | exact .inl (by omega)⟩) c58 hq31⟩) (by first | omega | (dsimp only; omega)))
                exact ⟨rfl, rfl, rfl, rfl, rfl, rfl, trivial⟩
              ·
                refine ops_nil ?_
                refine run_cond_f rfl ?_
                refine run_skip ?_
                refine run_inBlock ?_
                refine run_region ?_
                refine ov (xadd rfl rfl (by unfold I64; omega)) rfl rfl rfl ?_
                refine ov (xmove rfl) rfl rfl rfl ?_
                refine ops_nil ?_
                refine run_sub ?_ (hback6 (k + 1, q9, m9, c9, fl, w4) (⟨E, GF.wide (by omega) (by omega), by omega, by omega, srch_f hf c58⟩) (by first | omega | (dsimp only; omega)))
                exact ⟨rfl, rfl, rfl, rfl, rfl, rfl, trivial⟩
            ·
              refine ov (xnot rfl) rfl rfl rfl ?_
              refine ov (xpick_t rfl rfl) rfl rfl rfl ?_
              refine ov (xpick_f rfl rfl) rfl rfl rfl ?_
              refine ov (xpick_t rfl rfl) rfl rfl rfl ?_
              refine ops_nil ?_
              refine run_cond_t rfl ?_
              refine run_exit rfl ?_
              refine run_region ?_
              refine ov (xadd rfl rfl (by unfold I64; omega)) rfl rfl rfl ?_
              refine ov (xmove rfl) rfl rfl rfl ?_
              refine ops_nil ?_
              refine run_sub ?_ (hback6 (k + 1, q9, m9, c9, fl, w3) (⟨E, GF.wide (by omega) (by omega), by omega, by omega, srch_c hf c33 (by first | exact .inl (by omega) | exact .inr ⟨by omega, by assumption⟩)⟩) (by first | omega | (dsimp only; omega)))
              exact ⟨rfl, rfl, rfl, rfl, rfl, rfl, trivial⟩
          ·
            refine ov (xmove rfl) rfl rfl rfl ?_
            refine og rfl rfl rfl ?_
            refine og rfl rfl rfl ?_
            refine og rfl rfl rfl ?_
            refine og rfl rfl rfl ?_
            refine ov (xpick_f rfl rfl) rfl rfl rfl ?_
            refine ov (xpick_f rfl rfl) rfl rfl rfl ?_
            refine ov (xpick_t rfl rfl) rfl rfl rfl ?_
            refine ops_nil ?_
            refine run_cond_f rfl ?_
            refine run_skip ?_
            refine run_seq ?_
            refine run_region ?_
            refine ov (xmove rfl) rfl rfl rfl ?_
            refine ov (xmove rfl) rfl rfl rfl ?_
            refine ov (xmove rfl) rfl rfl rfl ?_
            refine ov (xmove rfl) rfl rfl rfl ?_
            refine oc (xcall Try.call83 rfl) rfl rfl rfl (seeAll_ok _ _ _ xs _ _ _ ys _ _ _ (subI n k) day _ (H.ext E).sn (K.ext E).sn (G31.sl) (fun i hi => by have := subI_lt n k i hi; omega)) ?_
            rintro _ w3 ⟨rfl, e3⟩
            have z3 := e3.size
            have E := E.trans e3
            replace GF := GF.ext e3
            replace G31 := G31.ext e3
            refine obs (fun c58 => ?_) (fun c58 => ?_)
            ·
              refine ops_nil ?_
              refine run_cond_t rfl ?_
              refine run_region ?_
              refine ov (xmove rfl) rfl rfl rfl ?_
              refine ov (xassign rfl) rfl rfl rfl ?_
              refine ops_nil ?_
              refine run_inBlock ?_
              refine run_region ?_
              refine ov (xadd rfl rfl (by unfold I64; omega)) rfl rfl rfl ?_
              refine ov (xmove rfl) rfl rfl rfl ?_
              refine ops_nil ?_
              refine run_sub ?_ (hback6 (k + 1, q31, m31, d31, (subI n k), w3) (⟨E, G31.wide (by omega) (by omega), by omega, by omega, srch_t hf (by by_cases hq0 : q9 = none <;> first | exact .inl hq0 | exact absurd hq0 c33 | exact .inr ⟨by omega, by first | exact .inr (by assumption) | exact .inl (by omega)⟩) c58 hq31⟩) (by first | omega | (dsimp only; omega)))
              exact ⟨rfl, rfl, rfl, rfl, rfl, rfl, trivial⟩
            ·
              refine ops_nil ?_
              refine run_cond_f rfl ?_
              refine run_skip ?_
              refine run_inBlock ?_
              refine run_region ?_
              refine ov (xadd rfl rfl (by unfold I64; omega)) rfl rfl rfl ?_
              refine ov (xmove rfl) rfl rfl rfl ?_
              refine ops_nil ?_
              refine run_sub ?_ (hback6 (k + 1, q9, m9, c9, fl, w3) (⟨E, GF.wide (by omega) (by omega), by omega, by omega, srch_f hf c58⟩) (by first | omega | (dsimp only; omega)))
              exact ⟨rfl, rfl, rfl, rfl, rfl, rfl, trivial⟩
      ·
        refine ov (xmove rfl) rfl rfl rfl ?_
        refine og rfl rfl rfl ?_
        refine og rfl rfl rfl ?_
        refine og rfl rfl rfl ?_
        refine og rfl rfl rfl ?_
        refine og rfl rfl rfl ?_
        refine og rfl rfl rfl ?_
        refine og rfl rfl rfl ?_
        refine og rfl rfl rfl ?_
        refine og rfl rfl rfl ?_
        refine og rfl rfl rfl ?_
        refine og rfl rfl rfl ?_
        refine og rfl rfl rfl ?_
        refine og rfl rfl rfl ?_
        refine og rfl rfl rfl ?_
        refine og rfl rfl rfl ?_
        refine og rfl rfl rfl ?_
        refine og rfl rfl rfl ?_
        refine og rfl rfl rfl ?_
        refine ov (xpick_f rfl rfl) rfl rfl rfl ?_
        refine ops_nil ?_
        refine run_cond_f rfl ?_
        refine run_skip ?_
        refine run_seq ?_
        refine run_region ?_
        refine ov (xmove rfl) rfl rfl rfl ?_
        refine ov (xmove rfl) rfl rfl rfl ?_
        refine ov (xmove rfl) rfl rfl rfl ?_
        refine ov (xmove rfl) rfl rfl rfl ?_
        refine oc (xcall Try.call83 rfl) rfl rfl rfl (seeAll_ok _ _ _ xs _ _ _ ys _ _ _ (subI n k) day _ (H.ext E).sn (K.ext E).sn (G31.sl) (fun i hi => by have := subI_lt n k i hi; omega)) ?_
        rintro _ w3 ⟨rfl, e3⟩
        have z3 := e3.size
        have E := E.trans e3
        replace GF := GF.ext e3
        replace G31 := G31.ext e3
        refine obs (fun c58 => ?_) (fun c58 => ?_)
        ·
          refine ops_nil ?_
          refine run_cond_t rfl ?_
          refine run_region ?_
          refine ov (xmove rfl) rfl rfl rfl ?_
          refine ov (xassign rfl) rfl rfl rfl ?_
          refine ops_nil ?_
          refine run_inBlock ?_
          refine run_region ?_
          refine ov (xadd rfl rfl (by unfold I64; omega)) rfl rfl rfl ?_
          refine ov (xmove rfl) rfl rfl rfl ?_
          refine ops_nil ?_
          refine run_sub ?_ (hback6 (k + 1, q31, m31, d31, (subI n k), w3) (⟨E, G31.wide (by omega) (by omega), by omega, by omega, srch_t hf (by by_cases hq0 : q9 = none <;> first | exact .inl hq0 | exact absurd hq0 c33 | exact .inr ⟨by omega, by first | exact .inr (by assumption) | exact .inl (by omega)⟩) c58 hq31⟩) (by first | omega | (dsimp only; omega)))
          exact ⟨rfl, rfl, rfl, rfl, rfl, rfl, trivial⟩
        ·
          refine ops_nil ?_
          refine run_cond_f rfl ?_
          refine run_skip ?_
          refine run_inBlock ?_
          refine run_region ?_
          refine ov (xadd rfl rfl (by unfold I64; omega)) rfl rfl rfl ?_
          refine ov (xmove rfl) rfl rfl rfl ?_
          refine ops_nil ?_
          refine run_sub ?_ (hback6 (k + 1, q9, m9, c9, fl, w3) (⟨E, GF.wide (by omega) (by omega), by omega, by omega, srch_f hf c58⟩) (by first | omega | (dsimp only; omega)))
          exact ⟨rfl, rfl, rfl, rfl, rfl, rfl, trivial⟩
    ·
      refine ops_nil ?_
      refine run_seq ?_
      refine run_cond_f rfl ?_
      refine run_exit rfl ?_
      refine run_seq ?_
      refine run_seq ?_
      refine run_region ?_
      refine ov (xmove rfl) rfl rfl rfl ?_
      refine ov (xsleql Try.underlying94 rfl rfl rfl) rfl rfl rfl ?_
      refine ods (fun c62 => ?_) (fun c62 => ?_)
      ·
        refine ops_nil ?_
        refine run_cond_t rfl ?_
        refine run_seq ?_
        refine run_region ?_
        refine ov (xassign rfl) rfl rfl rfl ?_
        refine ov (xassign rfl) rfl rfl rfl ?_
        refine ops_nil ?_
        refine run_ret Try.func48 (res2 rfl rfl rfl) ?_
        have hk2 : k = 2 ^ n := by omega
        subst c62
        rw [hk2, hn] at hf
        have he : leastR xs ys day = ([], 5) := by exact fnd_none hf (by omega)
        exact ⟨_, rfl, E, none, 0, 0, by rw [he], by rw [he]; exact Ow.none _ _ _ _ _ _⟩
      ·
        have hfl := fnd_lt hf c62
        have hfm := fnd_len hf c62
        refine ops_nil ?_
        refine run_cond_f rfl ?_
        refine run_skip ?_
        refine run_seq ?_
        refine run_region ?_
        refine obuild (cs := []) (sz := 1) Try.underlying49 inf9 rfl rfl (by decide) rfl rfl (by simp [Value.cells]) rfl rfl rfl ?_
        intro b2 w2 e2 hb2 hz2 O2
        have E := E.trans e2
        replace GF := GF.ext e2
        have G2 : Ow strc 1 9 w2 b2 (b2 + 1) (some ⟨b2, 0, none⟩) 0 0 ([] : List ByteArray) := Own.ow (by simpa [strc] using O2) rfl (by omega) (Nat.le_refl _) (by omega) (by intro x hx; rfl)
        refine ov (xassign rfl) rfl rfl rfl ?_
        refine ops_nil ?_
        refine run_seq ?_
        refine run_seq ?_
        refine run_region ?_
        refine ov (xmove rfl) rfl rfl rfl ?_
        refine ov (xlen Try.underlying94 rfl) rfl rfl rfl ?_
        refine ov (xmove rfl) rfl rfl rfl ?_
        refine ops_nil ?_
        refine run_block ?_
        refine run_loop (ι := Nat × Option Addr × Nat × Nat × List ByteArray × World) (fun x_ => match x_ with | (j, q_12, m_12, c_12, ys_12, wr2) => (Ext w wr2) ∧ (Ow i64c 1 2 wr2 w.heap.size wr.heap.size q9 m9 c9 fl) ∧ (Ow strc 1 9 wr2 b2 wr2.heap.size q_12 m_12 c_12 ys_12) ∧ (b2 ≤ wr2.heap.size) ∧ (w2.heap.size ≤ wr2.heap.size) ∧ (j ≤ m9) ∧ (ys_12 = (fl.take j).map fun i => (getR xs i).Name) ∧ (m_12 = j)) (fun x_ => match x_ with | (j, q_12, m_12, c_12, ys_12, wr2) => [(0, .slice p n c), (12, .slice q_12 m_12 c_12), (64, .slice q9 m9 c9), (65, .int .i64 (m9 : Int)), (66, .int .i64 (j : Int))]) (fun x_ => match x_ with | (j, q_12, m_12, c_12, ys_12, wr2) => wr2) (fun x_ => match x_ with | (j, q_12, m_12, c_12, ys_12, wr2) => m9 - j) ?_ (0, (some ⟨b2, 0, none⟩), 0, 0, [], w2) (⟨E, GF, G2.wide (by omega) (by omega), by omega, Nat.le_refl _, by omega, by simp, rfl⟩) ⟨rfl, rfl, rfl, rfl, rfl, trivial⟩ rfl
        intro i_ hI_ hback17
        obtain ⟨j, q_12, m_12, c_12, ys_12, wr2⟩ := i_
        obtain ⟨E, GF, G_12, lo_12, lz_wr2, hj, hy, hm12⟩ := hI_
        try dsimp only
        have zr := E.size
        have lg_12 := G_12.len
        have hij := fun h : j < fl.length => hfl _ (List.getElem_mem h)
        refine run_seq ?_
        refine run_region ?_
        refine ov (xlss rfl rfl _ rfl) rfl rfl rfl ?_
        refine ods (fun c67 => ?_) (fun c67 => ?_)
        ·
          refine ops_nil ?_
          refine run_seq ?_
          refine run_cond_t rfl ?_
          refine run_skip ?_
          refine run_seq ?_
          refine run_block ?_
          refine run_seq ?_
          refine run_region ?_
          have h68 := (GF.sl).at (i := j) (by omega)
          refine ov (xindexN (i := j) Try.underlying94 Try.sizeOf2 rfl rfl (by omega) ((GF.sl).p (i := j) (by omega)) (by have := (GF.sl).len; omega)) rfl rfl rfl ?_
          refine ov (v := .int .i64 fl[j]) (xloadz Try.isAgg2 rfl (h68) rfl) rfl rfl rfl ?_
          refine ov (xassign rfl) rfl rfl rfl ?_
          refine ops_nil ?_
          refine run_region ?_
          refine ov (xmove rfl) rfl rfl rfl ?_
          refine ov (xmove rfl) rfl rfl rfl ?_
          refine ov (xmove rfl) rfl rfl rfl ?_
          have hij_ := hij (by omega)
          have h73 := (H.ext E).at (i := (fl[j]).toNat) (by omega)
          refine ov (xindexN (i := (fl[j]).toNat) Try.underlying25 Try.sizeOf71 rfl rfl (by omega) ((H.ext E).p (i := (fl[j]).toNat) (by omega)) (by have := (H.ext E).len; omega)) rfl rfl rfl ?_
          refine ov (xfieldAddr fo71f0 rfl) rfl rfl rfl ?_
          refine ov (v := .string xs[(fl[j]).toNat].Name) (xload1 Try.isAgg9 rfl (h73) rfl) rfl rfl rfl ?_
          refine obuild (cs := [.string xs[(fl[j]).toNat].Name]) (sz := 1) Try.underlying49 inf9 rfl rfl (by decide) rfl rfl (by simp [Value.cells]) rfl rfl rfl ?_
          intro b3 w3 e3 hb3 hz3 O3
          have E := E.trans e3
          replace G_12 := G_12.ext e3
          replace GF := GF.ext e3
          refine oapp (bytes := 16) (nm := (m_12 + 1)) G_12 rfl rfl elem9 (Own.sl1 (y := xs[(fl[j]).toNat].Name) O3) (by intro h; cases h) (by intro y hy; rfl) (by intro y hy u hu; rw [List.mem_singleton] at hy; subst hy; revert u; simp [Value.oneCell', strc]) (by omega) (by omega) (by omega) (by omega) rfl rfl ?_
          intro p4 c4_ w4 m4 G4
          have hz4 := m4.size
          have E := m4.toExt E (by omega)
          replace GF := GF.off m4 (by omega)
          try replace O3 := m4.own O3 (by omega)
          refine ov (xassign rfl) rfl rfl rfl ?_
          refine ops_nil ?_
          refine run_inBlock ?_
          refine run_region ?_
          refine ov (xadd rfl rfl (by unfold I64; omega)) rfl rfl rfl ?_
          refine ov (xmove rfl) rfl rfl rfl ?_
          refine ops_nil ?_
          refine run_sub ?_ (hback17 (j + 1, p4, (m_12 + 1), c4_, _, w4) (⟨E, GF, G4.wide (by omega) (by omega), by omega, by omega, by omega, by have h_ : ys_12 ++ [(getR xs (fl[j]'(by omega))).Name] = _ := map_step hy (by omega : j < fl.length); rw [getR_eq (by omega)] at h_; exact h_, by omega⟩) (by first | omega | (dsimp only; omega)))
          exact ⟨rfl, rfl, rfl, rfl, rfl, trivial⟩
        ·
          refine ops_nil ?_
          refine run_seq ?_
          refine run_cond_f rfl ?_
          refine run_exit rfl ?_
          refine run_seq ?_
          refine run_region ?_
          refine ov (xmove rfl) rfl rfl rfl ?_
          refine ov (xassign rfl) rfl rfl rfl ?_
          refine ov (xassign rfl) rfl rfl rfl ?_
          refine ops_nil ?_
          refine run_ret Try.func48 (res2 rfl rfl rfl) ?_
          have hk2 : k = 2 ^ n := by omega
          obtain rfl : j = m9 := by omega
          rw [hk2, hn] at hf
          have he : leastR xs ys day = (ys_12, 0) := by rw [hy, List.take_of_length_le (by omega)]; exact fnd_some hf c62 (by omega)
          exact ⟨_, rfl, E, _, _, _, by rw [he], by rw [he]; exact G_12.wide (by omega) (by omega)⟩
end Go.Proofs.Ytbihpggbabmebaa
