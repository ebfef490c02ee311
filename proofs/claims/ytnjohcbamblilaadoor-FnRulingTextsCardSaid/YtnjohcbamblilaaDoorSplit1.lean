/-
  spec.l01Split and spec.l01Value. No condition beyond those written in each theorem.
-/
import Derived.Test.YtnjohcbamblilaaDoorCutT
import Derived.Stop.IfaceNil
namespace Go.Proofs.YtnjohcbamblilaaDoor
open Go.RowKit
set_option linter.unusedVariables false
set_option linter.unusedSimpArgs false
set_option linter.unusedSectionVars false
set_option maxRecDepth 4000

/-- what l01Split has cut so far -/
def SpInv (s : ByteArray) (b : UInt8) (k f : Nat) (ys : List ByteArray) : Prop :=
  ys.map (·.data.toList) ++ (if k ≤ s.size then cutB b (s.data.toList.drop f) else []) = cutB b s.data.toList
theorem sp_start (s : ByteArray) (b : UInt8) : SpInv s b 0 0 [] := by
  rw [SpInv, if_pos (Nat.zero_le _)]; rfl
theorem sp_end {s : ByteArray} {b : UInt8} {k f : Nat} {ys : List ByteArray} (h : SpInv s b k f ys) (hk : k = s.size) (hf : f ≤ k) (hno : ∀ j, f ≤ j → j < k → bAt s j ≠ b.toNat) :
    SpInv s b (k + 1) (k + 1) (ys ++ [s.extract f k]) := by
  subst hk
  rw [SpInv, if_pos (Nat.le_refl _), cut_end hf hno] at h
  rw [SpInv, if_neg (by omega), List.map_append, List.append_nil]
  exact h
theorem sp_hit {s : ByteArray} {b : UInt8} {k f : Nat} {ys : List ByteArray} (h : SpInv s b k f ys) (hk : k < s.size) (hf : f ≤ k) (hno : ∀ j, f ≤ j → j < k → bAt s j ≠ b.toNat) (hb : bAt s k = b.toNat) :
    SpInv s b (k + 1) (k + 1) (ys ++ [s.extract f k]) := by
  rw [SpInv, if_pos (by omega), cut_hit hf hk hno hb] at h
  rw [SpInv, if_pos (by omega), List.map_append, List.append_assoc]
  exact h
theorem sp_miss {s : ByteArray} {b : UInt8} {k f : Nat} {ys : List ByteArray} (h : SpInv s b k f ys) (hk : k < s.size) : SpInv s b (k + 1) f ys := by
  rw [SpInv, if_pos (by omega)] at h
  rw [SpInv, if_pos (by omega)]; exact h
theorem sp_done {s : ByteArray} {b : UInt8} {k f : Nat} {ys : List ByteArray} (h : SpInv s b k f ys) (hk : s.size < k) : ys = cutBs b s := by
  rw [SpInv, if_neg (by omega), List.append_nil] at h
  exact of_data h
theorem no_step {s : ByteArray} {b : UInt8} {k f : Nat} (h : ∀ j, f ≤ j → j < k → bAt s j ≠ b.toNat) (hk : ¬ bAt s k = b.toNat) : ∀ j, f ≤ j → j < k + 1 → bAt s j ≠ b.toNat := fun j h1 h2 => by
  rcases Nat.lt_succ_iff_lt_or_eq.1 h2 with h3 | h3
  · exact h j h1 h3
  · rw [h3]; exact hk
theorem valD_bound : ∀ (l : List UInt8) (a : Nat), valD a l + 23 ≤ (a + 23) * 10 ^ l.length
  | [], a => by rw [valD_nil]; simp
  | c :: l, a => by
    have h := valD_bound l (10 * a + (c.toNat - 48))
    have hc := UInt8.toNat_lt c
    rw [valD_cons, List.length_cons, Nat.pow_succ, Nat.mul_comm (10 ^ l.length) 10, ← Nat.mul_assoc]
    exact Nat.le_trans h (Nat.mul_le_mul_right _ (by omega))
theorem valD_small (l : List UInt8) {k : Nat} (hk : k ≤ 13) : valD 0 (l.take k) ≤ 230000000000000 := by
  have h := valD_bound (l.take k) 0
  have hl : (l.take k).length ≤ 13 := by rw [List.length_take]; omega
  have hp : (10 : Nat) ^ (l.take k).length ≤ 10 ^ 13 := Nat.pow_le_pow_right (by decide) hl
  have h2 : (0 + 23) * 10 ^ (l.take k).length ≤ (0 + 23) * 10 ^ 13 := Nat.mul_le_mul_left _ hp
  omega
theorem val_step {s : ByteArray} {k : Nat} {n : Int} (hk : k < s.size) (h : n = ((valD 0 (s.data.toList.take k) : Nat) : Int)) (hd : 48 ≤ bAt s k) :
    10 * n + ((bAt s k : Int) - 48) = ((valD 0 (s.data.toList.take (k + 1)) : Nat) : Int) := by
  have hk2 : k < s.data.toList.length := hk
  rw [List.take_succ_eq_append_getElem hk2, valD_app, ← bAt_list hk2, h]
  omega
def digB (s : ByteArray) (i : Nat) : Bool := decide (48 ≤ bAt s i) && decide (bAt s i ≤ 57)
/-- what l01Value answers -/
def sval (s : ByteArray) : Int × Bool := if s.size < 1 ∨ 13 < s.size ∨ allB s.size (digB s) = false then (0, false) else (((valD 0 s.data.toList : Nat) : Int), decide (dec (valD 0 s.data.toList) = s))
theorem sval_f {s : ByteArray} (h : s.size < 1 ∨ 13 < s.size ∨ allB s.size (digB s) = false) : sval s = (0, false) := if_pos h
theorem sval_t {s : ByteArray} {n : Int} {k : Nat} (h1 : 1 ≤ s.size) (h2 : s.size ≤ 13) (hk : k = s.size) (ha : allB k (digB s) = true) (hn : n = ((valD 0 (s.data.toList.take k) : Nat) : Int)) : sval s = (n, decide (dec n.toNat = s)) := by
  subst hk
  have e : s.data.toList.take s.size = s.data.toList := List.take_of_length_le (Nat.le_refl _)
  rw [e] at hn
  rw [sval, if_neg (by rw [ha]; rintro (h | h | h); omega; omega; cases h), hn]
  rfl
section
variable {P : Program} {N : Nat} {σ : Env} {w : World} {d : Option Nat} {ty : TypeId} {pos : String} {aft : Array Edge} {gd : Option (Nat × Bool)}
theorem xsub8 {m n : Int} {x y : Operand} {t u : TypeId} (hx : ev σ x = some (.int .u8 m)) (hy : ev σ y = some (.int .u8 n)) (h : 0 ≤ m - n ∧ m - n < 256) :
    XV P N σ ⟨d, .binOp .sub t x y u, ty, pos, aft, gd⟩ w (.int .u8 (m - n)) w := xbin hx hy fun w => by
  have h3 : IntKind.u8.wrap (m - n) = m - n := by simp [IntKind.wrap, IntKind.bits, IntKind.signed]; omega
  simp [binOp_sub, Op.intArith, h3]
theorem xnil_nil {x : Operand} {t u : TypeId} (ht : P.isIface t = true) (hx : ev σ x = some .nilIface) :
    XV P N σ ⟨d, .binOp .neq t x (.const .nilIface) u, ty, pos, aft, gd⟩ w (.bool false) w := fun a ha => by
  have h := run_neq_nil_nil_at (P := P) (w := w) t ht
  have hy : a.eval (.const .nilIface) = .nilIface := rfl
  simp [execOp, ha.eval hx, hy, eqGuard, h]
theorem xifc_nil {x y : Operand} {t u tp : TypeId} {v : Value} (ht : P.isIface t = true) (hx : ev σ x = some (.iface tp v)) (hy : ev σ y = some .nilIface) :
    XV P N σ ⟨d, .binOp .neq t x y u, ty, pos, aft, gd⟩ w (.bool true) w := fun a ha => by
  have h := run_neq_iface_nil (P := P) (w := w) t ht tp v
  simp [execOp, ha.eval hx, ha.eval hy, eqGuard, h]
end


set_option maxHeartbeats 2000000 in
theorem l01Split_ok (s : ByteArray) (b : UInt8) (w : World) (hs : s.size ≤ 1048576) : Ret Tryd.prog 21 [.string s, .int .u8 (b.toNat : Int)] w (fun v w' => Ext w w' ∧ ∃ q m d, v = .slice q m d ∧ Ow strc 1 9 w' w.heap.size w'.heap.size q m d (cutBs b s)) := by
  refine ret_of_run (N := 36) Tryd.func21 rfl rfl rfl ?_
  have E : Ext w w := Ext.refl w
  refine run_seq ?_
  refine run_region ?_
  refine ov (xassign rfl) rfl rfl rfl ?_
  refine ops_nil ?_
  refine run_seq ?_
  refine run_region ?_
  refine obuild (cs := []) (sz := 1) Tryd.underlying41 inf9 rfl rfl (by decide) rfl rfl (by simp [Value.cells]) rfl rfl rfl ?_
  intro b1 w1 e1 hb1 hz1 O1
  have E := E.trans e1
  have G1 : Ow strc 1 9 w1 b1 (b1 + 1) (some ⟨b1, 0, none⟩) 0 0 ([] : List ByteArray) := Own.ow (by simpa [strc] using O1) rfl (by omega) (Nat.le_refl _) (by omega) (by intro x hx; rfl)
  refine ov (xassign rfl) rfl rfl rfl ?_
  refine ops_nil ?_
  refine run_seq ?_
  refine run_region ?_
  refine ov (xassign rfl) rfl rfl rfl ?_
  refine ops_nil ?_
  refine run_seq ?_
  refine run_seq ?_
  refine run_region ?_
  refine ov (xassign rfl) rfl rfl rfl ?_
  refine ops_nil ?_
  refine run_block ?_
  refine run_loop (ι := Nat × Nat × Option Addr × Nat × Nat × List ByteArray × World) (fun x_ => match x_ with | (k, f, q_5, m_5, c_5, ys_5, wr) => (Ext w wr) ∧ (Ow strc 1 9 wr b1 wr.heap.size q_5 m_5 c_5 ys_5) ∧ (b1 ≤ wr.heap.size) ∧ (w1.heap.size ≤ wr.heap.size) ∧ (k ≤ s.size + 1) ∧ (f ≤ k) ∧ (m_5 ≤ k) ∧ (∀ j, f ≤ j → j < k → bAt s j ≠ b.toNat) ∧ (SpInv s b k f ys_5)) (fun x_ => match x_ with | (k, f, q_5, m_5, c_5, ys_5, wr) => [(0, .string s), (1, .int .u8 (b.toNat : Int)), (5, .slice q_5 m_5 c_5), (6, .int .i64 (f : Int)), (7, .int .i64 (k : Int))]) (fun x_ => match x_ with | (k, f, q_5, m_5, c_5, ys_5, wr) => wr) (fun x_ => match x_ with | (k, f, q_5, m_5, c_5, ys_5, wr) => s.size + 1 - k) ?_ (0, 0, (some ⟨b1, 0, none⟩), 0, 0, [], w1) (⟨E, G1.wide (by omega) (by omega), by omega, Nat.le_refl _, by omega, by omega, Nat.le_refl _, (by intro j h1 h2; omega), sp_start s b⟩) ⟨rfl, rfl, rfl, rfl, rfl, trivial⟩ rfl
  intro i_ hI_ hback4
  obtain ⟨k, f, q_5, m_5, c_5, ys_5, wr⟩ := i_
  obtain ⟨E, G_5, lo_5, lz_wr, hk, hf, hm5, hno, hc⟩ := hI_
  try dsimp only
  have zr := E.size
  have lg_5 := G_5.len
  refine run_seq ?_
  refine run_seq ?_
  refine run_region ?_
  refine ov (xmove rfl) rfl rfl rfl ?_
  refine ov (xmove rfl) rfl rfl rfl ?_
  refine ov (xlens Tryd.underlying9 rfl) rfl rfl rfl ?_
  refine ov (xleq rfl rfl _ rfl) rfl rfl rfl ?_
  refine ods (fun c12 => ?_) (fun c12 => ?_)
  ·
    refine ops_nil ?_
    refine run_cond_t rfl ?_
    refine run_skip ?_
    refine run_seq ?_
    refine run_block ?_
    refine run_seq ?_
    refine run_region ?_
    refine ov (xmove rfl) rfl rfl rfl ?_
    refine ov (xmove rfl) rfl rfl rfl ?_
    refine ov (xlens Tryd.underlying9 rfl) rfl rfl rfl ?_
    refine ov (xeql rfl rfl _ rfl) rfl rfl rfl ?_
    refine ods (fun c18 => ?_) (fun c18 => ?_)
    ·
      refine ov (xmove rfl) rfl rfl rfl ?_
      refine og rfl rfl rfl ?_
      refine og rfl rfl rfl ?_
      refine og rfl rfl rfl ?_
      refine og rfl rfl rfl ?_
      refine og rfl rfl rfl ?_
      refine ov (xpick_t rfl rfl) rfl rfl rfl ?_
      refine ops_nil ?_
      refine run_cond_t rfl ?_
      refine run_seq ?_
      refine run_region ?_
      refine ov (xmove rfl) rfl rfl rfl ?_
      refine ov (xmove rfl) rfl rfl rfl ?_
      refine ov (xmove rfl) rfl rfl rfl ?_
      refine ov (xmove rfl) rfl rfl rfl ?_
      refine ov (xsliceS Tryd.underlying9 rfl rfl rfl (by omega) (by omega) (by omega)) rfl rfl rfl ?_
      refine obuild (cs := [.string (ByteArray.extract s (Int.toNat (f : Int)) (Int.toNat (k : Int)))]) (sz := 1) Tryd.underlying41 inf9 rfl rfl (by decide) rfl rfl (by simp [Value.cells]) rfl rfl rfl ?_
      intro b2 w2 e2 hb2 hz2 O2
      have E := E.trans e2
      replace G_5 := G_5.ext e2
      refine oapp (bytes := 16) (nm := (m_5 + 1)) G_5 rfl rfl elem9 (Own.sl1 (y := (s.extract f k)) O2) (by intro h; cases h) (by intro y hy; rfl) (by intro y hy u hu; rw [List.mem_singleton] at hy; subst hy; revert u; simp [Value.oneCell', strc]) (by omega) (by omega) (by omega) (by omega) rfl rfl ?_
      intro p3 c3_ w3 m3 G3
      have hz3 := m3.size
      have E := m3.toExt E (by omega)
      try replace O2 := m3.own O2 (by omega)
      refine ov (xassign rfl) rfl rfl rfl ?_
      refine ops_nil ?_
      refine run_region ?_
      refine ov (xmove rfl) rfl rfl rfl ?_
      refine ov (xadd rfl rfl (by unfold I64; omega)) rfl rfl rfl ?_
      refine ov (xassign rfl) rfl rfl rfl ?_
      refine ops_nil ?_
      refine run_inBlock ?_
      refine run_region ?_
      refine ov (xmove rfl) rfl rfl rfl ?_
      refine ov (xadd rfl rfl (by unfold I64; omega)) rfl rfl rfl ?_
      refine ov (xassign rfl) rfl rfl rfl ?_
      refine ops_nil ?_
      refine run_sub ?_ (hback4 (k + 1, (k + 1), p3, (m_5 + 1), c3_, _, w3) (⟨E, G3.wide (by omega) (by omega), by omega, by omega, by omega, by omega, by omega, (by intro j h1 h2; omega), sp_end hc (by omega) (by omega) hno⟩) (by first | omega | (dsimp only; omega)))
      exact ⟨rfl, rfl, rfl, rfl, rfl, trivial⟩
    ·
      refine ov (xmove rfl) rfl rfl rfl ?_
      refine ov (xmove rfl) rfl rfl rfl ?_
      refine ov (xmove rfl) rfl rfl rfl ?_
      refine ov (v := .int .u8 (bAt s k : Int)) (xindexS (i := k) Tryd.underlying9 rfl rfl rfl (by omega)) rfl rfl rfl ?_
      refine ov (xmove rfl) rfl rfl rfl ?_
      refine ov (xeql rfl rfl _ rfl) rfl rfl rfl ?_
      refine ods (fun c24 => ?_) (fun c24 => ?_)
      ·
        refine ov (xpick_f rfl rfl) rfl rfl rfl ?_
        refine ops_nil ?_
        refine run_cond_t rfl ?_
        refine run_seq ?_
        refine run_region ?_
        refine ov (xmove rfl) rfl rfl rfl ?_
        refine ov (xmove rfl) rfl rfl rfl ?_
        refine ov (xmove rfl) rfl rfl rfl ?_
        refine ov (xmove rfl) rfl rfl rfl ?_
        refine ov (xsliceS Tryd.underlying9 rfl rfl rfl (by omega) (by omega) (by omega)) rfl rfl rfl ?_
        refine obuild (cs := [.string (ByteArray.extract s (Int.toNat (f : Int)) (Int.toNat (k : Int)))]) (sz := 1) Tryd.underlying41 inf9 rfl rfl (by decide) rfl rfl (by simp [Value.cells]) rfl rfl rfl ?_
        intro b2 w2 e2 hb2 hz2 O2
        have E := E.trans e2
        replace G_5 := G_5.ext e2
        refine oapp (bytes := 16) (nm := (m_5 + 1)) G_5 rfl rfl elem9 (Own.sl1 (y := (s.extract f k)) O2) (by intro h; cases h) (by intro y hy; rfl) (by intro y hy u hu; rw [List.mem_singleton] at hy; subst hy; revert u; simp [Value.oneCell', strc]) (by omega) (by omega) (by omega) (by omega) rfl rfl ?_
        intro p3 c3_ w3 m3 G3
        have hz3 := m3.size
        have E := m3.toExt E (by omega)
        try replace O2 := m3.own O2 (by omega)
        refine ov (xassign rfl) rfl rfl rfl ?_
        refine ops_nil ?_
        refine run_region ?_
        refine ov (xmove rfl) rfl rfl rfl ?_
        refine ov (xadd rfl rfl (by unfold I64; omega)) rfl rfl rfl ?_
        refine ov (xassign rfl) rfl rfl rfl ?_
        refine ops_nil ?_
        refine run_inBlock ?_
        refine run_region ?_
        refine ov (xmove rfl) rfl rfl rfl ?_
        refine ov (xadd rfl rfl (by unfold I64; omega)) rfl rfl rfl ?_
        refine ov (xassign rfl) rfl rfl rfl ?_
        refine ops_nil ?_
        refine run_sub ?_ (hback4 (k + 1, (k + 1), p3, (m_5 + 1), c3_, _, w3) (⟨E, G3.wide (by omega) (by omega), by omega, by omega, by omega, by omega, by omega, (by intro j h1 h2; omega), sp_hit hc (by omega) (by omega) hno (by omega)⟩) (by first | omega | (dsimp only; omega)))
        exact ⟨rfl, rfl, rfl, rfl, rfl, trivial⟩
      ·
        refine ov (xpick_f rfl rfl) rfl rfl rfl ?_
        refine ops_nil ?_
        refine run_cond_f rfl ?_
        refine run_skip ?_
        refine run_inBlock ?_
        refine run_region ?_
        refine ov (xmove rfl) rfl rfl rfl ?_
        refine ov (xadd rfl rfl (by unfold I64; omega)) rfl rfl rfl ?_
        refine ov (xassign rfl) rfl rfl rfl ?_
        refine ops_nil ?_
        refine run_sub ?_ (hback4 (k + 1, f, q_5, m_5, c_5, ys_5, wr) (⟨E, G_5.wide (by omega) (by omega), by omega, by omega, by omega, by omega, by omega, (no_step hno (by omega)), sp_miss hc (by omega)⟩) (by first | omega | (dsimp only; omega)))
        exact ⟨rfl, rfl, rfl, rfl, rfl, trivial⟩
  ·
    refine ops_nil ?_
    refine run_cond_f rfl ?_
    refine run_exit rfl ?_
    refine run_seq ?_
    refine run_region ?_
    refine ov (xmove rfl) rfl rfl rfl ?_
    refine ov (xassign rfl) rfl rfl rfl ?_
    refine ops_nil ?_
    refine run_ret Tryd.func21 (res1 rfl rfl) ?_
    have he := sp_done hc (by omega)
    exact ⟨_, rfl, E, _, _, _, rfl, by rw [← he]; exact G_5.wide (by omega) (by omega)⟩

set_option maxHeartbeats 1000000 in
theorem l01Value_ok (s : ByteArray) (w : World) (hs : s.size ≤ 9223372036854775807) : Ret Tryd.prog 22 [.string s] w (Pv w (.tuple #[.int .i64 (sval s).1, .bool (sval s).2])) := by
  refine ret_of_run (N := 43) Tryd.func22 rfl rfl rfl ?_
  have E : Ext w w := Ext.refl w
  refine run_seq ?_
  refine run_region ?_
  refine ov (xassign rfl) rfl rfl rfl ?_
  refine ov (xassign rfl) rfl rfl rfl ?_
  refine ops_nil ?_
  refine run_seq ?_
  refine run_seq ?_
  refine run_region ?_
  refine ov (xmove rfl) rfl rfl rfl ?_
  refine ov (xlens Tryd.underlying9 rfl) rfl rfl rfl ?_
  refine ov (xlss rfl rfl _ rfl) rfl rfl rfl ?_
  refine ods (fun c8 => ?_) (fun c8 => ?_)
  ·
    refine ov (xmove rfl) rfl rfl rfl ?_
    refine og rfl rfl rfl ?_
    refine og rfl rfl rfl ?_
    refine og rfl rfl rfl ?_
    refine ov (xpick_t rfl rfl) rfl rfl rfl ?_
    refine ops_nil ?_
    refine run_cond_t rfl ?_
    refine run_seq ?_
    refine run_region ?_
    refine ov (xassign rfl) rfl rfl rfl ?_
    refine ov (xassign rfl) rfl rfl rfl ?_
    refine ops_nil ?_
    refine run_ret Tryd.func22 (res2 rfl rfl rfl) ?_
    exact ⟨_, rfl, by rw [sval_f (.inl (by omega))], E⟩
  ·
    refine ov (xmove rfl) rfl rfl rfl ?_
    refine ov (xmove rfl) rfl rfl rfl ?_
    refine ov (xlens Tryd.underlying9 rfl) rfl rfl rfl ?_
    refine ov (xgtr rfl rfl _ rfl) rfl rfl rfl ?_
    refine ods (fun c12 => ?_) (fun c12 => ?_)
    ·
      refine ov (xpick_f rfl rfl) rfl rfl rfl ?_
      refine ops_nil ?_
      refine run_cond_t rfl ?_
      refine run_seq ?_
      refine run_region ?_
      refine ov (xassign rfl) rfl rfl rfl ?_
      refine ov (xassign rfl) rfl rfl rfl ?_
      refine ops_nil ?_
      refine run_ret Tryd.func22 (res2 rfl rfl rfl) ?_
      exact ⟨_, rfl, by rw [sval_f (.inr (.inl (by omega)))], E⟩
    ·
      refine ov (xpick_f rfl rfl) rfl rfl rfl ?_
      refine ops_nil ?_
      refine run_cond_f rfl ?_
      refine run_skip ?_
      refine run_seq ?_
      refine run_region ?_
      refine ov (xassign rfl) rfl rfl rfl ?_
      refine ops_nil ?_
      refine run_seq ?_
      refine run_seq ?_
      refine run_region ?_
      refine ov (xassign rfl) rfl rfl rfl ?_
      refine ops_nil ?_
      refine run_block ?_
      refine run_loop (ι := Nat × Int × World) (fun x_ => match x_ with | (k, n, wr) => (Ext w wr) ∧ (w.heap.size ≤ wr.heap.size) ∧ (k ≤ s.size) ∧ (allB k (digB s) = true) ∧ (n = ((valD 0 (s.data.toList.take k) : Nat) : Int))) (fun x_ => match x_ with | (k, n, wr) => [(0, .string s), (4, .int .i64 n), (5, .int .i64 (k : Int))]) (fun x_ => match x_ with | (k, n, wr) => wr) (fun x_ => match x_ with | (k, n, wr) => s.size - k) ?_ (0, 0, w) (⟨E, Nat.le_refl _, by omega, allB_zero, (by rw [List.take_zero, valD_nil]; rfl)⟩) ⟨rfl, rfl, rfl, trivial⟩ rfl
      intro i_ hI_ hback5
      obtain ⟨k, n, wr⟩ := i_
      obtain ⟨E, lz_wr, hk, ha, hn⟩ := hI_
      try dsimp only
      have zr := E.size
      have hv := valD_small s.data.toList (k := k) (by omega)
      have hb := bAt_lt s k
      refine run_seq ?_
      refine run_seq ?_
      refine run_region ?_
      refine ov (xmove rfl) rfl rfl rfl ?_
      refine ov (xmove rfl) rfl rfl rfl ?_
      refine ov (xlens Tryd.underlying9 rfl) rfl rfl rfl ?_
      refine ov (xlss rfl rfl _ rfl) rfl rfl rfl ?_
      refine ods (fun c17 => ?_) (fun c17 => ?_)
      ·
        refine ops_nil ?_
        refine run_cond_t rfl ?_
        refine run_skip ?_
        refine run_seq ?_
        refine run_block ?_
        refine run_seq ?_
        refine run_seq ?_
        refine run_region ?_
        refine ov (xmove rfl) rfl rfl rfl ?_
        refine ov (xmove rfl) rfl rfl rfl ?_
        refine ov (v := .int .u8 (bAt s k : Int)) (xindexS (i := k) Tryd.underlying9 rfl rfl rfl (by omega)) rfl rfl rfl ?_
        refine ov (xlss rfl rfl _ rfl) rfl rfl rfl ?_
        refine ods (fun c23 => ?_) (fun c23 => ?_)
        ·
          refine ov (xmove rfl) rfl rfl rfl ?_
          refine og rfl rfl rfl ?_
          refine og rfl rfl rfl ?_
          refine og rfl rfl rfl ?_
          refine og rfl rfl rfl ?_
          refine ov (xpick_t rfl rfl) rfl rfl rfl ?_
          refine ops_nil ?_
          refine run_cond_t rfl ?_
          refine run_seq ?_
          refine run_region ?_
          refine ov (xassign rfl) rfl rfl rfl ?_
          refine ov (xassign rfl) rfl rfl rfl ?_
          refine ops_nil ?_
          refine run_ret Tryd.func22 (res2 rfl rfl rfl) ?_
          exact ⟨_, rfl, by rw [sval_f (.inr (.inr (allB_false (i := k) (by omega) (by rw [digB, Bool.and_eq_false_iff, decide_eq_false_iff_not, decide_eq_false_iff_not]; omega))))], E⟩
        ·
          refine ov (xmove rfl) rfl rfl rfl ?_
          refine ov (xmove rfl) rfl rfl rfl ?_
          refine ov (xmove rfl) rfl rfl rfl ?_
          refine ov (v := .int .u8 (bAt s k : Int)) (xindexS (i := k) Tryd.underlying9 rfl rfl rfl (by omega)) rfl rfl rfl ?_
          refine ov (xgtr rfl rfl _ rfl) rfl rfl rfl ?_
          refine ods (fun c28 => ?_) (fun c28 => ?_)
          ·
            refine ov (xpick_f rfl rfl) rfl rfl rfl ?_
            refine ops_nil ?_
            refine run_cond_t rfl ?_
            refine run_seq ?_
            refine run_region ?_
            refine ov (xassign rfl) rfl rfl rfl ?_
            refine ov (xassign rfl) rfl rfl rfl ?_
            refine ops_nil ?_
            refine run_ret Tryd.func22 (res2 rfl rfl rfl) ?_
            exact ⟨_, rfl, by rw [sval_f (.inr (.inr (allB_false (i := k) (by omega) (by rw [digB, Bool.and_eq_false_iff, decide_eq_false_iff_not, decide_eq_false_iff_not]; omega))))], E⟩
          ·
            refine ov (xpick_f rfl rfl) rfl rfl rfl ?_
            refine ops_nil ?_
            refine run_cond_f rfl ?_
            refine run_skip ?_
            refine run_region ?_
            refine ov (xmove rfl) rfl rfl rfl ?_
            refine ov (xmul rfl rfl (by unfold I64; omega)) rfl rfl rfl ?_
            refine ov (xmove rfl) rfl rfl rfl ?_
            refine ov (xmove rfl) rfl rfl rfl ?_
            refine ov (v := .int .u8 (bAt s k : Int)) (xindexS (i := k) Tryd.underlying9 rfl rfl rfl (by omega)) rfl rfl rfl ?_
            refine ov (xsub8 rfl rfl (by omega)) rfl rfl rfl ?_
            refine ov (v := .int .i64 ((bAt s k : Int) - 48)) (xconv Tryd.underlying5 Tryd.underlying2 rfl (by unfold I64; omega)) rfl rfl rfl ?_
            refine ov (xadd rfl rfl (by unfold I64; omega)) rfl rfl rfl ?_
            refine ov (xassign rfl) rfl rfl rfl ?_
            refine ops_nil ?_
            refine run_inBlock ?_
            refine run_region ?_
            refine ov (xmove rfl) rfl rfl rfl ?_
            refine ov (xadd rfl rfl (by unfold I64; omega)) rfl rfl rfl ?_
            refine ov (xassign rfl) rfl rfl rfl ?_
            refine ops_nil ?_
            refine run_sub ?_ (hback5 (k + 1, (10 * n + ((bAt s k : Int) - 48)), wr) (⟨E, by omega, by omega, allB_succ ha (by rw [digB, Bool.and_eq_true, decide_eq_true_eq, decide_eq_true_eq]; omega), val_step (by omega) hn (by omega)⟩) (by first | omega | (dsimp only; omega)))
            exact ⟨rfl, rfl, rfl, trivial⟩
      ·
        refine ops_nil ?_
        refine run_cond_f rfl ?_
        refine run_exit rfl ?_
        refine run_seq ?_
        refine run_region ?_
        refine ov (xmove rfl) rfl rfl rfl ?_
        refine ov (xmove rfl) rfl rfl rfl ?_
        refine oc (xcall Tryd.call35 rfl) rfl rfl rfl (l01Dec_ok (n) _ (by omega) (by omega)) ?_
        rintro _ w1 ⟨rfl, e1⟩
        have z1 := e1.size
        have E := E.trans e1
        refine ov (xmove rfl) rfl rfl rfl ?_
        refine ov (xseql rfl rfl _ rfl) rfl rfl rfl ?_
        refine ov (xassign rfl) rfl rfl rfl ?_
        refine ov (xassign rfl) rfl rfl rfl ?_
        refine ops_nil ?_
        refine run_ret Tryd.func22 (res2 rfl rfl rfl) ?_
        have he := sval_t (s := s) (by omega) (by omega) (by omega) ha hn
        exact ⟨_, rfl, by rw [he]; try simp [*], E⟩
end Go.Proofs.YtnjohcbamblilaaDoor
