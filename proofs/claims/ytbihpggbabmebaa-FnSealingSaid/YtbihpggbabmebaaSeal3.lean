/-
  Lists of those who see and of what is seen. No condition beyond those written in each theorem.
-/
import Derived.Test.YtbihpggbabmebaaSeal2
namespace Go.Proofs.Ytbihpggbabmebaa
open Go.RowKit
set_option linter.unusedVariables false
set_option linter.unusedSimpArgs false
set_option linter.unusedSectionVars false
set_option maxRecDepth 4000

set_option maxHeartbeats 1000000 in
theorem SeenBy_ok (p : Option Addr) (n c : Nat) (xs : List Role) (q : Option Addr) (m d : Nat) (ys : List File) (role : ByteArray) (day : Int) (w : World) (H0 : SnRoleS w p n c xs) (K0 : SnFileS w q m d ys) (hx : ∀ x ∈ xs, x.ok) (hy : ∀ x ∈ ys, x.ok) : Ret Try.prog 34 [.slice p n c, .slice q m d, .string role, .int .i64 day] w (fun v w' => Ext w w' ∧ ∃ q m d, v = .tuple #[.slice q m d, .int .i64 (seenBy xs ys role day).2] ∧ Ow strc 1 9 w' w.heap.size w'.heap.size q m d (seenBy xs ys role day).1) := by
  refine ret_of_run (N := 48) Try.func34 rfl rfl rfl ?_
  obtain ⟨hd, H⟩ := H0
  have hn := H.len
  have hn6 := H.n64
  obtain ⟨he_, K⟩ := K0
  have hm := K.len
  have hm6 := K.n64
  have hrl := roleOf_lt xs role
  have E : Ext w w := Ext.refl w
  refine run_seq ?_
  refine run_region ?_
  refine ov (xassign rfl) rfl rfl rfl ?_
  refine ov (xassign rfl) rfl rfl rfl ?_
  refine ops_nil ?_
  refine run_seq ?_
  refine run_seq ?_
  refine run_region ?_
  refine ov (xmove rfl) rfl rfl rfl ?_
  refine ov (xmove rfl) rfl rfl rfl ?_
  refine ov (xmove rfl) rfl rfl rfl ?_
  refine oc (xcall Try.call78 rfl) rfl rfl rfl (sealCode_ok _ _ _ _ _ _ _ _ (day) _ (H.ext E).sn (K.ext E).sn (by assumption) (by assumption)) ?_
  rintro _ w1 ⟨rfl, e1⟩
  have z1 := e1.size
  have E := E.trans e1
  refine ov (xassign rfl) rfl rfl rfl ?_
  refine ops_nil ?_
  refine run_seq ?_
  refine run_region ?_
  refine ov (xmove rfl) rfl rfl rfl ?_
  refine ov (xneq rfl rfl _ rfl) rfl rfl rfl ?_
  refine ods (fun c20 => ?_) (fun c20 => ?_)
  ·
    refine ops_nil ?_
    refine run_cond_t rfl ?_
    refine run_seq ?_
    refine run_region ?_
    refine ov (xmove rfl) rfl rfl rfl ?_
    refine ov (xassign rfl) rfl rfl rfl ?_
    refine ov (xassign rfl) rfl rfl rfl ?_
    refine ops_nil ?_
    refine run_ret Try.func34 (res2 rfl rfl rfl) ?_
    have he : seenBy xs ys role day = ([], (sealCode xs ys day)) := by unfold seenBy; (repeat' split) <;> first | rfl | (exfalso; omega) | (rw [hy, List.take_of_length_le (by omega), getR_eq (by omega)]) | (exfalso; simp_all; done)
    exact ⟨_, rfl, E, none, 0, 0, by rw [he], by rw [he]; exact Ow.none _ _ _ _ _ _⟩
  ·
    refine ops_nil ?_
    refine run_cond_f rfl ?_
    refine run_skip ?_
    refine run_seq ?_
    refine run_region ?_
    refine ov (xmove rfl) rfl rfl rfl ?_
    refine ov (xmove rfl) rfl rfl rfl ?_
    refine oc (xcall Try.call62 rfl) rfl rfl rfl (roleOf_ok _ _ _ _ (role) _ (H.ext E).sn) ?_
    rintro _ w2 ⟨rfl, e2⟩
    have z2 := e2.size
    have E := E.trans e2
    refine ov (xassign rfl) rfl rfl rfl ?_
    refine ops_nil ?_
    refine run_seq ?_
    refine run_seq ?_
    refine run_region ?_
    refine ov (xmove rfl) rfl rfl rfl ?_
    refine ov (xlss rfl rfl _ rfl) rfl rfl rfl ?_
    refine ods (fun c26 => ?_) (fun c26 => ?_)
    ·
      refine ops_nil ?_
      refine run_cond_t rfl ?_
      refine run_seq ?_
      refine run_region ?_
      refine ov (xassign rfl) rfl rfl rfl ?_
      refine ov (xassign rfl) rfl rfl rfl ?_
      refine ops_nil ?_
      refine run_ret Try.func34 (res2 rfl rfl rfl) ?_
      have he : seenBy xs ys role day = ([], 4) := by unfold seenBy; (repeat' split) <;> first | rfl | (exfalso; omega) | (rw [hy, List.take_of_length_le (by omega), getR_eq (by omega)]) | (exfalso; simp_all; done)
      exact ⟨_, rfl, E, none, 0, 0, by rw [he], by rw [he]; exact Ow.none _ _ _ _ _ _⟩
    ·
      refine ops_nil ?_
      refine run_cond_f rfl ?_
      refine run_skip ?_
      refine run_seq ?_
      refine run_region ?_
      have hz_ := sealCode_zero (by omega : sealCode xs ys day = 0)
      have hr8_ := areRoles_len hz_.1
      have hf12_ := areFiles_len hz_.2.1
      have hb_ : 0 ≤ roleOf xs role := by omega
      refine obuild (cs := []) (sz := 1) Try.underlying49 inf9 rfl rfl (by decide) rfl rfl (by simp [Value.cells]) rfl rfl rfl ?_
      intro b3 w3 e3 hb3 hz3 O3
      have E := E.trans e3
      have G3 : Ow strc 1 9 w3 b3 (b3 + 1) (some ⟨b3, 0, none⟩) 0 0 ([] : List ByteArray) := Own.ow (by simpa [strc] using O3) rfl (by omega) (Nat.le_refl _) (by omega) (by intro x hx; rfl)
      refine ov (xassign rfl) rfl rfl rfl ?_
      refine ops_nil ?_
      refine run_seq ?_
      refine run_seq ?_
      refine run_region ?_
      refine ov (xmove rfl) rfl rfl rfl ?_
      refine ov (xlen Try.underlying32 rfl) rfl rfl rfl ?_
      refine ov (xmove rfl) rfl rfl rfl ?_
      refine ops_nil ?_
      refine run_block ?_
      refine run_loop (ι := Nat × Option Addr × Nat × Nat × List ByteArray × World) (fun x_ => match x_ with | (k, q_12, m_12, c_12, ys_12, wr) => (Ext w wr) ∧ (Ow strc 1 9 wr b3 wr.heap.size q_12 m_12 c_12 ys_12) ∧ (b3 ≤ wr.heap.size) ∧ (w3.heap.size ≤ wr.heap.size) ∧ (k ≤ m) ∧ (ys_12 = ((ys.take k).filter fun f_ => seeP xs[(roleOf xs role).toNat] f_ day).map (·.Code))) (fun x_ => match x_ with | (k, q_12, m_12, c_12, ys_12, wr) => [(0, .slice p n c), (3, .int .i64 day), (11, .int .i64 (roleOf xs role)), (12, .slice q_12 m_12 c_12), (28, .slice q m d), (29, .int .i64 (m : Int)), (30, .int .i64 (k : Int))]) (fun x_ => match x_ with | (k, q_12, m_12, c_12, ys_12, wr) => wr) (fun x_ => match x_ with | (k, q_12, m_12, c_12, ys_12, wr) => m - k) ?_ (0, (some ⟨b3, 0, none⟩), 0, 0, [], w3) (⟨E, G3.wide (by omega) (by omega), by omega, Nat.le_refl _, by omega, by simp⟩) ⟨rfl, rfl, rfl, rfl, rfl, rfl, rfl, trivial⟩ rfl
      intro i_ hI_ hback9
      obtain ⟨k, q_12, m_12, c_12, ys_12, wr⟩ := i_
      obtain ⟨E, G_12, lo_12, lz_wr, hk, hy⟩ := hI_
      try dsimp only
      have zr := E.size
      have lg_12 := G_12.len
      have hml := filt_len hy
      refine run_seq ?_
      refine run_region ?_
      refine ov (xlss rfl rfl _ rfl) rfl rfl rfl ?_
      refine ods (fun c31 => ?_) (fun c31 => ?_)
      ·
        refine ops_nil ?_
        refine run_seq ?_
        refine run_cond_t rfl ?_
        refine run_skip ?_
        refine run_seq ?_
        refine run_block ?_
        refine run_seq ?_
        refine run_region ?_
        have h32 := (K.ext E).at (i := k) (by omega)
        refine ov (xindexN (i := k) Try.underlying32 Try.sizeOf54 rfl rfl rfl ((K.ext E).p (i := k) (by omega)) (by have := (K.ext E).len; omega)) rfl rfl rfl ?_
        refine ov (v := .agg #[.string ys[k].Code, .int .i64 ys[k].Level, .slice (he_ k).p (he_ k).n (he_ k).c, .int .i64 ys[k].Until]) (xloadN Try.isAgg54 Try.sizeOf54 rfl (h32) rfl) rfl rfl rfl ?_
        refine oalloc Try.zeroValue54 rfl rfl ?_
        intro b4 w4 e4 hb4 hz4 O4
        have E := E.trans e4
        replace G_12 := G_12.ext e4
        replace O4 : Own w4 b4 [.string ⟨#[]⟩, .int .i64 0, .slice none 0 0, .int .i64 0] 54 := O4
        refine ostoreN (vs := _) Try.sizeOf54 rfl rfl O4 rfl (by simp) (by simp [Value.oneCell']) rfl ?_
        intro w5 on5 O5
        have hz5 := on5.size
        have E := on5.ext E (by omega)
        replace G_12 := G_12.only on5 (by omega)
        replace O5 : Own w5 b4 [.string ys[k].Code, .int .i64 ys[k].Level, .slice (he_ k).p (he_ k).n (he_ k).c, .int .i64 ys[k].Until] 54 := O5
        refine ops_nil ?_
        refine run_seq ?_
        refine run_draw (by kernel_rfl) (by kernel_rfl) ?_
        refine qv (fun w' x_ => xmove rfl) rfl rfl rfl ?_
        refine qv (fun w' x_ => xmove rfl) rfl rfl rfl ?_
        have h36 := (H.ext E).at (i := (roleOf xs role).toNat) (by omega)
        refine qv (fun w' x_ => xindexN (i := (roleOf xs role).toNat) Try.underlying25 Try.sizeOf71 rfl rfl (by omega) ((H.ext E).p (i := (roleOf xs role).toNat) (by omega)) (by have := (H.ext E).len; omega)) rfl rfl rfl ?_
        refine qv (v := .agg #[.string xs[(roleOf xs role).toNat].Name, .int .i64 xs[(roleOf xs role).toNat].Level, .slice (hd (roleOf xs role).toNat).p (hd (roleOf xs role).toNat).n (hd (roleOf xs role).toNat).c]) (fun w' x_ => xloadN Try.isAgg71 Try.sizeOf71 rfl ((h36).ext x_) rfl) rfl rfl rfl ?_
        refine qv (v := .agg #[.string ys[k].Code, .int .i64 ys[k].Level, .slice (he_ k).p (he_ k).n (he_ k).c, .int .i64 ys[k].Until]) (fun w' x_ => xloadN Try.isAgg54 Try.sizeOf54 rfl ((O5.cells).ext x_) rfl) rfl rfl rfl ?_
        refine qv (fun w' x_ => xmove rfl) rfl rfl rfl ?_
        have t40 := fun (w' : World) (x_ : Ext w5 w') => Ret.q (w := w') (maySee_ok _ _ _ _ (day) _ (((show Sl strc 1 _ _ _ _ xs[(roleOf xs role).toNat].Groups from (H.inner (i := (roleOf xs role).toNat) (by omega)).ext E)).ext x_) (((show Sl strc 1 _ _ _ _ ys[k].Groups from (K.inner (i := k) (by omega)).ext E)).ext x_))
        refine qc (fun w' => xcall Try.call79 rfl) rfl rfl rfl t40 ?_
        clear t40
        refine qbs (fun c40 => ?_) (fun c40 => ?_)
        ·
          refine q_nil ?_
          intro w6 e6
          have z6 := e6.size
          have E := E.trans e6
          replace G_12 := G_12.ext e6
          replace O5 := O5.ext e6
          refine run_cond_t rfl ?_
          refine run_region ?_
          refine ov (xmove rfl) rfl rfl rfl ?_
          refine ov (xfieldAddr fo54f0 rfl) rfl rfl rfl ?_
          refine ov (v := .string ys[k].Code) (xload1 Try.isAgg9 rfl (O5.cells) rfl) rfl rfl rfl ?_
          refine obuild (cs := [.string ys[k].Code]) (sz := 1) Try.underlying49 inf9 rfl rfl (by decide) rfl rfl (by simp [Value.cells]) rfl rfl rfl ?_
          intro b7 w7 e7 hb7 hz7 O7
          have E := E.trans e7
          replace G_12 := G_12.ext e7
          replace O5 := O5.ext e7
          refine oapp (bytes := 16) (nm := (m_12 + 1)) G_12 rfl rfl elem9 (Own.sl1 (y := ys[k].Code) O7) (by intro h; cases h) (by intro y hy; rfl) (by intro y hy u hu; rw [List.mem_singleton] at hy; subst hy; revert u; simp [Value.oneCell', strc]) (by omega) (by omega) (by omega) (by omega) rfl rfl ?_
          intro p8 c8_ w8 m8 G8
          have hz8 := m8.size
          have E := m8.toExt E (by omega)
          try replace O5 := m8.own O5 (by omega)
          try replace O7 := m8.own O7 (by omega)
          refine ov (xassign rfl) rfl rfl rfl ?_
          refine ops_nil ?_
          refine run_inBlock ?_
          refine run_region ?_
          refine ov (xadd rfl rfl (by unfold I64; omega)) rfl rfl rfl ?_
          refine ov (xmove rfl) rfl rfl rfl ?_
          refine ops_nil ?_
          refine run_sub ?_ (hback9 (k + 1, p8, (m_12 + 1), c8_, ys_12 ++ [ys[k].Code], w8) (⟨E, G8.wide (by omega) (by omega), by omega, by omega, by omega, (filt_step (xs := ys) (k := k) (by omega) hy).1 c40⟩) (by first | omega | (dsimp only; omega)))
          exact ⟨rfl, rfl, rfl, rfl, rfl, rfl, rfl, trivial⟩
        ·
          refine q_nil ?_
          intro w6 e6
          have z6 := e6.size
          have E := E.trans e6
          replace G_12 := G_12.ext e6
          replace O5 := O5.ext e6
          refine run_cond_f rfl ?_
          refine run_skip ?_
          refine run_inBlock ?_
          refine run_region ?_
          refine ov (xadd rfl rfl (by unfold I64; omega)) rfl rfl rfl ?_
          refine ov (xmove rfl) rfl rfl rfl ?_
          refine ops_nil ?_
          refine run_sub ?_ (hback9 (k + 1, q_12, m_12, c_12, ys_12, w6) (⟨E, G_12.wide (by omega) (by omega), by omega, by omega, by omega, (filt_step (xs := ys) (k := k) (by omega) hy).2 c40⟩) (by first | omega | (dsimp only; omega)))
          exact ⟨rfl, rfl, rfl, rfl, rfl, rfl, rfl, trivial⟩
      ·
        refine ops_nil ?_
        refine run_seq ?_
        refine run_cond_f rfl ?_
        refine run_exit rfl ?_
        refine run_seq ?_
        refine run_region ?_
        refine ov (xmove rfl) rfl rfl rfl ?_
        refine ov (xassign rfl) rfl rfl rfl ?_
        refine ov (xassign rfl) rfl rfl rfl ?_
        refine ops_nil ?_
        refine run_ret Try.func34 (res2 rfl rfl rfl) ?_
        have he : seenBy xs ys role day = (ys_12, 0) := by unfold seenBy; (repeat' split) <;> first | rfl | (exfalso; omega) | (rw [hy, List.take_of_length_le (by omega), getR_eq (by omega)]) | (exfalso; simp_all; done)
        exact ⟨_, rfl, E, _, _, _, by rw [he], by rw [he]; exact G_12.wide (by omega) (by omega)⟩

set_option maxHeartbeats 1000000 in
theorem sSeenBy_ok (p : Option Addr) (n c : Nat) (xs : List Role) (q : Option Addr) (m d : Nat) (ys : List File) (role : ByteArray) (day : Int) (w : World) (H0 : SnRoleS w p n c xs) (K0 : SnFileS w q m d ys) (hx : ∀ x ∈ xs, x.ok) (hy : ∀ x ∈ ys, x.ok) : Ret Try.prog 35 [.slice p n c, .slice q m d, .string role, .int .i64 day] w (fun v w' => Ext w w' ∧ ∃ q m d, v = .tuple #[.slice q m d, .int .i64 (seenBy xs ys role day).2] ∧ Ow strc 1 9 w' w.heap.size w'.heap.size q m d (seenBy xs ys role day).1) := by
  refine ret_of_run (N := 56) Try.func35 rfl rfl rfl ?_
  obtain ⟨hd, H⟩ := H0
  have hn := H.len
  have hn6 := H.n64
  obtain ⟨he_, K⟩ := K0
  have hm := K.len
  have hm6 := K.n64
  have hrl := roleOf_lt xs role
  have E : Ext w w := Ext.refl w
  refine run_seq ?_
  refine run_region ?_
  refine ov (xassign rfl) rfl rfl rfl ?_
  refine ov (xassign rfl) rfl rfl rfl ?_
  refine ops_nil ?_
  refine run_seq ?_
  refine run_region ?_
  refine ov (xmove rfl) rfl rfl rfl ?_
  refine ov (xmove rfl) rfl rfl rfl ?_
  refine ov (xmove rfl) rfl rfl rfl ?_
  refine oc (xcall Try.call72 rfl) rfl rfl rfl (l24Code_ok _ _ _ _ _ _ _ _ (day) _ (H.ext E).sn (K.ext E).sn (by assumption) (by assumption)) ?_
  rintro _ w1 ⟨rfl, e1⟩
  have z1 := e1.size
  have E := E.trans e1
  refine ov (xassign rfl) rfl rfl rfl ?_
  refine ops_nil ?_
  refine run_seq ?_
  refine run_region ?_
  refine ov (xmove rfl) rfl rfl rfl ?_
  refine ov (xmove rfl) rfl rfl rfl ?_
  refine oc (xcall Try.call57 rfl) rfl rfl rfl (l24Role_ok _ _ _ _ (role) _ (H.ext E).sn) ?_
  rintro _ w2 ⟨rfl, e2⟩
  have z2 := e2.size
  have E := E.trans e2
  refine ov (xassign rfl) rfl rfl rfl ?_
  refine ops_nil ?_
  refine run_seq ?_
  refine run_seq ?_
  refine run_region ?_
  refine ov (xmove rfl) rfl rfl rfl ?_
  refine ov (xeql rfl rfl _ rfl) rfl rfl rfl ?_
  refine ods (fun c22 => ?_) (fun c22 => ?_)
  ·
    refine ov (xmove rfl) rfl rfl rfl ?_
    refine ov (xmove rfl) rfl rfl rfl ?_
    refine ov (xlss rfl rfl _ rfl) rfl rfl rfl ?_
    refine ods (fun c25 => ?_) (fun c25 => ?_)
    ·
      refine ov (xpick_t rfl rfl) rfl rfl rfl ?_
      refine ops_nil ?_
      refine run_cond_t rfl ?_
      refine run_region ?_
      refine ov (xassign rfl) rfl rfl rfl ?_
      refine ops_nil ?_
      refine run_seq ?_
      refine run_seq ?_
      refine run_region ?_
      refine ov (xmove rfl) rfl rfl rfl ?_
      refine ov (xneq rfl rfl _ rfl) rfl rfl rfl ?_
      refine ods (fun c28 => ?_) (fun c28 => ?_)
      ·
        refine ops_nil ?_
        refine run_cond_t rfl ?_
        refine run_seq ?_
        refine run_region ?_
        refine ov (xmove rfl) rfl rfl rfl ?_
        refine ov (xassign rfl) rfl rfl rfl ?_
        refine ov (xassign rfl) rfl rfl rfl ?_
        refine ops_nil ?_
        refine run_ret Try.func35 (res2 rfl rfl rfl) ?_
        have he : seenBy xs ys role day = ([], 4) := by unfold seenBy; (repeat' split) <;> first | rfl | (exfalso; omega) | (rw [hy, List.take_of_length_le (by omega), getR_eq (by omega)]) | (exfalso; simp_all; done)
        exact ⟨_, rfl, E, none, 0, 0, by rw [he], by rw [he]; exact Ow.none _ _ _ _ _ _⟩
      · exfalso; omega
    ·
      refine ov (xpick_t rfl rfl) rfl rfl rfl ?_
      refine ops_nil ?_
      refine run_cond_f rfl ?_
      refine run_skip ?_
      refine run_seq ?_
      refine run_seq ?_
      refine run_region ?_
      refine ov (xmove rfl) rfl rfl rfl ?_
      refine ov (xneq rfl rfl _ rfl) rfl rfl rfl ?_
      refine ods (fun c28 => ?_) (fun c28 => ?_)
      ·
        refine ops_nil ?_
        refine run_cond_t rfl ?_
        refine run_seq ?_
        refine run_region ?_
        refine ov (xmove rfl) rfl rfl rfl ?_
        refine ov (xassign rfl) rfl rfl rfl ?_
        refine ov (xassign rfl) rfl rfl rfl ?_
        refine ops_nil ?_
        refine run_ret Try.func35 (res2 rfl rfl rfl) ?_
        have he : seenBy xs ys role day = ([], (sealCode xs ys day)) := by unfold seenBy; (repeat' split) <;> first | rfl | (exfalso; omega) | (rw [hy, List.take_of_length_le (by omega), getR_eq (by omega)]) | (exfalso; simp_all; done)
        exact ⟨_, rfl, E, none, 0, 0, by rw [he], by rw [he]; exact Ow.none _ _ _ _ _ _⟩
      ·
        refine ops_nil ?_
        refine run_cond_f rfl ?_
        refine run_skip ?_
        refine run_seq ?_
        refine run_region ?_
        have hz_ := sealCode_zero (by omega : sealCode xs ys day = 0)
        have hr8_ := areRoles_len hz_.1
        have hf12_ := areFiles_len hz_.2.1
        have hb_ : 0 ≤ roleOf xs role := by omega
        refine obuild (cs := []) (sz := 1) Try.underlying49 inf9 rfl rfl (by decide) rfl rfl (by simp [Value.cells]) rfl rfl rfl ?_
        intro b3 w3 e3 hb3 hz3 O3
        have E := E.trans e3
        have G3 : Ow strc 1 9 w3 b3 (b3 + 1) (some ⟨b3, 0, none⟩) 0 0 ([] : List ByteArray) := Own.ow (by simpa [strc] using O3) rfl (by omega) (Nat.le_refl _) (by omega) (by intro x hx; rfl)
        refine ov (xassign rfl) rfl rfl rfl ?_
        refine ops_nil ?_
        refine run_seq ?_
        refine run_seq ?_
        refine run_region ?_
        refine ov (xassign rfl) rfl rfl rfl ?_
        refine ops_nil ?_
        refine run_block ?_
        refine run_loop (ι := Nat × Option Addr × Nat × Nat × List ByteArray × World) (fun x_ => match x_ with | (k, q_12, m_12, c_12, ys_12, wr) => (Ext w wr) ∧ (Ow strc 1 9 wr b3 wr.heap.size q_12 m_12 c_12 ys_12) ∧ (b3 ≤ wr.heap.size) ∧ (w3.heap.size ≤ wr.heap.size) ∧ (k ≤ m) ∧ (ys_12 = ((ys.take k).filter fun f_ => seeP xs[(roleOf xs role).toNat] f_ day).map (·.Code))) (fun x_ => match x_ with | (k, q_12, m_12, c_12, ys_12, wr) => [(0, .slice p n c), (1, .slice q m d), (3, .int .i64 day), (11, .int .i64 (roleOf xs role)), (12, .slice q_12 m_12 c_12), (13, .int .i64 (k : Int))]) (fun x_ => match x_ with | (k, q_12, m_12, c_12, ys_12, wr) => wr) (fun x_ => match x_ with | (k, q_12, m_12, c_12, ys_12, wr) => m - k) ?_ (0, (some ⟨b3, 0, none⟩), 0, 0, [], w3) (⟨E, G3.wide (by omega) (by omega), by omega, Nat.le_refl _, by omega, by simp⟩) ⟨rfl, rfl, rfl, rfl, rfl, rfl, trivial⟩ rfl
        intro i_ hI_ hback9
        obtain ⟨k, q_12, m_12, c_12, ys_12, wr⟩ := i_
        obtain ⟨E, G_12, lo_12, lz_wr, hk, hy⟩ := hI_
        try dsimp only
        have zr := E.size
        have lg_12 := G_12.len
        have hml := filt_len hy
        refine run_seq ?_
        refine run_seq ?_
        refine run_region ?_
        refine ov (xmove rfl) rfl rfl rfl ?_
        refine ov (xmove rfl) rfl rfl rfl ?_
        refine ov (xlen Try.underlying32 rfl) rfl rfl rfl ?_
        refine ov (xlss rfl rfl _ rfl) rfl rfl rfl ?_
        refine ods (fun c34 => ?_) (fun c34 => ?_)
        ·
          refine ops_nil ?_
          refine run_cond_t rfl ?_
          refine run_skip ?_
          refine run_seq ?_
          refine run_block ?_
          refine run_seq ?_
          refine run_draw (by kernel_rfl) (by kernel_rfl) ?_
          refine qv (fun w' x_ => xmove rfl) rfl rfl rfl ?_
          refine qv (fun w' x_ => xmove rfl) rfl rfl rfl ?_
          have h39 := (H.ext E).at (i := (roleOf xs role).toNat) (by omega)
          refine qv (fun w' x_ => xindexN (i := (roleOf xs role).toNat) Try.underlying25 Try.sizeOf71 rfl rfl (by omega) ((H.ext E).p (i := (roleOf xs role).toNat) (by omega)) (by have := (H.ext E).len; omega)) rfl rfl rfl ?_
          refine qv (v := .agg #[.string xs[(roleOf xs role).toNat].Name, .int .i64 xs[(roleOf xs role).toNat].Level, .slice (hd (roleOf xs role).toNat).p (hd (roleOf xs role).toNat).n (hd (roleOf xs role).toNat).c]) (fun w' x_ => xloadN Try.isAgg71 Try.sizeOf71 rfl ((h39).ext x_) rfl) rfl rfl rfl ?_
          refine qv (fun w' x_ => xmove rfl) rfl rfl rfl ?_
          refine qv (fun w' x_ => xmove rfl) rfl rfl rfl ?_
          have h43 := (K.ext E).at (i := k) (by omega)
          refine qv (fun w' x_ => xindexN (i := k) Try.underlying32 Try.sizeOf54 rfl rfl rfl ((K.ext E).p (i := k) (by omega)) (by have := (K.ext E).len; omega)) rfl rfl rfl ?_
          refine qv (v := .agg #[.string ys[k].Code, .int .i64 ys[k].Level, .slice (he_ k).p (he_ k).n (he_ k).c, .int .i64 ys[k].Until]) (fun w' x_ => xloadN Try.isAgg54 Try.sizeOf54 rfl ((h43).ext x_) rfl) rfl rfl rfl ?_
          refine qv (fun w' x_ => xmove rfl) rfl rfl rfl ?_
          have t46 := fun (w' : World) (x_ : Ext wr w') => Ret.q (w := w') (l24Sees_ok _ _ _ _ (day) _ (((show Sl strc 1 _ _ _ _ xs[(roleOf xs role).toNat].Groups from (H.inner (i := (roleOf xs role).toNat) (by omega)).ext E)).ext x_) (((show Sl strc 1 _ _ _ _ ys[k].Groups from (K.inner (i := k) (by omega)).ext E)).ext x_))
          refine qc (fun w' => xcall Try.call77 rfl) rfl rfl rfl t46 ?_
          clear t46
          refine qbs (fun c46 => ?_) (fun c46 => ?_)
          ·
            refine q_nil ?_
            intro w4 e4
            have z4 := e4.size
            have E := E.trans e4
            replace G_12 := G_12.ext e4
            refine run_cond_t rfl ?_
            refine run_region ?_
            refine ov (xmove rfl) rfl rfl rfl ?_
            refine ov (xmove rfl) rfl rfl rfl ?_
            refine ov (xmove rfl) rfl rfl rfl ?_
            have h50 := (K.ext E).at (i := k) (by omega)
            refine ov (xindexN (i := k) Try.underlying32 Try.sizeOf54 rfl rfl rfl ((K.ext E).p (i := k) (by omega)) (by have := (K.ext E).len; omega)) rfl rfl rfl ?_
            refine ov (xfieldAddr fo54f0 rfl) rfl rfl rfl ?_
            refine ov (v := .string ys[k].Code) (xload1 Try.isAgg9 rfl (h50) rfl) rfl rfl rfl ?_
            refine obuild (cs := [.string ys[k].Code]) (sz := 1) Try.underlying49 inf9 rfl rfl (by decide) rfl rfl (by simp [Value.cells]) rfl rfl rfl ?_
            intro b5 w5 e5 hb5 hz5 O5
            have E := E.trans e5
            replace G_12 := G_12.ext e5
            refine oapp (bytes := 16) (nm := (m_12 + 1)) G_12 rfl rfl elem9 (Own.sl1 (y := ys[k].Code) O5) (by intro h; cases h) (by intro y hy; rfl) (by intro y hy u hu; rw [List.mem_singleton] at hy; subst hy; revert u; simp [Value.oneCell', strc]) (by omega) (by omega) (by omega) (by omega) rfl rfl ?_
            intro p6 c6_ w6 m6 G6
            have hz6 := m6.size
            have E := m6.toExt E (by omega)
            try replace O5 := m6.own O5 (by omega)
            refine ov (xassign rfl) rfl rfl rfl ?_
            refine ops_nil ?_
            refine run_inBlock ?_
            refine run_region ?_
            refine ov (xmove rfl) rfl rfl rfl ?_
            refine ov (xadd rfl rfl (by unfold I64; omega)) rfl rfl rfl ?_
            refine ov (xassign rfl) rfl rfl rfl ?_
            refine ops_nil ?_
            refine run_sub ?_ (hback9 (k + 1, p6, (m_12 + 1), c6_, ys_12 ++ [ys[k].Code], w6) (⟨E, G6.wide (by omega) (by omega), by omega, by omega, by omega, (filt_step (xs := ys) (k := k) (by omega) hy).1 c46⟩) (by first | omega | (dsimp only; omega)))
            exact ⟨rfl, rfl, rfl, rfl, rfl, rfl, trivial⟩
          ·
            refine q_nil ?_
            intro w4 e4
            have z4 := e4.size
            have E := E.trans e4
            replace G_12 := G_12.ext e4
            refine run_cond_f rfl ?_
            refine run_skip ?_
            refine run_inBlock ?_
            refine run_region ?_
            refine ov (xmove rfl) rfl rfl rfl ?_
            refine ov (xadd rfl rfl (by unfold I64; omega)) rfl rfl rfl ?_
            refine ov (xassign rfl) rfl rfl rfl ?_
            refine ops_nil ?_
            refine run_sub ?_ (hback9 (k + 1, q_12, m_12, c_12, ys_12, w4) (⟨E, G_12.wide (by omega) (by omega), by omega, by omega, by omega, (filt_step (xs := ys) (k := k) (by omega) hy).2 c46⟩) (by first | omega | (dsimp only; omega)))
            exact ⟨rfl, rfl, rfl, rfl, rfl, rfl, trivial⟩
        ·
          refine ops_nil ?_
          refine run_cond_f rfl ?_
          refine run_exit rfl ?_
          refine run_seq ?_
          refine run_region ?_
          refine ov (xmove rfl) rfl rfl rfl ?_
          refine ov (xassign rfl) rfl rfl rfl ?_
          refine ov (xassign rfl) rfl rfl rfl ?_
          refine ops_nil ?_
          refine run_ret Try.func35 (res2 rfl rfl rfl) ?_
          have he : seenBy xs ys role day = (ys_12, 0) := by unfold seenBy; (repeat' split) <;> first | rfl | (exfalso; omega) | (rw [hy, List.take_of_length_le (by omega), getR_eq (by omega)]) | (exfalso; simp_all; done)
          exact ⟨_, rfl, E, _, _, _, by rw [he], by rw [he]; exact G_12.wide (by omega) (by omega)⟩
  ·
    refine ov (xmove rfl) rfl rfl rfl ?_
    refine og rfl rfl rfl ?_
    refine og rfl rfl rfl ?_
    refine ov (xpick_f rfl rfl) rfl rfl rfl ?_
    refine ops_nil ?_
    refine run_cond_f rfl ?_
    refine run_skip ?_
    refine run_seq ?_
    refine run_seq ?_
    refine run_region ?_
    refine ov (xmove rfl) rfl rfl rfl ?_
    refine ov (xneq rfl rfl _ rfl) rfl rfl rfl ?_
    refine ods (fun c28 => ?_) (fun c28 => ?_)
    ·
      refine ops_nil ?_
      refine run_cond_t rfl ?_
      refine run_seq ?_
      refine run_region ?_
      refine ov (xmove rfl) rfl rfl rfl ?_
      refine ov (xassign rfl) rfl rfl rfl ?_
      refine ov (xassign rfl) rfl rfl rfl ?_
      refine ops_nil ?_
      refine run_ret Try.func35 (res2 rfl rfl rfl) ?_
      have he : seenBy xs ys role day = ([], (sealCode xs ys day)) := by unfold seenBy; (repeat' split) <;> first | rfl | (exfalso; omega) | (rw [hy, List.take_of_length_le (by omega), getR_eq (by omega)]) | (exfalso; simp_all; done)
      exact ⟨_, rfl, E, none, 0, 0, by rw [he], by rw [he]; exact Ow.none _ _ _ _ _ _⟩
    ·
      refine ops_nil ?_
      refine run_cond_f rfl ?_
      refine run_skip ?_
      refine run_seq ?_
      refine run_region ?_
      have hz_ := sealCode_zero (by omega : sealCode xs ys day = 0)
      have hr8_ := areRoles_len hz_.1
      have hf12_ := areFiles_len hz_.2.1
      have hb_ : 0 ≤ roleOf xs role := by omega
      refine obuild (cs := []) (sz := 1) Try.underlying49 inf9 rfl rfl (by decide) rfl rfl (by simp [Value.cells]) rfl rfl rfl ?_
      intro b3 w3 e3 hb3 hz3 O3
      have E := E.trans e3
      have G3 : Ow strc 1 9 w3 b3 (b3 + 1) (some ⟨b3, 0, none⟩) 0 0 ([] : List ByteArray) := Own.ow (by simpa [strc] using O3) rfl (by omega) (Nat.le_refl _) (by omega) (by intro x hx; rfl)
      refine ov (xassign rfl) rfl rfl rfl ?_
      refine ops_nil ?_
      refine run_seq ?_
      refine run_seq ?_
      refine run_region ?_
      refine ov (xassign rfl) rfl rfl rfl ?_
      refine ops_nil ?_
      refine run_block ?_
      refine run_loop (ι := Nat × Option Addr × Nat × Nat × List ByteArray × World) (fun x_ => match x_ with | (k, q_12, m_12, c_12, ys_12, wr) => (Ext w wr) ∧ (Ow strc 1 9 wr b3 wr.heap.size q_12 m_12 c_12 ys_12) ∧ (b3 ≤ wr.heap.size) ∧ (w3.heap.size ≤ wr.heap.size) ∧ (k ≤ m) ∧ (ys_12 = ((ys.take k).filter fun f_ => seeP xs[(roleOf xs role).toNat] f_ day).map (·.Code))) (fun x_ => match x_ with | (k, q_12, m_12, c_12, ys_12, wr) => [(0, .slice p n c), (1, .slice q m d), (3, .int .i64 day), (11, .int .i64 (roleOf xs role)), (12, .slice q_12 m_12 c_12), (13, .int .i64 (k : Int))]) (fun x_ => match x_ with | (k, q_12, m_12, c_12, ys_12, wr) => wr) (fun x_ => match x_ with | (k, q_12, m_12, c_12, ys_12, wr) => m - k) ?_ (0, (some ⟨b3, 0, none⟩), 0, 0, [], w3) (⟨E, G3.wide (by omega) (by omega), by omega, Nat.le_refl _, by omega, by simp⟩) ⟨rfl, rfl, rfl, rfl, rfl, rfl, trivial⟩ rfl
      intro i_ hI_ hback9
      obtain ⟨k, q_12, m_12, c_12, ys_12, wr⟩ := i_
      obtain ⟨E, G_12, lo_12, lz_wr, hk, hy⟩ := hI_
      try dsimp only
      have zr := E.size
      have lg_12 := G_12.len
      have hml := filt_len hy
      refine run_seq ?_
      refine run_seq ?_
      refine run_region ?_
      refine ov (xmove rfl) rfl rfl rfl ?_
      refine ov (xmove rfl) rfl rfl rfl ?_
      refine ov (xlen Try.underlying32 rfl) rfl rfl rfl ?_
      refine ov (xlss rfl rfl _ rfl) rfl rfl rfl ?_
      refine ods (fun c34 => ?_) (fun c34 => ?_)
      ·
        refine ops_nil ?_
        refine run_cond_t rfl ?_
        refine run_skip ?_
        refine run_seq ?_
        refine run_block ?_
        refine run_seq ?_
        refine run_draw (by kernel_rfl) (by kernel_rfl) ?_
        refine qv (fun w' x_ => xmove rfl) rfl rfl rfl ?_
        refine qv (fun w' x_ => xmove rfl) rfl rfl rfl ?_
        have h39 := (H.ext E).at (i := (roleOf xs role).toNat) (by omega)
        refine qv (fun w' x_ => xindexN (i := (roleOf xs role).toNat) Try.underlying25 Try.sizeOf71 rfl rfl (by omega) ((H.ext E).p (i := (roleOf xs role).toNat) (by omega)) (by have := (H.ext E).len; omega)) rfl rfl rfl ?_
        refine qv (v := .agg #[.string xs[(roleOf xs role).toNat].Name, .int .i64 xs[(roleOf xs role).toNat].Level, .slice (hd (roleOf xs role).toNat).p (hd (roleOf xs role).toNat).n (hd (roleOf xs role).toNat).c]) (fun w' x_ => xloadN Try.isAgg71 Try.sizeOf71 rfl ((h39).ext x_) rfl) rfl rfl rfl ?_
        refine qv (fun w' x_ => xmove rfl) rfl rfl rfl ?_
        refine qv (fun w' x_ => xmove rfl) rfl rfl rfl ?_
        have h43 := (K.ext E).at (i := k) (by omega)
        refine qv (fun w' x_ => xindexN (i := k) Try.underlying32 Try.sizeOf54 rfl rfl rfl ((K.ext E).p (i := k) (by omega)) (by have := (K.ext E).len; omega)) rfl rfl rfl ?_
        refine qv (v := .agg #[.string ys[k].Code, .int .i64 ys[k].Level, .slice (he_ k).p (he_ k).n (he_ k).c, .int .i64 ys[k].Until]) (fun w' x_ => xloadN Try.isAgg54 Try.sizeOf54 rfl ((h43).ext x_) rfl) rfl rfl rfl ?_
        refine qv (fun w' x_ => xmove rfl) rfl rfl rfl ?_
        have t46 := fun (w' : World) (x_ : Ext wr w') => Ret.q (w := w') (l24Sees_ok _ _ _ _ (day) _ (((show Sl strc 1 _ _ _ _ xs[(roleOf xs role).toNat].Groups from (H.inner (i := (roleOf xs role).toNat) (by omega)).ext E)).ext x_) (((show Sl strc 1 _ _ _ _ ys[k].Groups from (K.inner (i := k) (by omega)).ext E)).ext x_))
        refine qc (fun w' => xcall Try.call77 rfl) rfl rfl rfl t46 ?_
        clear t46
        refine qbs (fun c46 => ?_) (fun c46 => ?_)
        ·
          refine q_nil ?_
          intro w4 e4
          have z4 := e4.size
          have E := E.trans e4
          replace G_12 := G_12.ext e4
          refine run_cond_t rfl ?_
          refine run_region ?_
          refine ov (xmove rfl) rfl rfl rfl ?_
          refine ov (xmove rfl) rfl rfl rfl ?_
          refine ov (xmove rfl) rfl rfl rfl ?_
          have h50 := (K.ext E).at (i := k) (by omega)
          refine ov (xindexN (i := k) Try.underlying32 Try.sizeOf54 rfl rfl rfl ((K.ext E).p (i := k) (by omega)) (by have := (K.ext E).len; omega)) rfl rfl rfl ?_
          refine ov (xfieldAddr fo54f0 rfl) rfl rfl rfl ?_
          refine ov (v := .string ys[k].Code) (xload1 Try.isAgg9 rfl (h50) rfl) rfl rfl rfl ?_
          refine obuild (cs := [.string ys[k].Code]) (sz := 1) Try.underlying49 inf9 rfl rfl (by decide) rfl rfl (by simp [Value.cells]) rfl rfl rfl ?_
          intro b5 w5 e5 hb5 hz5 O5
          have E := E.trans e5
          replace G_12 := G_12.ext e5
          refine oapp (bytes := 16) (nm := (m_12 + 1)) G_12 rfl rfl elem9 (Own.sl1 (y := ys[k].Code) O5) (by intro h; cases h) (by intro y hy; rfl) (by intro y hy u hu; rw [List.mem_singleton] at hy; subst hy; revert u; simp [Value.oneCell', strc]) (by omega) (by omega) (by omega) (by omega) rfl rfl ?_
          intro p6 c6_ w6 m6 G6
          have hz6 := m6.size
          have E := m6.toExt E (by omega)
          try replace O5 := m6.own O5 (by omega)
          refine ov (xassign rfl) rfl rfl rfl ?_
          refine ops_nil ?_
          refine run_inBlock ?_
          refine run_region ?_
          refine ov (xmove rfl) rfl rfl rfl ?_
          refine ov (xadd rfl rfl (by unfold I64; omega)) rfl rfl rfl ?_
          refine ov (xassign rfl) rfl rfl rfl ?_
          refine ops_nil ?_
          refine run_sub ?_ (hback9 (k + 1, p6, (m_12 + 1), c6_, ys_12 ++ [ys[k].Code], w6) (⟨E, G6.wide (by omega) (by omega), by omega, by omega, by omega, (filt_step (xs := ys) (k := k) (by omega) hy).1 c46⟩) (by first | omega | (dsimp only; omega)))
          exact ⟨rfl, rfl, rfl, rfl, rfl, rfl, trivial⟩
        ·
          refine q_nil ?_
          intro w4 e4
          have z4 := e4.size
          have E := E.trans e4
          replace G_12 := G_12.ext e4
          refine run_cond_f rfl ?_
          refine run_skip ?_
          refine run_inBlock ?_
          refine run_region ?_
          refine ov (xmove rfl) rfl rfl rfl ?_
          refine ov (xadd rfl rfl (by unfold I64; omega)) rfl rfl rfl ?_
          refine ov (xassign rfl) rfl rfl rfl ?_
          refine ops_nil ?_
          refine run_sub ?_ (hback9 (k + 1, q_12, m_12, c_12, ys_12, w4) (⟨E, G_12.wide (by omega) (by omega), by omega, by omega, by omega, (filt_step (xs := ys) (k := k) (by omega) hy).2 c46⟩) (by first | omega | (dsimp only; omega)))
          exact ⟨rfl, rfl, rfl, rfl, rfl, rfl, trivial⟩
      ·
        refine ops_nil ?_
        refine run_cond_f rfl ?_
        refine run_exit rfl ?_
        refine run_seq ?_
        refine run_region ?_
        refine ov (xmove rfl) rfl rfl rfl ?_
        refine ov (xassign rfl) rfl rfl rfl ?_
        refine ov (xassign rfl) rfl rfl rfl ?_
        refine ops_nil ?_
        refine run_ret Try.func35 (res2 rfl rfl rfl) ?_
        have he : seenBy xs ys role day = (ys_12, 0) := by unfold seenBy; (repeat' split) <;> first | rfl | (exfalso; omega) | (rw [hy, List.take_of_length_le (by omega), getR_eq (by omega)]) | (exfalso; simp_all; done)
        exact ⟨_, rfl, E, _, _, _, by rw [he], by rw [he]; exact G_12.wide (by omega) (by omega)⟩

set_option maxHeartbeats 1000000 in
theorem WhoSees_ok (p : Option Addr) (n c : Nat) (xs : List Role) (q : Option Addr) (m d : Nat) (ys : List File) (file : ByteArray) (day : Int) (w : World) (H0 : SnRoleS w p n c xs) (K0 : SnFileS w q m d ys) (hx : ∀ x ∈ xs, x.ok) (hy : ∀ x ∈ ys, x.ok) : Ret Try.prog 37 [.slice p n c, .slice q m d, .string file, .int .i64 day] w (fun v w' => Ext w w' ∧ ∃ q m d, v = .tuple #[.slice q m d, .int .i64 (whoSees xs ys file day).2] ∧ Ow strc 1 9 w' w.heap.size w'.heap.size q m d (whoSees xs ys file day).1) := by
  refine ret_of_run (N := 48) Try.func37 rfl rfl rfl ?_
  obtain ⟨hd, H⟩ := H0
  have hn := H.len
  have hn6 := H.n64
  obtain ⟨he_, K⟩ := K0
  have hm := K.len
  have hm6 := K.n64
  have hfl := fileOf_lt ys file
  have E : Ext w w := Ext.refl w
  refine run_seq ?_
  refine run_region ?_
  refine ov (xassign rfl) rfl rfl rfl ?_
  refine ov (xassign rfl) rfl rfl rfl ?_
  refine ops_nil ?_
  refine run_seq ?_
  refine run_seq ?_
  refine run_region ?_
  refine ov (xmove rfl) rfl rfl rfl ?_
  refine ov (xmove rfl) rfl rfl rfl ?_
  refine ov (xmove rfl) rfl rfl rfl ?_
  refine oc (xcall Try.call78 rfl) rfl rfl rfl (sealCode_ok _ _ _ _ _ _ _ _ (day) _ (H.ext E).sn (K.ext E).sn (by assumption) (by assumption)) ?_
  rintro _ w1 ⟨rfl, e1⟩
  have z1 := e1.size
  have E := E.trans e1
  refine ov (xassign rfl) rfl rfl rfl ?_
  refine ops_nil ?_
  refine run_seq ?_
  refine run_region ?_
  refine ov (xmove rfl) rfl rfl rfl ?_
  refine ov (xneq rfl rfl _ rfl) rfl rfl rfl ?_
  refine ods (fun c20 => ?_) (fun c20 => ?_)
  ·
    refine ops_nil ?_
    refine run_cond_t rfl ?_
    refine run_seq ?_
    refine run_region ?_
    refine ov (xmove rfl) rfl rfl rfl ?_
    refine ov (xassign rfl) rfl rfl rfl ?_
    refine ov (xassign rfl) rfl rfl rfl ?_
    refine ops_nil ?_
    refine run_ret Try.func37 (res2 rfl rfl rfl) ?_
    have he : whoSees xs ys file day = ([], (sealCode xs ys day)) := by unfold whoSees; (repeat' split) <;> first | rfl | (exfalso; omega) | (rw [hy, List.take_of_length_le (by omega), getF_eq (by omega)]) | (exfalso; simp_all; done)
    exact ⟨_, rfl, E, none, 0, 0, by rw [he], by rw [he]; exact Ow.none _ _ _ _ _ _⟩
  ·
    refine ops_nil ?_
    refine run_cond_f rfl ?_
    refine run_skip ?_
    refine run_seq ?_
    refine run_region ?_
    refine ov (xmove rfl) rfl rfl rfl ?_
    refine ov (xmove rfl) rfl rfl rfl ?_
    refine oc (xcall Try.call70 rfl) rfl rfl rfl (fileOf_ok _ _ _ _ (file) _ (K.ext E).sn) ?_
    rintro _ w2 ⟨rfl, e2⟩
    have z2 := e2.size
    have E := E.trans e2
    refine ov (xassign rfl) rfl rfl rfl ?_
    refine ops_nil ?_
    refine run_seq ?_
    refine run_seq ?_
    refine run_region ?_
    refine ov (xmove rfl) rfl rfl rfl ?_
    refine ov (xlss rfl rfl _ rfl) rfl rfl rfl ?_
    refine ods (fun c26 => ?_) (fun c26 => ?_)
    ·
      refine ops_nil ?_
      refine run_cond_t rfl ?_
      refine run_seq ?_
      refine run_region ?_
      refine ov (xassign rfl) rfl rfl rfl ?_
      refine ov (xassign rfl) rfl rfl rfl ?_
      refine ops_nil ?_
      refine run_ret Try.func37 (res2 rfl rfl rfl) ?_
      have he : whoSees xs ys file day = ([], 4) := by unfold whoSees; (repeat' split) <;> first | rfl | (exfalso; omega) | (rw [hy, List.take_of_length_le (by omega), getF_eq (by omega)]) | (exfalso; simp_all; done)
      exact ⟨_, rfl, E, none, 0, 0, by rw [he], by rw [he]; exact Ow.none _ _ _ _ _ _⟩
    ·
      refine ops_nil ?_
      refine run_cond_f rfl ?_
      refine run_skip ?_
      refine run_seq ?_
      refine run_region ?_
      have hz_ := sealCode_zero (by omega : sealCode xs ys day = 0)
      have hr8_ := areRoles_len hz_.1
      have hf12_ := areFiles_len hz_.2.1
      have hb_ : 0 ≤ fileOf ys file := by omega
      refine obuild (cs := []) (sz := 1) Try.underlying49 inf9 rfl rfl (by decide) rfl rfl (by simp [Value.cells]) rfl rfl rfl ?_
      intro b3 w3 e3 hb3 hz3 O3
      have E := E.trans e3
      have G3 : Ow strc 1 9 w3 b3 (b3 + 1) (some ⟨b3, 0, none⟩) 0 0 ([] : List ByteArray) := Own.ow (by simpa [strc] using O3) rfl (by omega) (Nat.le_refl _) (by omega) (by intro x hx; rfl)
      refine ov (xassign rfl) rfl rfl rfl ?_
      refine ops_nil ?_
      refine run_seq ?_
      refine run_seq ?_
      refine run_region ?_
      refine ov (xmove rfl) rfl rfl rfl ?_
      refine ov (xlen Try.underlying25 rfl) rfl rfl rfl ?_
      refine ov (xmove rfl) rfl rfl rfl ?_
      refine ops_nil ?_
      refine run_block ?_
      refine run_loop (ι := Nat × Option Addr × Nat × Nat × List ByteArray × World) (fun x_ => match x_ with | (k, q_12, m_12, c_12, ys_12, wr) => (Ext w wr) ∧ (Ow strc 1 9 wr b3 wr.heap.size q_12 m_12 c_12 ys_12) ∧ (b3 ≤ wr.heap.size) ∧ (w3.heap.size ≤ wr.heap.size) ∧ (k ≤ n) ∧ (ys_12 = ((xs.take k).filter fun f_ => seeP f_ ys[(fileOf ys file).toNat] day).map (·.Name))) (fun x_ => match x_ with | (k, q_12, m_12, c_12, ys_12, wr) => [(1, .slice q m d), (3, .int .i64 day), (11, .int .i64 (fileOf ys file)), (12, .slice q_12 m_12 c_12), (28, .slice p n c), (29, .int .i64 (n : Int)), (30, .int .i64 (k : Int))]) (fun x_ => match x_ with | (k, q_12, m_12, c_12, ys_12, wr) => wr) (fun x_ => match x_ with | (k, q_12, m_12, c_12, ys_12, wr) => n - k) ?_ (0, (some ⟨b3, 0, none⟩), 0, 0, [], w3) (⟨E, G3.wide (by omega) (by omega), by omega, Nat.le_refl _, by omega, by simp⟩) ⟨rfl, rfl, rfl, rfl, rfl, rfl, rfl, trivial⟩ rfl
      intro i_ hI_ hback9
      obtain ⟨k, q_12, m_12, c_12, ys_12, wr⟩ := i_
      obtain ⟨E, G_12, lo_12, lz_wr, hk, hy⟩ := hI_
      try dsimp only
      have zr := E.size
      have lg_12 := G_12.len
      have hml := filt_len hy
      refine run_seq ?_
      refine run_region ?_
      refine ov (xlss rfl rfl _ rfl) rfl rfl rfl ?_
      refine ods (fun c31 => ?_) (fun c31 => ?_)
      ·
        refine ops_nil ?_
        refine run_seq ?_
        refine run_cond_t rfl ?_
        refine run_skip ?_
        refine run_seq ?_
        refine run_block ?_
        refine run_seq ?_
        refine run_region ?_
        have h32 := (H.ext E).at (i := k) (by omega)
        refine ov (xindexN (i := k) Try.underlying25 Try.sizeOf71 rfl rfl rfl ((H.ext E).p (i := k) (by omega)) (by have := (H.ext E).len; omega)) rfl rfl rfl ?_
        refine ov (v := .agg #[.string xs[k].Name, .int .i64 xs[k].Level, .slice (hd k).p (hd k).n (hd k).c]) (xloadN Try.isAgg71 Try.sizeOf71 rfl (h32) rfl) rfl rfl rfl ?_
        refine oalloc Try.zeroValue71 rfl rfl ?_
        intro b4 w4 e4 hb4 hz4 O4
        have E := E.trans e4
        replace G_12 := G_12.ext e4
        replace O4 : Own w4 b4 [.string ⟨#[]⟩, .int .i64 0, .slice none 0 0] 71 := O4
        refine ostoreN (vs := _) Try.sizeOf71 rfl rfl O4 rfl (by simp) (by simp [Value.oneCell']) rfl ?_
        intro w5 on5 O5
        have hz5 := on5.size
        have E := on5.ext E (by omega)
        replace G_12 := G_12.only on5 (by omega)
        replace O5 : Own w5 b4 [.string xs[k].Name, .int .i64 xs[k].Level, .slice (hd k).p (hd k).n (hd k).c] 71 := O5
        refine ops_nil ?_
        refine run_seq ?_
        refine run_draw (by kernel_rfl) (by kernel_rfl) ?_
        refine qv (v := .agg #[.string xs[k].Name, .int .i64 xs[k].Level, .slice (hd k).p (hd k).n (hd k).c]) (fun w' x_ => xloadN Try.isAgg71 Try.sizeOf71 rfl ((O5.cells).ext x_) rfl) rfl rfl rfl ?_
        refine qv (fun w' x_ => xmove rfl) rfl rfl rfl ?_
        refine qv (fun w' x_ => xmove rfl) rfl rfl rfl ?_
        have h37 := (K.ext E).at (i := (fileOf ys file).toNat) (by omega)
        refine qv (fun w' x_ => xindexN (i := (fileOf ys file).toNat) Try.underlying32 Try.sizeOf54 rfl rfl (by omega) ((K.ext E).p (i := (fileOf ys file).toNat) (by omega)) (by have := (K.ext E).len; omega)) rfl rfl rfl ?_
        refine qv (v := .agg #[.string ys[(fileOf ys file).toNat].Code, .int .i64 ys[(fileOf ys file).toNat].Level, .slice (he_ (fileOf ys file).toNat).p (he_ (fileOf ys file).toNat).n (he_ (fileOf ys file).toNat).c, .int .i64 ys[(fileOf ys file).toNat].Until]) (fun w' x_ => xloadN Try.isAgg54 Try.sizeOf54 rfl ((h37).ext x_) rfl) rfl rfl rfl ?_
        refine qv (fun w' x_ => xmove rfl) rfl rfl rfl ?_
        have t40 := fun (w' : World) (x_ : Ext w5 w') => Ret.q (w := w') (maySee_ok _ _ _ _ (day) _ (((show Sl strc 1 _ _ _ _ xs[k].Groups from (H.inner (i := k) (by omega)).ext E)).ext x_) (((show Sl strc 1 _ _ _ _ ys[(fileOf ys file).toNat].Groups from (K.inner (i := (fileOf ys file).toNat) (by omega)).ext E)).ext x_))
        refine qc (fun w' => xcall Try.call79 rfl) rfl rfl rfl t40 ?_
        clear t40
        refine qbs (fun c40 => ?_) (fun c40 => ?_)
        ·
          refine q_nil ?_
          intro w6 e6
          have z6 := e6.size
          have E := E.trans e6
          replace G_12 := G_12.ext e6
          replace O5 := O5.ext e6
          refine run_cond_t rfl ?_
          refine run_region ?_
          refine ov (xmove rfl) rfl rfl rfl ?_
          refine ov (xfieldAddr fo71f0 rfl) rfl rfl rfl ?_
          refine ov (v := .string xs[k].Name) (xload1 Try.isAgg9 rfl (O5.cells) rfl) rfl rfl rfl ?_
          refine obuild (cs := [.string xs[k].Name]) (sz := 1) Try.underlying49 inf9 rfl rfl (by decide) rfl rfl (by simp [Value.cells]) rfl rfl rfl ?_
          intro b7 w7 e7 hb7 hz7 O7
          have E := E.trans e7
          replace G_12 := G_12.ext e7
          replace O5 := O5.ext e7
          refine oapp (bytes := 16) (nm := (m_12 + 1)) G_12 rfl rfl elem9 (Own.sl1 (y := xs[k].Name) O7) (by intro h; cases h) (by intro y hy; rfl) (by intro y hy u hu; rw [List.mem_singleton] at hy; subst hy; revert u; simp [Value.oneCell', strc]) (by omega) (by omega) (by omega) (by omega) rfl rfl ?_
          intro p8 c8_ w8 m8 G8
          have hz8 := m8.size
          have E := m8.toExt E (by omega)
          try replace O5 := m8.own O5 (by omega)
          try replace O7 := m8.own O7 (by omega)
          refine ov (xassign rfl) rfl rfl rfl ?_
          refine ops_nil ?_
          refine run_inBlock ?_
          refine run_region ?_
          refine ov (xadd rfl rfl (by unfold I64; omega)) rfl rfl rfl ?_
          refine ov (xmove rfl) rfl rfl rfl ?_
          refine ops_nil ?_
          refine run_sub ?_ (hback9 (k + 1, p8, (m_12 + 1), c8_, ys_12 ++ [xs[k].Name], w8) (⟨E, G8.wide (by omega) (by omega), by omega, by omega, by omega, (filt_step (xs := xs) (k := k) (by omega) hy).1 c40⟩) (by first | omega | (dsimp only; omega)))
          exact ⟨rfl, rfl, rfl, rfl, rfl, rfl, rfl, trivial⟩
        ·
          refine q_nil ?_
          intro w6 e6
          have z6 := e6.size
          have E := E.trans e6
          replace G_12 := G_12.ext e6
          replace O5 := O5.ext e6
          refine run_cond_f rfl ?_
          refine run_skip ?_
          refine run_inBlock ?_
          refine run_region ?_
          refine ov (xadd rfl rfl (by unfold I64; omega)) rfl rfl rfl ?_
          refine ov (xmove rfl) rfl rfl rfl ?_
          refine ops_nil ?_
          refine run_sub ?_ (hback9 (k + 1, q_12, m_12, c_12, ys_12, w6) (⟨E, G_12.wide (by omega) (by omega), by omega, by omega, by omega, (filt_step (xs := xs) (k := k) (by omega) hy).2 c40⟩) (by first | omega | (dsimp only; omega)))
          exact ⟨rfl, rfl, rfl, rfl, rfl, rfl, rfl, trivial⟩
      ·
        refine ops_nil ?_
        refine run_seq ?_
        refine run_cond_f rfl ?_
        refine run_exit rfl ?_
        refine run_seq ?_
        refine run_region ?_
        refine ov (xmove rfl) rfl rfl rfl ?_
        refine ov (xassign rfl) rfl rfl rfl ?_
        refine ov (xassign rfl) rfl rfl rfl ?_
        refine ops_nil ?_
        refine run_ret Try.func37 (res2 rfl rfl rfl) ?_
        have he : whoSees xs ys file day = (ys_12, 0) := by unfold whoSees; (repeat' split) <;> first | rfl | (exfalso; omega) | (rw [hy, List.take_of_length_le (by omega), getF_eq (by omega)]) | (exfalso; simp_all; done)
        exact ⟨_, rfl, E, _, _, _, by rw [he], by rw [he]; exact G_12.wide (by omega) (by omega)⟩

set_option maxHeartbeats 1000000 in
theorem sWhoSees_ok (p : Option Addr) (n c : Nat) (xs : List Role) (q : Option Addr) (m d : Nat) (ys : List File) (file : ByteArray) (day : Int) (w : World) (H0 : SnRoleS w p n c xs) (K0 : SnFileS w q m d ys) (hx : ∀ x ∈ xs, x.ok) (hy : ∀ x ∈ ys, x.ok) : Ret Try.prog 38 [.slice p n c, .slice q m d, .string file, .int .i64 day] w (fun v w' => Ext w w' ∧ ∃ q m d, v = .tuple #[.slice q m d, .int .i64 (whoSees xs ys file day).2] ∧ Ow strc 1 9 w' w.heap.size w'.heap.size q m d (whoSees xs ys file day).1) := by
  refine ret_of_run (N := 56) Try.func38 rfl rfl rfl ?_
  obtain ⟨hd, H⟩ := H0
  have hn := H.len
  have hn6 := H.n64
  obtain ⟨he_, K⟩ := K0
  have hm := K.len
  have hm6 := K.n64
  have hfl := fileOf_lt ys file
  have E : Ext w w := Ext.refl w
  refine run_seq ?_
  refine run_region ?_
  refine ov (xassign rfl) rfl rfl rfl ?_
  refine ov (xassign rfl) rfl rfl rfl ?_
  refine ops_nil ?_
  refine run_seq ?_
  refine run_region ?_
  refine ov (xmove rfl) rfl rfl rfl ?_
  refine ov (xmove rfl) rfl rfl rfl ?_
  refine ov (xmove rfl) rfl rfl rfl ?_
  refine oc (xcall Try.call72 rfl) rfl rfl rfl (l24Code_ok _ _ _ _ _ _ _ _ (day) _ (H.ext E).sn (K.ext E).sn (by assumption) (by assumption)) ?_
  rintro _ w1 ⟨rfl, e1⟩
  have z1 := e1.size
  have E := E.trans e1
  refine ov (xassign rfl) rfl rfl rfl ?_
  refine ops_nil ?_
  refine run_seq ?_
  refine run_region ?_
  refine ov (xmove rfl) rfl rfl rfl ?_
  refine ov (xmove rfl) rfl rfl rfl ?_
  refine oc (xcall Try.call67 rfl) rfl rfl rfl (l24File_ok _ _ _ _ (file) _ (K.ext E).sn) ?_
  rintro _ w2 ⟨rfl, e2⟩
  have z2 := e2.size
  have E := E.trans e2
  refine ov (xassign rfl) rfl rfl rfl ?_
  refine ops_nil ?_
  refine run_seq ?_
  refine run_seq ?_
  refine run_region ?_
  refine ov (xmove rfl) rfl rfl rfl ?_
  refine ov (xeql rfl rfl _ rfl) rfl rfl rfl ?_
  refine ods (fun c22 => ?_) (fun c22 => ?_)
  ·
    refine ov (xmove rfl) rfl rfl rfl ?_
    refine ov (xmove rfl) rfl rfl rfl ?_
    refine ov (xlss rfl rfl _ rfl) rfl rfl rfl ?_
    refine ods (fun c25 => ?_) (fun c25 => ?_)
    ·
      refine ov (xpick_t rfl rfl) rfl rfl rfl ?_
      refine ops_nil ?_
      refine run_cond_t rfl ?_
      refine run_region ?_
      refine ov (xassign rfl) rfl rfl rfl ?_
      refine ops_nil ?_
      refine run_seq ?_
      refine run_seq ?_
      refine run_region ?_
      refine ov (xmove rfl) rfl rfl rfl ?_
      refine ov (xneq rfl rfl _ rfl) rfl rfl rfl ?_
      refine ods (fun c28 => ?_) (fun c28 => ?_)
      ·
        refine ops_nil ?_
        refine run_cond_t rfl ?_
        refine run_seq ?_
        refine run_region ?_
        refine ov (xmove rfl) rfl rfl rfl ?_
        refine ov (xassign rfl) rfl rfl rfl ?_
        refine ov (xassign rfl) rfl rfl rfl ?_
        refine ops_nil ?_
        refine run_ret Try.func38 (res2 rfl rfl rfl) ?_
        have he : whoSees xs ys file day = ([], 4) := by unfold whoSees; (repeat' split) <;> first | rfl | (exfalso; omega) | (rw [hy, List.take_of_length_le (by omega), getF_eq (by omega)]) | (exfalso; simp_all; done)
        exact ⟨_, rfl, E, none, 0, 0, by rw [he], by rw [he]; exact Ow.none _ _ _ _ _ _⟩
      · exfalso; omega
    ·
      refine ov (xpick_t rfl rfl) rfl rfl rfl ?_
      refine ops_nil ?_
      refine run_cond_f rfl ?_
      refine run_skip ?_
      refine run_seq ?_
      refine run_seq ?_
      refine run_region ?_
      refine ov (xmove rfl) rfl rfl rfl ?_
      refine ov (xneq rfl rfl _ rfl) rfl rfl rfl ?_
      refine ods (fun c28 => ?_) (fun c28 => ?_)
      ·
        refine ops_nil ?_
        refine run_cond_t rfl ?_
        refine run_seq ?_
        refine run_region ?_
        refine ov (xmove rfl) rfl rfl rfl ?_
        refine ov (xassign rfl) rfl rfl rfl ?_
        refine ov (xassign rfl) rfl rfl rfl ?_
        refine ops_nil ?_
        refine run_ret Try.func38 (res2 rfl rfl rfl) ?_
        have he : whoSees xs ys file day = ([], (sealCode xs ys day)) := by unfold whoSees; (repeat' split) <;> first | rfl | (exfalso; omega) | (rw [hy, List.take_of_length_le (by omega), getF_eq (by omega)]) | (exfalso; simp_all; done)
        exact ⟨_, rfl, E, none, 0, 0, by rw [he], by rw [he]; exact Ow.none _ _ _ _ _ _⟩
      ·
        refine ops_nil ?_
        refine run_cond_f rfl ?_
        refine run_skip ?_
        refine run_seq ?_
        refine run_region ?_
        have hz_ := sealCode_zero (by omega : sealCode xs ys day = 0)
        have hr8_ := areRoles_len hz_.1
        have hf12_ := areFiles_len hz_.2.1
        have hb_ : 0 ≤ fileOf ys file := by omega
        refine obuild (cs := []) (sz := 1) Try.underlying49 inf9 rfl rfl (by decide) rfl rfl (by simp [Value.cells]) rfl rfl rfl ?_
        intro b3 w3 e3 hb3 hz3 O3
        have E := E.trans e3
        have G3 : Ow strc 1 9 w3 b3 (b3 + 1) (some ⟨b3, 0, none⟩) 0 0 ([] : List ByteArray) := Own.ow (by simpa [strc] using O3) rfl (by omega) (Nat.le_refl _) (by omega) (by intro x hx; rfl)
        refine ov (xassign rfl) rfl rfl rfl ?_
        refine ops_nil ?_
        refine run_seq ?_
        refine run_seq ?_
        refine run_region ?_
        refine ov (xassign rfl) rfl rfl rfl ?_
        refine ops_nil ?_
        refine run_block ?_
        refine run_loop (ι := Nat × Option Addr × Nat × Nat × List ByteArray × World) (fun x_ => match x_ with | (k, q_12, m_12, c_12, ys_12, wr) => (Ext w wr) ∧ (Ow strc 1 9 wr b3 wr.heap.size q_12 m_12 c_12 ys_12) ∧ (b3 ≤ wr.heap.size) ∧ (w3.heap.size ≤ wr.heap.size) ∧ (k ≤ n) ∧ (ys_12 = ((xs.take k).filter fun f_ => seeP f_ ys[(fileOf ys file).toNat] day).map (·.Name))) (fun x_ => match x_ with | (k, q_12, m_12, c_12, ys_12, wr) => [(0, .slice p n c), (1, .slice q m d), (3, .int .i64 day), (11, .int .i64 (fileOf ys file)), (12, .slice q_12 m_12 c_12), (13, .int .i64 (k : Int))]) (fun x_ => match x_ with | (k, q_12, m_12, c_12, ys_12, wr) => wr) (fun x_ => match x_ with | (k, q_12, m_12, c_12, ys_12, wr) => n - k) ?_ (0, (some ⟨b3, 0, none⟩), 0, 0, [], w3) (⟨E, G3.wide (by omega) (by omega), by omega, Nat.le_refl _, by omega, by simp⟩) ⟨rfl, rfl, rfl, rfl, rfl, rfl, trivial⟩ rfl
        intro i_ hI_ hback9
        obtain ⟨k, q_12, m_12, c_12, ys_12, wr⟩ := i_
        obtain ⟨E, G_12, lo_12, lz_wr, hk, hy⟩ := hI_
        try dsimp only
        have zr := E.size
        have lg_12 := G_12.len
        have hml := filt_len hy
        refine run_seq ?_
        refine run_seq ?_
        refine run_region ?_
        refine ov (xmove rfl) rfl rfl rfl ?_
        refine ov (xmove rfl) rfl rfl rfl ?_
        refine ov (xlen Try.underlying25 rfl) rfl rfl rfl ?_
        refine ov (xlss rfl rfl _ rfl) rfl rfl rfl ?_
        refine ods (fun c34 => ?_) (fun c34 => ?_)
        ·
          refine ops_nil ?_
          refine run_cond_t rfl ?_
          refine run_skip ?_
          refine run_seq ?_
          refine run_block ?_
          refine run_seq ?_
          refine run_draw (by kernel_rfl) (by kernel_rfl) ?_
          refine qv (fun w' x_ => xmove rfl) rfl rfl rfl ?_
          refine qv (fun w' x_ => xmove rfl) rfl rfl rfl ?_
          have h39 := (H.ext E).at (i := k) (by omega)
          refine qv (fun w' x_ => xindexN (i := k) Try.underlying25 Try.sizeOf71 rfl rfl rfl ((H.ext E).p (i := k) (by omega)) (by have := (H.ext E).len; omega)) rfl rfl rfl ?_
          refine qv (v := .agg #[.string xs[k].Name, .int .i64 xs[k].Level, .slice (hd k).p (hd k).n (hd k).c]) (fun w' x_ => xloadN Try.isAgg71 Try.sizeOf71 rfl ((h39).ext x_) rfl) rfl rfl rfl ?_
          refine qv (fun w' x_ => xmove rfl) rfl rfl rfl ?_
          refine qv (fun w' x_ => xmove rfl) rfl rfl rfl ?_
          have h43 := (K.ext E).at (i := (fileOf ys file).toNat) (by omega)
          refine qv (fun w' x_ => xindexN (i := (fileOf ys file).toNat) Try.underlying32 Try.sizeOf54 rfl rfl (by omega) ((K.ext E).p (i := (fileOf ys file).toNat) (by omega)) (by have := (K.ext E).len; omega)) rfl rfl rfl ?_
          refine qv (v := .agg #[.string ys[(fileOf ys file).toNat].Code, .int .i64 ys[(fileOf ys file).toNat].Level, .slice (he_ (fileOf ys file).toNat).p (he_ (fileOf ys file).toNat).n (he_ (fileOf ys file).toNat).c, .int .i64 ys[(fileOf ys file).toNat].Until]) (fun w' x_ => xloadN Try.isAgg54 Try.sizeOf54 rfl ((h43).ext x_) rfl) rfl rfl rfl ?_
          refine qv (fun w' x_ => xmove rfl) rfl rfl rfl ?_
          have t46 := fun (w' : World) (x_ : Ext wr w') => Ret.q (w := w') (l24Sees_ok _ _ _ _ (day) _ (((show Sl strc 1 _ _ _ _ xs[k].Groups from (H.inner (i := k) (by omega)).ext E)).ext x_) (((show Sl strc 1 _ _ _ _ ys[(fileOf ys file).toNat].Groups from (K.inner (i := (fileOf ys file).toNat) (by omega)).ext E)).ext x_))
          refine qc (fun w' => xcall Try.call77 rfl) rfl rfl rfl t46 ?_
          clear t46
          refine qbs (fun c46 => ?_) (fun c46 => ?_)
          ·
            refine q_nil ?_
            intro w4 e4
            have z4 := e4.size
            have E := E.trans e4
            replace G_12 := G_12.ext e4
            refine run_cond_t rfl ?_
            refine run_region ?_
            refine ov (xmove rfl) rfl rfl rfl ?_
            refine ov (xmove rfl) rfl rfl rfl ?_
            refine ov (xmove rfl) rfl rfl rfl ?_
            have h50 := (H.ext E).at (i := k) (by omega)
            refine ov (xindexN (i := k) Try.underlying25 Try.sizeOf71 rfl rfl rfl ((H.ext E).p (i := k) (by omega)) (by have := (H.ext E).len; omega)) rfl rfl rfl ?_
            refine ov (xfieldAddr fo71f0 rfl) rfl rfl rfl ?_
            refine ov (v := .string xs[k].Name) (xload1 Try.isAgg9 rfl (h50) rfl) rfl rfl rfl ?_
            refine obuild (cs := [.string xs[k].Name]) (sz := 1) Try.underlying49 inf9 rfl rfl (by decide) rfl rfl (by simp [Value.cells]) rfl rfl rfl ?_
            intro b5 w5 e5 hb5 hz5 O5
            have E := E.trans e5
            replace G_12 := G_12.ext e5
            refine oapp (bytes := 16) (nm := (m_12 + 1)) G_12 rfl rfl elem9 (Own.sl1 (y := xs[k].Name) O5) (by intro h; cases h) (by intro y hy; rfl) (by intro y hy u hu; rw [List.mem_singleton] at hy; subst hy; revert u; simp [Value.oneCell', strc]) (by omega) (by omega) (by omega) (by omega) rfl rfl ?_
            intro p6 c6_ w6 m6 G6
            have hz6 := m6.size
            have E := m6.toExt E (by omega)
            try replace O5 := m6.own O5 (by omega)
            refine ov (xassign rfl) rfl rfl rfl ?_
            refine ops_nil ?_
            refine run_inBlock ?_
            refine run_region ?_
            refine ov (xmove rfl) rfl rfl rfl ?_
            refine ov (xadd rfl rfl (by unfold I64; omega)) rfl rfl rfl ?_
            refine ov (xassign rfl) rfl rfl rfl ?_
            refine ops_nil ?_
            refine run_sub ?_ (hback9 (k + 1, p6, (m_12 + 1), c6_, ys_12 ++ [xs[k].Name], w6) (⟨E, G6.wide (by omega) (by omega), by omega, by omega, by omega, (filt_step (xs := xs) (k := k) (by omega) hy).1 c46⟩) (by first | omega | (dsimp only; omega)))
            exact ⟨rfl, rfl, rfl, rfl, rfl, rfl, trivial⟩
          ·
            refine q_nil ?_
            intro w4 e4
            have z4 := e4.size
            have E := E.trans e4
            replace G_12 := G_12.ext e4
            refine run_cond_f rfl ?_
            refine run_skip ?_
            refine run_inBlock ?_
            refine run_region ?_
            refine ov (xmove rfl) rfl rfl rfl ?_
            refine ov (xadd rfl rfl (by unfold I64; omega)) rfl rfl rfl ?_
            refine ov (xassign rfl) rfl rfl rfl ?_
            refine ops_nil ?_
            refine run_sub ?_ (hback9 (k + 1, q_12, m_12, c_12, ys_12, w4) (⟨E, G_12.wide (by omega) (by omega), by omega, by omega, by omega, (filt_step (xs := xs) (k := k) (by omega) hy).2 c46⟩) (by first | omega | (dsimp only; omega)))
            exact ⟨rfl, rfl, rfl, rfl, rfl, rfl, trivial⟩
        ·
          refine ops_nil ?_
          refine run_cond_f rfl ?_
          refine run_exit rfl ?_
          refine run_seq ?_
          refine run_region ?_
          refine ov (xmove rfl) rfl rfl rfl ?_
          refine ov (xassign rfl) rfl rfl rfl ?_
          refine ov (xassign rfl) rfl rfl rfl ?_
          refine ops_nil ?_
          refine run_ret Try.func38 (res2 rfl rfl rfl) ?_
          have he : whoSees xs ys file day = (ys_12, 0) := by unfold whoSees; (repeat' split) <;> first | rfl | (exfalso; omega) | (rw [hy, List.take_of_length_le (by omega), getF_eq (by omega)]) | (exfalso; simp_all; done)
          exact ⟨_, rfl, E, _, _, _, by rw [he], by rw [he]; exact G_12.wide (by omega) (by omega)⟩
  ·
    refine ov (xmove rfl) rfl rfl rfl ?_
    refine og rfl rfl rfl ?_
    refine og rfl rfl rfl ?_
    refine ov (xpick_f rfl rfl) rfl rfl rfl ?_
    refine ops_nil ?_
    refine run_cond_f rfl ?_
    refine run_skip ?_
    refine run_seq ?_
    refine run_seq ?_
    refine run_region ?_
    refine ov (xmove rfl) rfl rfl rfl ?_
    refine ov (xneq rfl rfl _ rfl) rfl rfl rfl ?_
    refine ods (fun c28 => ?_) (fun c28 => ?_)
    ·
      refine ops_nil ?_
      refine run_cond_t rfl ?_
      refine run_seq ?_
      refine run_region ?_
      refine ov (xmove rfl) rfl rfl rfl ?_
      refine ov (xassign rfl) rfl rfl rfl ?_
      refine ov (xassign rfl) rfl rfl rfl ?_
      refine ops_nil ?_
      refine run_ret Try.func38 (res2 rfl rfl rfl) ?_
      have he : whoSees xs ys file day = ([], (sealCode xs ys day)) := by unfold whoSees; (repeat' split) <;> first | rfl | (exfalso; omega) | (rw [hy, List.take_of_length_le (by omega), getF_eq (by omega)]) | (exfalso; simp_all; done)
      exact ⟨_, rfl, E, none, 0, 0, by rw [he], by rw [he]; exact Ow.none _ _ _ _ _ _⟩
    ·
      refine ops_nil ?_
      refine run_cond_f rfl ?_
      refine run_skip ?_
      refine run_seq ?_
      refine run_region ?_
      have hz_ := sealCode_zero (by omega : sealCode xs ys day = 0)
      have hr8_ := areRoles_len hz_.1
      have hf12_ := areFiles_len hz_.2.1
      have hb_ : 0 ≤ fileOf ys file := by omega
      refine obuild (cs := []) (sz := 1) Try.underlying49 inf9 rfl rfl (by decide) rfl rfl (by simp [Value.cells]) rfl rfl rfl ?_
      intro b3 w3 e3 hb3 hz3 O3
      have E := E.trans e3
      have G3 : Ow strc 1 9 w3 b3 (b3 + 1) (some ⟨b3, 0, none⟩) 0 0 ([] : List ByteArray) := Own.ow (by simpa [strc] using O3) rfl (by omega) (Nat.le_refl _) (by omega) (by intro x hx; rfl)
      refine ov (xassign rfl) rfl rfl rfl ?_
      refine ops_nil ?_
      refine run_seq ?_
      refine run_seq ?_
      refine run_region ?_
      refine ov (xassign rfl) rfl rfl rfl ?_
      refine ops_nil ?_
      refine run_block ?_
      refine run_loop (ι := Nat × Option Addr × Nat × Nat × List ByteArray × World) (fun x_ => match x_ with | (k, q_12, m_12, c_12, ys_12, wr) => (Ext w wr) ∧ (Ow strc 1 9 wr b3 wr.heap.size q_12 m_12 c_12 ys_12) ∧ (b3 ≤ wr.heap.size) ∧ (w3.heap.size ≤ wr.heap.size) ∧ (k ≤ n) ∧ (ys_12 = ((xs.take k).filter fun f_ => seeP f_ ys[(fileOf ys file).toNat] day).map (·.Name))) (fun x_ => match x_ with | (k, q_12, m_12, c_12, ys_12, wr) => [(0, .slice p n c), (1, .slice q m d), (3, .int .i64 day), (11, .int .i64 (fileOf ys file)), (12, .slice q_12 m_12 c_12), (13, .int .i64 (k : Int))]) (fun x_ => match x_ with | (k, q_12, m_12, c_12, ys_12, wr) => wr) (fun x_ => match x_ with | (k, q_12, m_12, c_12, ys_12, wr) => n - k) ?_ (0, (some ⟨b3, 0, none⟩), 0, 0, [], w3) (⟨E, G3.wide (by omega) (by omega), by omega, Nat.le_refl _, by omega, by simp⟩) ⟨rfl, rfl, rfl, rfl, rfl, rfl, trivial⟩ rfl
      intro i_ hI_ hback9
      obtain ⟨k, q_12, m_12, c_12, ys_12, wr⟩ := i_
      obtain ⟨E, G_12, lo_12, lz_wr, hk, hy⟩ := hI_
      try dsimp only
      have zr := E.size
      have lg_12 := G_12.len
      have hml := filt_len hy
      refine run_seq ?_
      refine run_seq ?_
      refine run_region ?_
      refine ov (xmove rfl) rfl rfl rfl ?_
      refine ov (xmove rfl) rfl rfl rfl ?_
      refine ov (xlen Try.underlying25 rfl) rfl rfl rfl ?_
      refine ov (xlss rfl rfl _ rfl) rfl rfl rfl ?_
      refine ods (fun c34 => ?_) (fun c34 => ?_)
      ·
        refine ops_nil ?_
        refine run_cond_t rfl ?_
        refine run_skip ?_
        refine run_seq ?_
        refine run_block ?_
        refine run_seq ?_
        refine run_draw (by kernel_rfl) (by kernel_rfl) ?_
        refine qv (fun w' x_ => xmove rfl) rfl rfl rfl ?_
        refine qv (fun w' x_ => xmove rfl) rfl rfl rfl ?_
        have h39 := (H.ext E).at (i := k) (by omega)
        refine qv (fun w' x_ => xindexN (i := k) Try.underlying25 Try.sizeOf71 rfl rfl rfl ((H.ext E).p (i := k) (by omega)) (by have := (H.ext E).len; omega)) rfl rfl rfl ?_
        refine qv (v := .agg #[.string xs[k].Name, .int .i64 xs[k].Level, .slice (hd k).p (hd k).n (hd k).c]) (fun w' x_ => xloadN Try.isAgg71 Try.sizeOf71 rfl ((h39).ext x_) rfl) rfl rfl rfl ?_
        refine qv (fun w' x_ => xmove rfl) rfl rfl rfl ?_
        refine qv (fun w' x_ => xmove rfl) rfl rfl rfl ?_
        have h43 := (K.ext E).at (i := (fileOf ys file).toNat) (by omega)
        refine qv (fun w' x_ => xindexN (i := (fileOf ys file).toNat) Try.underlying32 Try.sizeOf54 rfl rfl (by omega) ((K.ext E).p (i := (fileOf ys file).toNat) (by omega)) (by have := (K.ext E).len; omega)) rfl rfl rfl ?_
        refine qv (v := .agg #[.string ys[(fileOf ys file).toNat].Code, .int .i64 ys[(fileOf ys file).toNat].Level, .slice (he_ (fileOf ys file).toNat).p (he_ (fileOf ys file).toNat).n (he_ (fileOf ys file).toNat).c, .int .i64 ys[(fileOf ys file).toNat].Until]) (fun w' x_ => xloadN Try.isAgg54 Try.sizeOf54 rfl ((h43).ext x_) rfl) rfl rfl rfl ?_
        refine qv (fun w' x_ => xmove rfl) rfl rfl rfl ?_
        have t46 := fun (w' : World) (x_ : Ext wr w') => Ret.q (w := w') (l24Sees_ok _ _ _ _ (day) _ (((show Sl strc 1 _ _ _ _ xs[k].Groups from (H.inner (i := k) (by omega)).ext E)).ext x_) (((show Sl strc 1 _ _ _ _ ys[(fileOf ys file).toNat].Groups from (K.inner (i := (fileOf ys file).toNat) (by omega)).ext E)).ext x_))
        refine qc (fun w' => xcall Try.call77 rfl) rfl rfl rfl t46 ?_
        clear t46
        refine qbs (fun c46 => ?_) (fun c46 => ?_)
        ·
          refine q_nil ?_
          intro w4 e4
          have z4 := e4.size
          have E := E.trans e4
          replace G_12 := G_12.ext e4
          refine run_cond_t rfl ?_
          refine run_region ?_
          refine ov (xmove rfl) rfl rfl rfl ?_
          refine ov (xmove rfl) rfl rfl rfl ?_
          refine ov (xmove rfl) rfl rfl rfl ?_
          have h50 := (H.ext E).at (i := k) (by omega)
          refine ov (xindexN (i := k) Try.underlying25 Try.sizeOf71 rfl rfl rfl ((H.ext E).p (i := k) (by omega)) (by have := (H.ext E).len; omega)) rfl rfl rfl ?_
          refine ov (xfieldAddr fo71f0 rfl) rfl rfl rfl ?_
          refine ov (v := .string xs[k].Name) (xload1 Try.isAgg9 rfl (h50) rfl) rfl rfl rfl ?_
          refine obuild (cs := [.string xs[k].Name]) (sz := 1) Try.underlying49 inf9 rfl rfl (by decide) rfl rfl (by simp [Value.cells]) rfl rfl rfl ?_
          intro b5 w5 e5 hb5 hz5 O5
          have E := E.trans e5
          replace G_12 := G_12.ext e5
          refine oapp (bytes := 16) (nm := (m_12 + 1)) G_12 rfl rfl elem9 (Own.sl1 (y := xs[k].Name) O5) (by intro h; cases h) (by intro y hy; rfl) (by intro y hy u hu; rw [List.mem_singleton] at hy; subst hy; revert u; simp [Value.oneCell', strc]) (by omega) (by omega) (by omega) (by omega) rfl rfl ?_
          intro p6 c6_ w6 m6 G6
          have hz6 := m6.size
          have E := m6.toExt E (by omega)
          try replace O5 := m6.own O5 (by omega)
          refine ov (xassign rfl) rfl rfl rfl ?_
          refine ops_nil ?_
          refine run_inBlock ?_
          refine run_region ?_
          refine ov (xmove rfl) rfl rfl rfl ?_
          refine ov (xadd rfl rfl (by unfold I64; omega)) rfl rfl rfl ?_
          refine ov (xassign rfl) rfl rfl rfl ?_
          refine ops_nil ?_
          refine run_sub ?_ (hback9 (k + 1, p6, (m_12 + 1), c6_, ys_12 ++ [xs[k].Name], w6) (⟨E, G6.wide (by omega) (by omega), by omega, by omega, by omega, (filt_step (xs := xs) (k := k) (by omega) hy).1 c46⟩) (by first | omega | (dsimp only; omega)))
          exact ⟨rfl, rfl, rfl, rfl, rfl, rfl, trivial⟩
        ·
          refine q_nil ?_
          intro w4 e4
          have z4 := e4.size
          have E := E.trans e4
          replace G_12 := G_12.ext e4
          refine run_cond_f rfl ?_
          refine run_skip ?_
          refine run_inBlock ?_
          refine run_region ?_
          refine ov (xmove rfl) rfl rfl rfl ?_
          refine ov (xadd rfl rfl (by unfold I64; omega)) rfl rfl rfl ?_
          refine ov (xassign rfl) rfl rfl rfl ?_
          refine ops_nil ?_
          refine run_sub ?_ (hback9 (k + 1, q_12, m_12, c_12, ys_12, w4) (⟨E, G_12.wide (by omega) (by omega), by omega, by omega, by omega, (filt_step (xs := xs) (k := k) (by omega) hy).2 c46⟩) (by first | omega | (dsimp only; omega)))
          exact ⟨rfl, rfl, rfl, rfl, rfl, rfl, trivial⟩
      ·
        refine ops_nil ?_
        refine run_cond_f rfl ?_
        refine run_exit rfl ?_
        refine run_seq ?_
        refine run_region ?_
        refine ov (xmove rfl) rfl rfl rfl ?_
        refine ov (xassign rfl) rfl rfl rfl ?_
        refine ov (xassign rfl) rfl rfl rfl ?_
        refine ops_nil ?_
        refine run_ret Try.func38 (res2 rfl rfl rfl) ?_
        have he : whoSees xs ys file day = (ys_12, 0) := by unfold whoSees; (repeat' split) <;> first | rfl | (exfalso; omega) | (rw [hy, List.take_of_length_le (by omega), getF_eq (by omega)]) | (exfalso; simp_all; done)
        exact ⟨_, rfl, E, _, _, _, by rw [he], by rw [he]; exact G_12.wide (by omega) (by omega)⟩
end Go.Proofs.Ytbihpggbabmebaa
