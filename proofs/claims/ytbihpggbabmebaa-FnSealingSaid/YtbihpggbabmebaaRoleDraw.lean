/-
  Draws of roles and files. No condition beyond those written in each theorem.
-/
import Derived.Test.YtbihpggbabmebaaDraw
import Derived.Test.YtbihpggbabmebaaSeal
import Derived.Test.YtbihpggbabmebaaRg2
import Derived.Test.YtbihpggbabmebaaNestClose
namespace Go.Proofs.Ytbihpggbabmebaa
open Go.RowKit
set_option linter.unusedVariables false
set_option linter.unusedSimpArgs false
set_option linter.unusedSectionVars false
set_option maxRecDepth 4000

theorem ok_app2 {α : Type} {q : α → Prop} {xs : List α} {y : α} (h : ∀ x ∈ xs, q x) (hy : q y) : ∀ x ∈ xs ++ [y], q x := fun x m => by
  rcases List.mem_append.1 m with m | m
  · exact h x m
  · rw [List.mem_singleton] at m; subst m; exact hy
theorem ext_size2 (s : ByteArray) (a b : Nat) : (s.extract a b).size ≤ b - a := by rw [ByteArray.size_extract]; omega
theorem Ow.takeO {α : Type} {enc : α → List Value} {sz lo hi k : Nat} {T : TypeId} {w : World} {p : Option Addr} {n c : Nat} {xs : List α} (h : Ow enc sz T w lo hi p n c xs) (hk : k ≤ n) : Ow enc sz T w lo hi p k c (xs.take k) := by
  have hl := h.len; have hc := h.cap
  refine ⟨by rw [List.length_take]; omega, by omega, h.big, ?_, fun x m => h.esz x (List.mem_of_mem_take m)⟩
  rcases h.row with h0 | ⟨b, s, h1, h2, h3, h4, h5⟩
  · exact .inl h0
  · refine .inr ⟨b, ((xs.drop k).map enc).flatten ++ s, h1, h2, h3, ?_, ?_⟩
    · have e : ((xs.take k).map enc).flatten ++ (((xs.drop k).map enc).flatten ++ s) = (xs.map enc).flatten ++ s := by
        rw [← List.append_assoc, ← List.flatten_append, ← List.map_append, List.take_append_drop]
      rw [e]; exact h4
    · have e2 : (((xs.drop k).map enc).flatten).length = (n - k) * sz := by
        rw [List.length_flatten, List.map_map]
        have : (xs.drop k).map (List.length ∘ enc) = List.replicate (n - k) sz := by
          rw [List.eq_replicate_iff]
          refine ⟨by rw [List.length_map, List.length_drop]; omega, fun y m => ?_⟩
          obtain ⟨x, hx, rfl⟩ := List.mem_map.1 m
          exact h.esz x (List.mem_of_mem_drop hx)
        rw [this]; simp
      rw [List.length_append, e2, h5, ← Nat.add_mul]
      congr 1; omega

set_option maxHeartbeats 2000000 in
theorem l24DrawGroups_ok (b cb : Nat) (w : World) (S : Src w b cb) : Ret Try.prog 102 [.pointer (some ⟨b, 0, none⟩)] w (fun v w' => ∃ (xs : List ByteArray) (q : Option Addr) (m d : Nat), v = .slice q m d ∧ (∀ x ∈ xs, x.size ≤ 100) ∧ m ≤ 7 ∧ Ow strc 1 9 w' w.heap.size w'.heap.size q m d xs ∧ Mk b (b + 1) w w' ∧ Src w' b cb) := by
  refine ret_of_run (N := 37) Try.func102 rfl rfl rfl ?_
  have hbl := S.lt
  have hcb := S.cb
  have E : Mk b (b + 1) w w := Mk.refl _ _ _
  refine run_seq ?_
  refine run_region ?_
  refine ov (xassign rfl) rfl rfl rfl ?_
  refine ops_nil ?_
  refine run_seq ?_
  refine run_region ?_
  refine obuild (cs := []) (sz := 1) Try.underlying49 inf9 rfl rfl (by decide) rfl rfl (by simp [Value.cells]) rfl rfl rfl ?_
  intro b1 w1 e1 hb1 hz1 O1
  have E := E.trans (Mk.ofExt e1)
  replace S := S.ext e1
  have G1 : Ow strc 1 9 w1 b1 (b1 + 1) (some ⟨b1, 0, none⟩) 0 0 ([] : List ByteArray) := Own.ow (by simpa [strc] using O1) rfl (by omega) (Nat.le_refl _) (by omega) (by intro x hx; rfl)
  refine ov (xassign rfl) rfl rfl rfl ?_
  refine ops_nil ?_
  refine run_seq ?_
  refine run_region ?_
  refine obuild (cs := [.string ⟨#[99, 104, 105, 108, 100]⟩, .string ⟨#[112, 111, 108, 105, 99, 101]⟩, .string ⟨#[119, 105, 116, 110, 101, 115, 115]⟩]) (sz := 1) Try.underlying49 inf9 rfl rfl (by decide) rfl rfl (by simp [Value.cells]) rfl rfl rfl ?_
  intro b2 w2 e2 hb2 hz2 O2
  have E := E.trans (Mk.ofExt e2)
  replace S := S.ext e2
  replace G1 := G1.ext e2
  have G2 : Ow strc 1 9 w2 b2 (b2 + 1) (some ⟨b2, 0, none⟩) 3 3 ([⟨#[99, 104, 105, 108, 100]⟩, ⟨#[112, 111, 108, 105, 99, 101]⟩, ⟨#[119, 105, 116, 110, 101, 115, 115]⟩] : List ByteArray) := Own.ow (by simpa [strc] using O2) rfl (by omega) (Nat.le_refl _) (by omega) (by intro x hx; rfl)
  refine ov (xassign rfl) rfl rfl rfl ?_
  refine ops_nil ?_
  refine run_seq ?_
  refine run_seq ?_
  refine run_region ?_
  refine ov (xassign rfl) rfl rfl rfl ?_
  refine ops_nil ?_
  refine run_block ?_
  refine run_loop (ι := Nat × Option Addr × Nat × Nat × List ByteArray × World) (fun x_ => match x_ with | (k, q_3, m_3, c_3, ys_3, wr) => (Mk b (b + 1) w wr) ∧ (Src wr b cb) ∧ (Ow strc 1 9 wr b2 (b2 + 1) (some ⟨b2, 0, none⟩) 3 3 ([⟨#[99, 104, 105, 108, 100]⟩, ⟨#[112, 111, 108, 105, 99, 101]⟩, ⟨#[119, 105, 116, 110, 101, 115, 115]⟩] : List ByteArray)) ∧ (Ow strc 1 9 wr b1 wr.heap.size q_3 m_3 c_3 ys_3) ∧ (b1 ≤ wr.heap.size) ∧ (w2.heap.size ≤ wr.heap.size) ∧ (k ≤ 3) ∧ (m_3 ≤ k) ∧ (∀ x ∈ ys_3, x.size ≤ 100) ∧ (pb q_3 ≠ b2)) (fun x_ => match x_ with | (k, q_3, m_3, c_3, ys_3, wr) => [(0, .pointer (some ⟨b, 0, none⟩)), (3, .slice q_3 m_3 c_3), (4, .slice (some ⟨b2, 0, none⟩) 3 3), (5, .int .i64 (k : Int))]) (fun x_ => match x_ with | (k, q_3, m_3, c_3, ys_3, wr) => wr) (fun x_ => match x_ with | (k, q_3, m_3, c_3, ys_3, wr) => 3 - k) ?_ (0, (some ⟨b1, 0, none⟩), 0, 0, [], w2) (⟨E, S, G2, G1.wide (by omega) (by omega), by omega, Nat.le_refl _, by omega, Nat.le_refl _, (by intro x hx; cases hx), by simp only [pb, Option.getD_some]; omega⟩) ⟨rfl, rfl, rfl, rfl, trivial⟩ rfl
  intro i_ hI_ hback4
  obtain ⟨k, q_3, m_3, c_3, ys_3, wr⟩ := i_
  obtain ⟨E, S, G2, G_3, lo_3, lz_wr, hk, hm3, hall, hsep⟩ := hI_
  try dsimp only
  have zr := E.size
  have lg_3 := G_3.len
  refine run_seq ?_
  refine run_seq ?_
  refine run_region ?_
  refine ov (xmove rfl) rfl rfl rfl ?_
  refine ov (xmove rfl) rfl rfl rfl ?_
  refine ov (xlen Try.underlying49 rfl) rfl rfl rfl ?_
  refine ov (xlss rfl rfl _ rfl) rfl rfl rfl ?_
  refine ods (fun c11 => ?_) (fun c11 => ?_)
  ·
    refine ops_nil ?_
    refine run_cond_t rfl ?_
    refine run_skip ?_
    refine run_seq ?_
    refine run_block ?_
    refine run_seq ?_
    refine run_region ?_
    refine ov (xmove rfl) rfl rfl rfl ?_
    refine oc (xcall Try.call86 rfl) rfl rfl rfl (l01Next_ok b cb (3) _ S) ?_
    rintro _ w3 ⟨r15_0, rfl, h15_0, h15_1, m3, S3⟩
    have z3 := m3.size
    have E := E.trans m3
    replace G_3 := G_3.off m3 (by omega)
    replace G2 := G2.off m3 (by omega)
    replace S := S3
    refine ov (xeql rfl rfl _ rfl) rfl rfl rfl ?_
    refine ods (fun c16 => ?_) (fun c16 => ?_)
    ·
      refine ops_nil ?_
      refine run_cond_t rfl ?_
      refine run_region ?_
      refine ov (xmove rfl) rfl rfl rfl ?_
      refine ov (xmove rfl) rfl rfl rfl ?_
      refine ov (xmove rfl) rfl rfl rfl ?_
      have h20 := (G2.sl).at (i := k) (by show k < 3; omega)
      refine ov (xindexN (i := k) Try.underlying49 Try.sizeOf9 rfl rfl (by omega) ((G2.sl).p (i := k) (by show k < 3; omega)) (by have := (G2.sl).len; omega)) rfl rfl rfl ?_
      refine ov (v := .string (([⟨#[99, 104, 105, 108, 100]⟩, ⟨#[112, 111, 108, 105, 99, 101]⟩, ⟨#[119, 105, 116, 110, 101, 115, 115]⟩] : List ByteArray)[k]'(by show k < 3; omega))) (xloadz Try.isAgg9 rfl (h20) rfl) rfl rfl rfl ?_
      refine obuild (cs := [.string (([⟨#[99, 104, 105, 108, 100]⟩, ⟨#[112, 111, 108, 105, 99, 101]⟩, ⟨#[119, 105, 116, 110, 101, 115, 115]⟩] : List ByteArray)[k]'(by show k < 3; omega))]) (sz := 1) Try.underlying49 inf9 rfl rfl (by decide) rfl rfl (by simp [Value.cells]) rfl rfl rfl ?_
      intro b4 w4 e4 hb4 hz4 O4
      have E := E.trans (Mk.ofExt e4)
      replace G_3 := G_3.ext e4
      replace S := S.ext e4
      replace G2 := G2.ext e4
      refine oapp2 (bytes := 16) (nm := (m_3 + 1)) G_3 rfl rfl elem9 (Own.sl1 (y := ((([⟨#[99, 104, 105, 108, 100]⟩, ⟨#[112, 111, 108, 105, 99, 101]⟩, ⟨#[119, 105, 116, 110, 101, 115, 115]⟩] : List ByteArray)[k]'(by show k < 3; omega)))) O4) (by intro h; cases h) (by intro y hy; rfl) (by intro y hy u hu; rw [List.mem_singleton] at hy; subst hy; revert u; simp [Value.oneCell', strc]) (by omega) (by omega) (by omega) (by omega) rfl rfl ?_
      intro p5 c5_ w5 m5 k5 hat23 G5
      have hh5 := hend_le q_3
      have hz5 := m5.size
      have E := E.young m5 (by omega)
      replace S := (by first | exact S.off m5 (by omega) | exact S.off k5 (by omega))
      replace G2 := (by first | exact G2.off m5 (by omega) | exact G2.off k5 (by omega))
      try replace O4 := m5.own O4 (by omega)
      refine ov (xassign rfl) rfl rfl rfl ?_
      refine ops_nil ?_
      refine run_inBlock ?_
      refine run_region ?_
      refine ov (xmove rfl) rfl rfl rfl ?_
      refine ov (xadd rfl rfl (by unfold I64; omega)) rfl rfl rfl ?_
      refine ov (xassign rfl) rfl rfl rfl ?_
      refine ops_nil ?_
      refine run_sub ?_ (hback4 (k + 1, p5, (m_3 + 1), c5_, _, w5) (⟨E, S, G2, G5.wide (by omega) (by omega), by omega, by omega, by omega, by omega, ok_app2 hall ((by decide : ∀ x ∈ ([⟨#[99, 104, 105, 108, 100]⟩, ⟨#[112, 111, 108, 105, 99, 101]⟩, ⟨#[119, 105, 116, 110, 101, 115, 115]⟩] : List ByteArray), x.size ≤ 100) _ (List.getElem_mem _)), hat23.elim (fun h => by rw [h]; exact hsep) (fun h => by omega)⟩) (by first | omega | (dsimp only; omega)))
      exact ⟨rfl, rfl, rfl, rfl, trivial⟩
    ·
      refine ops_nil ?_
      refine run_cond_f rfl ?_
      refine run_skip ?_
      refine run_inBlock ?_
      refine run_region ?_
      refine ov (xmove rfl) rfl rfl rfl ?_
      refine ov (xadd rfl rfl (by unfold I64; omega)) rfl rfl rfl ?_
      refine ov (xassign rfl) rfl rfl rfl ?_
      refine ops_nil ?_
      refine run_sub ?_ (hback4 (k + 1, q_3, m_3, c_3, ys_3, w3) (⟨E, S, G2, G_3.wide (by omega) (by omega), by omega, by omega, by omega, by omega, hall, hsep⟩) (by first | omega | (dsimp only; omega)))
      exact ⟨rfl, rfl, rfl, rfl, trivial⟩
  ·
    refine ops_nil ?_
    refine run_cond_f rfl ?_
    refine run_exit rfl ?_
    refine run_seq ?_
    refine run_seq ?_
    refine run_region ?_
    refine ov (xmove rfl) rfl rfl rfl ?_
    refine oc (xcall Try.call86 rfl) rfl rfl rfl (l01Next_ok b cb (60) _ S) ?_
    rintro _ w3 ⟨r25_0, rfl, h25_0, h25_1, m3, S3⟩
    have z3 := m3.size
    have E := E.trans m3
    replace G_3 := G_3.off m3 (by omega)
    replace G2 := G2.off m3 (by omega)
    replace S := S3
    refine ops_nil ?_
    refine run_block ?_
    refine run_seq ?_
    refine run_region ?_
    refine ov (xeql rfl rfl _ rfl) rfl rfl rfl ?_
    refine ods (fun c27 => ?_) (fun c27 => ?_)
    ·
      refine ov (xassign rfl) rfl rfl rfl ?_
      refine ops_nil ?_
      refine run_cond_t rfl ?_
      refine run_seq ?_
      refine run_region ?_
      refine obuild (cs := [.string ⟨#[112, 111, 108, 105, 99, 101]⟩, .string ⟨#[99, 104, 105, 108, 100]⟩]) (sz := 1) Try.underlying49 inf9 rfl rfl (by decide) rfl rfl (by simp [Value.cells]) rfl rfl rfl ?_
      intro b4 w4 e4 hb4 hz4 O4
      have E := E.trans (Mk.ofExt e4)
      replace G_3 := G_3.ext e4
      replace S := S.ext e4
      replace G2 := G2.ext e4
      have G4 : Ow strc 1 9 w4 b4 (b4 + 1) (some ⟨b4, 0, none⟩) 2 2 ([⟨#[112, 111, 108, 105, 99, 101]⟩, ⟨#[99, 104, 105, 108, 100]⟩] : List ByteArray) := Own.ow (by simpa [strc] using O4) rfl (by omega) (Nat.le_refl _) (by omega) (by intro x hx; rfl)
      refine ov (xassign rfl) rfl rfl rfl ?_
      refine ops_nil ?_
      refine run_ret Try.func102 (res1 rfl rfl) ?_
      exact ⟨_, rfl, _, _, _, _, rfl, (by decide : ∀ x ∈ ([⟨#[112, 111, 108, 105, 99, 101]⟩, ⟨#[99, 104, 105, 108, 100]⟩] : List ByteArray), x.size ≤ 100), by omega, G4.wide (by omega) (by omega), E, S⟩
    ·
      refine ov (xassign rfl) rfl rfl rfl ?_
      refine ops_nil ?_
      refine run_cond_f rfl ?_
      refine run_seq ?_
      refine run_region ?_
      refine ov (xeql rfl rfl _ rfl) rfl rfl rfl ?_
      refine ods (fun c30 => ?_) (fun c30 => ?_)
      ·
        refine ov (xassign rfl) rfl rfl rfl ?_
        refine ops_nil ?_
        refine run_cond_t rfl ?_
        refine run_seq ?_
        refine run_region ?_
        refine obuild (cs := [.string ⟨#[97]⟩, .string ⟨#[98]⟩, .string ⟨#[99]⟩, .string ⟨#[100]⟩, .string ⟨#[101]⟩, .string ⟨#[102]⟩, .string ⟨#[103]⟩]) (sz := 1) Try.underlying49 inf9 rfl rfl (by decide) rfl rfl (by simp [Value.cells]) rfl rfl rfl ?_
        intro b4 w4 e4 hb4 hz4 O4
        have E := E.trans (Mk.ofExt e4)
        replace G_3 := G_3.ext e4
        replace S := S.ext e4
        replace G2 := G2.ext e4
        have G4 : Ow strc 1 9 w4 b4 (b4 + 1) (some ⟨b4, 0, none⟩) 7 7 ([⟨#[97]⟩, ⟨#[98]⟩, ⟨#[99]⟩, ⟨#[100]⟩, ⟨#[101]⟩, ⟨#[102]⟩, ⟨#[103]⟩] : List ByteArray) := Own.ow (by simpa [strc] using O4) rfl (by omega) (Nat.le_refl _) (by omega) (by intro x hx; rfl)
        refine ov (xmove rfl) rfl rfl rfl ?_
        refine oc (xcall Try.call86 rfl) rfl rfl rfl (l01Next_ok b cb (2) _ S) ?_
        rintro _ w5 ⟨r33_0, rfl, h33_0, h33_1, m5, S5⟩
        have z5 := m5.size
        have E := E.trans m5
        replace G_3 := G_3.off m5 (by omega)
        replace G2 := G2.off m5 (by omega)
        replace G4 := G4.off m5 (by omega)
        replace S := S5
        refine ov (xadd rfl rfl (by unfold I64; omega)) rfl rfl rfl ?_
        refine ov (xslice_h (k := (6 + r33_0).toNat) Try.underlying49 Try.sizeOf9 rfl rfl (by omega) (by have := (G4.sl).cap; omega)) rfl rfl rfl ?_
        refine ov (xassign rfl) rfl rfl rfl ?_
        refine ops_nil ?_
        refine run_ret Try.func102 (res1 rfl rfl) ?_
        exact ⟨_, rfl, _, _, _, _, rfl, fun x m => (by decide : ∀ x ∈ ([⟨#[97]⟩, ⟨#[98]⟩, ⟨#[99]⟩, ⟨#[100]⟩, ⟨#[101]⟩, ⟨#[102]⟩, ⟨#[103]⟩] : List ByteArray), x.size ≤ 100) x (List.mem_of_mem_take m), by omega, (G4.takeO (k := (6 + r33_0).toNat) (by omega)).wide (by omega) (by omega), E, S⟩
      ·
        refine ov (xassign rfl) rfl rfl rfl ?_
        refine ops_nil ?_
        refine run_cond_f rfl ?_
        refine run_skip ?_
        refine run_inBlock ?_
        refine run_seq ?_
        refine run_region ?_
        refine ov (xmove rfl) rfl rfl rfl ?_
        refine ov (xassign rfl) rfl rfl rfl ?_
        refine ops_nil ?_
        refine run_ret Try.func102 (res1 rfl rfl) ?_
        exact ⟨_, rfl, _, _, _, _, rfl, hall, by omega, G_3.wide (by omega) (by omega), E, S⟩

set_option maxHeartbeats 4000000 in
theorem l24Roles_ok (b cb : Nat) (w : World) (S : Src w b cb) : Ret Try.prog 87 [.pointer (some ⟨b, 0, none⟩)] w (fun v w' => ∃ (xs : List Role) (q : Option Addr) (m d : Nat), v = .slice q m d ∧ (∀ x ∈ xs, x.ok) ∧ m ≤ 10 ∧ OnRoleS w' w.heap.size w'.heap.size q m d xs ∧ Mk b (b + 1) w w' ∧ Src w' b cb) := by
  refine ret_of_run (N := 65) Try.func87 rfl rfl rfl ?_
  have hbl := S.lt
  have hcb := S.cb
  have E : Mk b (b + 1) w w := Mk.refl _ _ _
  refine run_seq ?_
  refine run_region ?_
  refine ov (xassign rfl) rfl rfl rfl ?_
  refine ops_nil ?_
  refine run_seq ?_
  refine run_region ?_
  refine obuild (cs := [.string ⟨#[106, 117, 100, 103, 101]⟩, .string ⟨#[99, 108, 101, 114, 107]⟩, .string ⟨#[99, 111, 117, 110, 115, 101, 108]⟩, .string ⟨#[106, 117, 114, 111, 114]⟩, .string ⟨#[112, 114, 101, 115, 115]⟩]) (sz := 1) Try.underlying49 inf9 rfl rfl (by decide) rfl rfl (by simp [Value.cells]) rfl rfl rfl ?_
  intro b1 w1 e1 hb1 hz1 O1
  have E := E.trans (Mk.ofExt e1)
  replace S := S.ext e1
  have G1 : Ow strc 1 9 w1 b1 (b1 + 1) (some ⟨b1, 0, none⟩) 5 5 ([⟨#[106, 117, 100, 103, 101]⟩, ⟨#[99, 108, 101, 114, 107]⟩, ⟨#[99, 111, 117, 110, 115, 101, 108]⟩, ⟨#[106, 117, 114, 111, 114]⟩, ⟨#[112, 114, 101, 115, 115]⟩] : List ByteArray) := Own.ow (by simpa [xc, cellsRoleS, strc, i64c] using O1) rfl (by omega) (Nat.le_refl _) (by omega) (by intro x hx; rfl)
  refine ov (xassign rfl) rfl rfl rfl ?_
  refine ops_nil ?_
  refine run_seq ?_
  refine run_region ?_
  refine obuild (cs := []) (sz := 3) Try.underlying25 inf71 rfl rfl (by decide) rfl rfl (by simp [Value.cells]) rfl rfl rfl ?_
  intro b2 w2 e2 hb2 hz2 O2
  have E := E.trans (Mk.ofExt e2)
  replace S := S.ext e2
  replace G1 := G1.ext e2
  have G2 : NOw cellsRoleS 3 71 innRoleS strc 1 9 w2 b2 (b2 + 1) (some ⟨b2, 0, none⟩) 0 0 [] := ⟨Own.ow (by simpa using O2) rfl (by omega) (Nat.le_refl _) (by omega) (by intro x hx; cases hx), Inn.nil⟩
  refine ov (xassign rfl) rfl rfl rfl ?_
  refine ops_nil ?_
  refine run_seq ?_
  refine run_seq ?_
  refine run_region ?_
  refine ov (xassign rfl) rfl rfl rfl ?_
  refine ops_nil ?_
  refine run_block ?_
  refine run_loop (ι := Nat × Option Addr × Nat × Nat × List (X (Role)) × World) (fun x_ => match x_ with | (k, q_4, m_4, c_4, ys_4, wr) => (Mk b (b + 1) w wr) ∧ (Src wr b cb) ∧ (Ow strc 1 9 wr b1 (b1 + 1) (some ⟨b1, 0, none⟩) 5 5 ([⟨#[106, 117, 100, 103, 101]⟩, ⟨#[99, 108, 101, 114, 107]⟩, ⟨#[99, 111, 117, 110, 115, 101, 108]⟩, ⟨#[106, 117, 114, 111, 114]⟩, ⟨#[112, 114, 101, 115, 115]⟩] : List ByteArray)) ∧ (NOw cellsRoleS 3 71 innRoleS strc 1 9 wr b2 wr.heap.size q_4 m_4 c_4 ys_4) ∧ (b2 ≤ wr.heap.size) ∧ (w2.heap.size ≤ wr.heap.size) ∧ (k ≤ 5) ∧ (m_4 ≤ k) ∧ (∀ x ∈ ys_4, Role.ok x.v)) (fun x_ => match x_ with | (k, q_4, m_4, c_4, ys_4, wr) => [(0, .pointer (some ⟨b, 0, none⟩)), (3, .slice (some ⟨b1, 0, none⟩) 5 5), (4, .slice q_4 m_4 c_4), (5, .int .i64 (k : Int))]) (fun x_ => match x_ with | (k, q_4, m_4, c_4, ys_4, wr) => wr) (fun x_ => match x_ with | (k, q_4, m_4, c_4, ys_4, wr) => 5 - k) ?_ (0, (some ⟨b2, 0, none⟩), 0, 0, [], w2) (⟨E, S, G1, G2.wide (by omega) (by omega), by omega, Nat.le_refl _, by omega, Nat.le_refl _, (by intro x hx; cases hx)⟩) ⟨rfl, rfl, rfl, rfl, trivial⟩ rfl
  intro i_ hI_ hback4
  obtain ⟨k, q_4, m_4, c_4, ys_4, wr⟩ := i_
  obtain ⟨E, S, G1, G_4, lo_4, lz_wr, hk, hm4, hall⟩ := hI_
  try dsimp only
  have zr := E.size
  have lg_4 := G_4.o.len
  refine run_seq ?_
  refine run_seq ?_
  refine run_region ?_
  refine ov (xmove rfl) rfl rfl rfl ?_
  refine ov (xmove rfl) rfl rfl rfl ?_
  refine ov (xlen Try.underlying49 rfl) rfl rfl rfl ?_
  refine ov (xlss rfl rfl _ rfl) rfl rfl rfl ?_
  refine ods (fun c12 => ?_) (fun c12 => ?_)
  ·
    refine ops_nil ?_
    refine run_cond_t rfl ?_
    refine run_skip ?_
    refine run_seq ?_
    refine run_block ?_
    refine run_seq ?_
    refine run_region ?_
    refine ov (xmove rfl) rfl rfl rfl ?_
    refine oc (xcall Try.call86 rfl) rfl rfl rfl (l01Next_ok b cb (4) _ S) ?_
    rintro _ w3 ⟨r16_0, rfl, h16_0, h16_1, m3, S3⟩
    have z3 := m3.size
    have E := E.trans m3
    replace G_4 := G_4.off m3 (by omega)
    replace G1 := G1.off m3 (by omega)
    replace S := S3
    refine ov (xgtr rfl rfl _ rfl) rfl rfl rfl ?_
    refine ods (fun c17 => ?_) (fun c17 => ?_)
    ·
      refine ops_nil ?_
      refine run_cond_t rfl ?_
      refine run_rg (τ := [(0, .pointer (some ⟨b, 0, none⟩)), (3, .slice (some ⟨b1, 0, none⟩) 5 5), (4, .slice q_4 m_4 c_4), (5, .int .i64 (k : Int))]) 11 [18, 19, 20, 21, 22, 23, 24, 25, 26, 27, 28] (fun u_ => Mk b (b + 1) w3 u_ ∧ Src u_ b cb) (fun i_ => Mk b (b + 1)) (fun i_ v_ u_ => match i_ with | 0 => v_ = .slice q_4 m_4 c_4 | 1 => v_ = .slice (some ⟨b1, 0, none⟩) 5 5 | 2 => v_ = .int .i64 (k : Int) | 3 => ∃ (y0_ : Nat) (y1_ : Nat) (y2_ : ByteArray), v_ = .pointer (some ⟨y0_, y1_, none⟩) ∧ b < y0_ ∧ Cells u_ y0_ y1_ [.string y2_] ∧ (y2_).size ≤ 7 | 4 => ∃ (y0_ : ByteArray), v_ = .string y0_ ∧ (y0_).size ≤ 7 | 5 => v_ = .pointer (some ⟨b, 0, none⟩) | 6 => ∃ (y0_ : Int), v_ = .int .i64 y0_ ∧ 0 ≤ y0_ ∧ (y0_ < 10 ∨ y0_ = 0) | 7 => v_ = .pointer (some ⟨b, 0, none⟩) | 8 => ∃ (y0_ : List ByteArray) (y1_ : Option Addr) (y2_ : Nat) (y3_ : Nat), v_ = .slice y1_ y2_ y3_ ∧ (∀ x ∈ y0_, x.size ≤ 100) ∧ y2_ ≤ 7 ∧ Ow strc 1 9 u_ w3.heap.size u_.heap.size y1_ y2_ y3_ y0_ | 9 => ∃ (y0_ : ByteArray) (y1_ : Int) (y2_ : List ByteArray) (y3_ : Option Addr) (y4_ : Nat) (y5_ : Nat), v_ = .agg #[.string y0_, .int .i64 y1_, .slice y3_ y4_ y5_] ∧ (y0_).size ≤ 7 ∧ 0 ≤ y1_ ∧ (y1_ < 10 ∨ y1_ = 0) ∧ (∀ x ∈ y2_, x.size ≤ 100) ∧ y4_ ≤ 7 ∧ Ow strc 1 9 u_ w3.heap.size u_.heap.size y3_ y4_ y5_ y2_ | 10 => ∃ (y0_ : Nat) (y1_ : ByteArray) (y2_ : Int) (y3_ : List ByteArray) (y4_ : Option Addr) (y5_ : Nat) (y6_ : Nat), v_ = .slice (some ⟨y0_, 0, none⟩) 1 1 ∧ w3.heap.size ≤ y0_ ∧ Sl (xc cellsRoleS) 3 u_ (some ⟨y0_, 0, none⟩) 1 1 [(⟨⟨y1_, y2_, y3_⟩, ⟨y4_, y5_, y6_⟩⟩ : X Role)] ∧ (y1_).size ≤ 7 ∧ 0 ≤ y2_ ∧ (y2_ < 10 ∨ y2_ = 0) ∧ (∀ x ∈ y3_, x.size ≤ 100) ∧ y5_ ≤ 7 ∧ Ow strc 1 9 u_ w3.heap.size u_.heap.size y4_ y5_ y6_ y3_ | _ => True) [(0, some 18), (10, some 28)] (by kernel_rfl) (by kernel_rfl) (by kernel_rfl) (by kernel_rfl) (by kernel_rfl) (by kernel_rfl) ⟨rfl, rfl, rfl, rfl, trivial⟩ rfl (fun u_ e_ z_ => ⟨Mk.ofExt e_, S.ext e_⟩) ?_ ?_ ?_
      · intro i_ j_ hi_ hj_ hij_ v_ u_ u2_ I_ I2_ r_ g_
        have zu_ := I_.1.size
        clear hi_
        rcases (by omega : j_ = 0 ∨ j_ = 1 ∨ j_ = 2 ∨ j_ = 3 ∨ j_ = 4 ∨ j_ = 5 ∨ j_ = 6 ∨ j_ = 7 ∨ j_ = 8 ∨ j_ = 9 ∨ j_ = 10) with rfl | rfl | rfl | rfl | rfl | rfl | rfl | rfl | rfl | rfl | rfl
        · exact g_
        · exact g_
        · exact g_
        · obtain ⟨g21_0, g21_1, g21_2, rfl, f21_0, f21_1, f21_2⟩ := g_
          exact ⟨g21_0, g21_1, g21_2, rfl, f21_0, r_.cells f21_1 (by omega), f21_2⟩
        · exact g_
        · exact g_
        · exact g_
        · exact g_
        · obtain ⟨g26_0, g26_1, g26_2, g26_3, rfl, f26_0, f26_1, f26_2⟩ := g_
          exact ⟨g26_0, g26_1, g26_2, g26_3, rfl, f26_0, f26_1, (f26_2.off r_ (by omega)).wide (Nat.le_refl _) (by have := (r_).size; omega)⟩
        · obtain ⟨g27_0, g27_1, g27_2, g27_3, g27_4, g27_5, rfl, f27_0, f27_1, f27_2, f27_3, f27_4, f27_5⟩ := g_
          exact ⟨g27_0, g27_1, g27_2, g27_3, g27_4, g27_5, rfl, f27_0, f27_1, f27_2, f27_3, f27_4, (f27_5.off r_ (by omega)).wide (Nat.le_refl _) (by have := (r_).size; omega)⟩
        · obtain ⟨g28_0, g28_1, g28_2, g28_3, g28_4, g28_5, g28_6, rfl, f28_0, f28_1, f28_2, f28_3, f28_4, f28_5, f28_6, f28_7⟩ := g_
          exact ⟨g28_0, g28_1, g28_2, g28_3, g28_4, g28_5, g28_6, rfl, f28_0, f28_1.off r_ (by simp only [pb, Option.getD_some]; omega), f28_2, f28_3, f28_4, f28_5, f28_6, (f28_7.off r_ (by omega)).wide (Nat.le_refl _) (by have := (r_).size; omega)⟩
      ·
        refine rga [] (by kernel_rfl) ?_ ?_
        · intro u_ I_
          have zu_ := I_.1.size
          refine rg_val (xmove rfl) rfl I_ (Mk.refl _ _ _) rfl
        refine rga [] (by kernel_rfl) ?_ ?_
        · intro u_ I_
          have zu_ := I_.1.size
          refine rg_val (xmove rfl) rfl I_ (Mk.refl _ _ _) rfl
        refine rga [] (by kernel_rfl) ?_ ?_
        · intro u_ I_
          have zu_ := I_.1.size
          refine rg_val (xmove rfl) rfl I_ (Mk.refl _ _ _) rfl
        refine rga [(1, some 19), (2, some 20)] (by kernel_rfl) ?_ ?_
        · rintro u_ I_ _ rfl _ rfl
          have zu_ := I_.1.size
          have G1 := G1.off I_.1 (by omega)
          have hh_ := (G1.sl).at (i := k) (by show k < 5; omega)
          refine rg_val (xindexN (i := k) Try.underlying49 Try.sizeOf9 rfl rfl rfl ((G1.sl).p (i := k) (by show k < 5; omega)) (by omega)) rfl I_ (Mk.refl _ _ _) ?_
          exact ⟨_, _, _, rfl, by simp only [pb, Option.getD_some]; omega, hh_, (by decide : ∀ x ∈ ([⟨#[106, 117, 100, 103, 101]⟩, ⟨#[99, 108, 101, 114, 107]⟩, ⟨#[99, 111, 117, 110, 115, 101, 108]⟩, ⟨#[106, 117, 114, 111, 114]⟩, ⟨#[112, 114, 101, 115, 115]⟩] : List ByteArray), x.size ≤ 7) _ (List.getElem_mem _)⟩
        refine rga [(3, some 21)] (by kernel_rfl) ?_ ?_
        · rintro u_ I_ _ ⟨g21_0, g21_1, g21_2, rfl, f21_0, f21_1, f21_2⟩
          have zu_ := I_.1.size
          refine rg_val (xloadz Try.isAgg9 rfl f21_1 rfl) rfl I_ (Mk.refl _ _ _) ⟨g21_2, rfl, f21_2⟩
        refine rga [] (by kernel_rfl) ?_ ?_
        · intro u_ I_
          have zu_ := I_.1.size
          refine rg_val (xmove rfl) rfl I_ (Mk.refl _ _ _) rfl
        refine rga [(5, some 23)] (by kernel_rfl) ?_ ?_
        · rintro u_ I_ _ rfl
          have zu_ := I_.1.size
          refine rg_call (xcall Try.call86 rfl) rfl (l01Next_ok b cb (10) _ I_.2) ?_
          rintro _ w_ ⟨r_0, rfl, h_0, h_1, m_, S_⟩
          exact ⟨⟨I_.1.trans m_, S_⟩, m_, ⟨r_0, rfl, h_0, h_1⟩⟩
        refine rga [] (by kernel_rfl) ?_ ?_
        · intro u_ I_
          have zu_ := I_.1.size
          refine rg_val (xmove rfl) rfl I_ (Mk.refl _ _ _) rfl
        refine rga [(7, some 25)] (by kernel_rfl) ?_ ?_
        · rintro u_ I_ _ rfl
          have zu_ := I_.1.size
          refine rg_call (xcall Try.call102 rfl) rfl (l24DrawGroups_ok b cb _ I_.2) ?_
          rintro _ w_ ⟨r_0, r_1, r_2, r_3, rfl, h_0, h_1, h_2, m_, S_⟩
          exact ⟨⟨I_.1.trans m_, S_⟩, m_, ⟨r_0, r_1, r_2, r_3, rfl, h_0, h_1, h_2.wide (by omega) (Nat.le_refl _)⟩⟩
        refine rga [(4, some 22), (6, some 24), (8, some 26)] (by kernel_rfl) ?_ ?_
        · rintro u_ I_ _ ⟨g22_0, rfl, f22_0⟩ _ ⟨g24_0, rfl, f24_0, f24_1⟩ _ ⟨g26_0, g26_1, g26_2, g26_3, rfl, f26_0, f26_1, f26_2⟩
          have zu_ := I_.1.size
          refine rg_val (xbuild (vs := [.string g22_0, .int .i64 g24_0, .slice g26_1 g26_2 g26_3]) (cells := #[.string g22_0, .int .i64 g24_0, .slice g26_1 g26_2 g26_3]) rfl (by kernel_rfl)) rfl I_ (Mk.refl _ _ _) ⟨g22_0, g24_0, g26_0, g26_1, g26_2, g26_3, rfl, f22_0, f24_0, f24_1, f26_0, f26_1, f26_2⟩
        refine rga [(9, some 27)] (by kernel_rfl) ?_ ?_
        · rintro u_ I_ _ ⟨g27_0, g27_1, g27_2, g27_3, g27_4, g27_5, rfl, f27_0, f27_1, f27_2, f27_3, f27_4, f27_5⟩
          have zu_ := I_.1.size
          refine rg_build (len := 1) (vs := [.agg #[.string g27_0, .int .i64 g27_1, .slice g27_3 g27_4 g27_5]]) (cs := [.string g27_0, .int .i64 g27_1, .slice g27_3 g27_4 g27_5]) (sz := 3) Try.underlying25 inf71 rfl rfl (by decide) (by rfl) (by rfl) (by simp [Value.cells]) rfl rfl ?_
          intro b_ w_ e_ hb_ O_
          refine ⟨⟨I_.1.trans (Mk.ofExt e_), I_.2.ext e_⟩, Mk.ofExt e_, ⟨b_, g27_0, g27_1, g27_2, g27_3, g27_4, g27_5, rfl, (by omega), (Own.sl1 (y := (⟨⟨g27_0, g27_1, g27_2⟩, ⟨g27_3, g27_4, g27_5⟩⟩ : X Role)) (enc := (xc cellsRoleS)) O_), f27_0, f27_1, f27_2, f27_3, f27_4, (f27_5.ext e_).wide (Nat.le_refl _) (by have := O_.lt; omega)⟩⟩
        exact rga_nil
      ·
        rintro w4 I_ _ rfl _ ⟨g28_0, g28_1, g28_2, g28_3, g28_4, g28_5, g28_6, rfl, f28_0, f28_1, f28_2, f28_3, f28_4, f28_5, f28_6, f28_7⟩
        have m4 := I_.1
        have z4 := m4.size
        have E := E.trans m4
        replace S := I_.2
        replace G_4 := G_4.off m4 (by omega)
        replace G1 := G1.off m4 (by omega)
        refine oappNT (bytes := 48) (nm := (m_4 + 1)) (z := (⟨⟨g28_1, g28_2, g28_3⟩, ⟨g28_4, g28_5, g28_6⟩⟩ : X Role)) G_4 (by decide) rfl rfl elem71 f28_1 (by intro h; cases h) rfl (by simp [xc, cellsRoleS, Value.oneCell']) f28_7 (by omega) (by omega) (by omega) (by omega) (by omega) (by omega) (by omega) rfl  rfl rfl ?_
        intro p5 c5_ w5 m5 k5 G5
        have hz5 := m5.size
        have E := E.young m5 (by omega)
        replace S := S.off m5 (by omega)
        replace G1 := (by first | exact G1.off m5 (by omega) | exact G1.offP G_4.o k5 (by decide))
        refine ov (xassign rfl) rfl rfl rfl ?_
        refine ops_nil ?_
        refine run_inBlock ?_
        refine run_region ?_
        refine ov (xmove rfl) rfl rfl rfl ?_
        refine ov (xadd rfl rfl (by unfold I64; omega)) rfl rfl rfl ?_
        refine ov (xassign rfl) rfl rfl rfl ?_
        refine ops_nil ?_
        refine run_sub ?_ (hback4 (k + 1, p5, (m_4 + 1), c5_, _, w5) (⟨E, S, G1, G5.wide (by omega) (by omega), by omega, by omega, by omega, by omega, ok_app2 (y := (⟨⟨g28_1, g28_2, g28_3⟩, ⟨g28_4, g28_5, g28_6⟩⟩ : X Role)) hall ⟨Nat.le_trans f28_2 (by decide), (by show I64 _; unfold I64; dsimp only; omega), (fun y m => Nat.le_trans (f28_5 y m) (by decide))⟩⟩) (by first | omega | (dsimp only; omega)))
        exact ⟨rfl, rfl, rfl, rfl, trivial⟩
    ·
      refine ops_nil ?_
      refine run_cond_f rfl ?_
      refine run_skip ?_
      refine run_inBlock ?_
      refine run_region ?_
      refine ov (xmove rfl) rfl rfl rfl ?_
      refine ov (xadd rfl rfl (by unfold I64; omega)) rfl rfl rfl ?_
      refine ov (xassign rfl) rfl rfl rfl ?_
      refine ops_nil ?_
      refine run_sub ?_ (hback4 (k + 1, q_4, m_4, c_4, ys_4, w3) (⟨E, S, G1, G_4.wide (by omega) (by omega), by omega, by omega, by omega, by omega, hall⟩) (by first | omega | (dsimp only; omega)))
      exact ⟨rfl, rfl, rfl, rfl, trivial⟩
  ·
    refine ops_nil ?_
    refine run_cond_f rfl ?_
    refine run_exit rfl ?_
    refine run_seq ?_
    refine run_seq ?_
    refine run_region ?_
    refine ov (xmove rfl) rfl rfl rfl ?_
    refine oc (xcall Try.call86 rfl) rfl rfl rfl (l01Next_ok b cb (30) _ S) ?_
    rintro _ w3 ⟨r31_0, rfl, h31_0, h31_1, m3, S3⟩
    have z3 := m3.size
    have E := E.trans m3
    replace G_4 := G_4.off m3 (by omega)
    replace G1 := G1.off m3 (by omega)
    replace S := S3
    refine ops_nil ?_
    refine run_block ?_
    refine run_seq ?_
    refine run_region ?_
    refine ov (xeql rfl rfl _ rfl) rfl rfl rfl ?_
    refine ods (fun c33 => ?_) (fun c33 => ?_)
    ·
      refine ov (xassign rfl) rfl rfl rfl ?_
      refine ops_nil ?_
      refine run_cond_t rfl ?_
      refine run_region ?_
      refine ov (xmove rfl) rfl rfl rfl ?_
      refine ov (xmove rfl) rfl rfl rfl ?_
      refine obuild (cs := [.int .i64 5, .int .i64 10, .int .i64 (-1)]) (sz := 1) Try.underlying94 inf2 rfl rfl (by decide) rfl rfl (by simp [Value.cells]) rfl rfl rfl ?_
      intro b4 w4 e4 hb4 hz4 O4
      have E := E.trans (Mk.ofExt e4)
      replace G_4 := G_4.ext e4
      replace S := S.ext e4
      replace G1 := G1.ext e4
      have G4 : Ow i64c 1 2 w4 b4 (b4 + 1) (some ⟨b4, 0, none⟩) 3 3 ([5, 10, (-1)] : List Int) := Own.ow (by simpa [xc, cellsRoleS, strc, i64c] using O4) rfl (by omega) (Nat.le_refl _) (by omega) (by intro x hx; rfl)
      refine oc (xcall Try.call85 rfl) rfl rfl rfl (l01Pick_ok b cb _ _ _ ([5, 10, (-1)] : List Int) 10 _ S (G4.sl) (by decide) (by omega) (by simp only [pb, Option.getD_some]; omega)) ?_
      rintro _ w5 ⟨r37_0, rfl, h37_0, m5, S5⟩
      have z5 := m5.size
      have E := E.trans m5
      replace G_4 := G_4.off m5 (by omega)
      replace G1 := G1.off m5 (by omega)
      replace G4 := G4.off m5 (by omega)
      replace S := S5
      refine ov (xbuild (vs := [.string ⟨#[106, 117, 100, 103, 101]⟩, .int .i64 r37_0]) (cells := #[.string ⟨#[106, 117, 100, 103, 101]⟩, .int .i64 r37_0, .slice none 0 0]) rfl (by kernel_rfl)) rfl rfl rfl ?_
      refine obuild (cs := [.string ⟨#[106, 117, 100, 103, 101]⟩, .int .i64 r37_0, .slice none 0 0]) (sz := 3) Try.underlying25 inf71 rfl rfl (by decide) rfl rfl (by simp [Value.cells]) rfl rfl rfl ?_
      intro b6 w6 e6 hb6 hz6 O6
      have E := E.trans (Mk.ofExt e6)
      replace G_4 := G_4.ext e6
      replace S := S.ext e6
      replace G1 := G1.ext e6
      replace G4 := G4.ext e6
      refine oappNT (bytes := 48) (nm := (m_4 + 1)) (z := (⟨⟨⟨#[106, 117, 100, 103, 101]⟩, r37_0, []⟩, ⟨none, 0, 0⟩⟩ : X Role)) G_4 (by decide) rfl rfl elem71 (Own.sl1 (y := ((⟨⟨⟨#[106, 117, 100, 103, 101]⟩, r37_0, []⟩, ⟨none, 0, 0⟩⟩ : X Role) : X _)) O6) (by intro h; cases h) rfl (by simp [xc, cellsRoleS, Value.oneCell']) (Ow.none strc 1 9 w6 w6.heap.size w6.heap.size) (by omega) (by omega) (by omega) (by omega) (by omega) (by omega) (by omega) rfl  rfl rfl ?_
      intro p7 c7_ w7 m7 k7 G7
      have hz7 := m7.size
      have E := E.young m7 (by omega)
      replace S := S.off m7 (by omega)
      replace G1 := (by first | exact G1.off m7 (by omega) | exact G1.offP G_4.o k7 (by decide))
      replace G4 := (by first | exact G4.off m7 (by omega) | exact G4.offP G_4.o k7 (by decide))
      refine ov (xassign rfl) rfl rfl rfl ?_
      refine ops_nil ?_
      refine run_inBlock ?_
      refine run_seq ?_
      refine run_region ?_
      refine ov (xmove rfl) rfl rfl rfl ?_
      refine ov (xassign rfl) rfl rfl rfl ?_
      refine ops_nil ?_
      refine run_ret Try.func87 (res1 rfl rfl) ?_
      exact ⟨_, rfl, _, _, _, _, rfl, fun x m => (by obtain ⟨z, hz, rfl⟩ := List.mem_map.1 m; exact (ok_app2 (y := (⟨⟨⟨#[106, 117, 100, 103, 101]⟩, r37_0, []⟩, ⟨none, 0, 0⟩⟩ : X Role)) hall ⟨(by show (⟨#[106, 117, 100, 103, 101]⟩ : ByteArray).size ≤ _; decide), (by show I64 _; unfold I64; dsimp only; omega), (by intro y m; cases m)⟩) z hz), by omega, ⟨_, rfl, G7.wide (by omega) (by omega)⟩, E, S⟩
    ·
      refine ov (xassign rfl) rfl rfl rfl ?_
      refine ops_nil ?_
      refine run_cond_f rfl ?_
      refine run_seq ?_
      refine run_region ?_
      refine ov (xeql rfl rfl _ rfl) rfl rfl rfl ?_
      refine ods (fun c42 => ?_) (fun c42 => ?_)
      ·
        refine ov (xassign rfl) rfl rfl rfl ?_
        refine ops_nil ?_
        refine run_cond_t rfl ?_
        refine run_seq ?_
        refine run_region ?_
        refine ov (xassign rfl) rfl rfl rfl ?_
        refine ops_nil ?_
        refine run_block ?_
        refine run_loop (ι := Nat × Option Addr × Nat × Nat × List (X (Role)) × World) (fun x_ => match x_ with | (k, q_4, m_4, c_4, ys_4, wr2) => (Mk b (b + 1) w wr2) ∧ (Src wr2 b cb) ∧ (NOw cellsRoleS 3 71 innRoleS strc 1 9 wr2 b2 wr2.heap.size q_4 m_4 c_4 ys_4) ∧ (b2 ≤ wr2.heap.size) ∧ (w3.heap.size ≤ wr2.heap.size) ∧ (k ≤ 12) ∧ (m_4 ≤ 9) ∧ (∀ x ∈ ys_4, Role.ok x.v)) (fun x_ => match x_ with | (k, q_4, m_4, c_4, ys_4, wr2) => [(0, .pointer (some ⟨b, 0, none⟩)), (4, .slice q_4 m_4 c_4), (6, .int .i64 (k : Int))]) (fun x_ => match x_ with | (k, q_4, m_4, c_4, ys_4, wr2) => wr2) (fun x_ => match x_ with | (k, q_4, m_4, c_4, ys_4, wr2) => 12 - k) ?_ (0, q_4, m_4, c_4, ys_4, w3) (⟨E, S, G_4.wide (by omega) (by omega), by omega, Nat.le_refl _, by omega, by omega, hall⟩) ⟨rfl, rfl, rfl, trivial⟩ rfl
        intro i_ hI_ hback13
        obtain ⟨k, q_4, m_4, c_4, ys_4, wr2⟩ := i_
        obtain ⟨E, S, G_4, lo_4, lz_wr2, hk, hm4, hall⟩ := hI_
        try dsimp only
        have zr := E.size
        have lg_4 := G_4.o.len
        refine run_seq ?_
        refine run_seq ?_
        refine run_region ?_
        refine ov (xmove rfl) rfl rfl rfl ?_
        refine ov (xlen Try.underlying25 rfl) rfl rfl rfl ?_
        refine ov (xmove rfl) rfl rfl rfl ?_
        refine oc (xcall Try.call86 rfl) rfl rfl rfl (l01Next_ok b cb (2) _ S) ?_
        rintro _ w4 ⟨r46_0, rfl, h46_0, h46_1, m4, S4⟩
        have z4 := m4.size
        have E := E.trans m4
        replace G_4 := G_4.off m4 (by omega)
        replace S := S4
        refine ov (xadd rfl rfl (by unfold I64; omega)) rfl rfl rfl ?_
        refine ov (xlss rfl rfl _ rfl) rfl rfl rfl ?_
        refine ods (fun c48 => ?_) (fun c48 => ?_)
        ·
          refine ov (xmove rfl) rfl rfl rfl ?_
          refine ov (xmove rfl) rfl rfl rfl ?_
          refine ov (xlss rfl rfl _ rfl) rfl rfl rfl ?_
          refine ods (fun c51 => ?_) (fun c51 => ?_)
          ·
            refine ov (xpick_t rfl rfl) rfl rfl rfl ?_
            refine ops_nil ?_
            refine run_cond_t rfl ?_
            refine run_skip ?_
            refine run_seq ?_
            refine run_block ?_
            refine run_region ?_
            refine ov (xmove rfl) rfl rfl rfl ?_
            refine ov (xmove rfl) rfl rfl rfl ?_
            refine ov (xmove rfl) rfl rfl rfl ?_
            refine ov (xadd rfl rfl (by unfold I64; omega)) rfl rfl rfl ?_
            refine ov (xsliceS Try.underlying9 rfl rfl rfl (by omega) (by omega) (by show _ ≤ ((12 : Nat) : Int); omega)) rfl rfl rfl ?_
            refine ov (xsadd rfl rfl (by have h1 := ext_size2 ⟨#[97, 98, 99, 100, 101, 102, 103, 104, 105, 106, 107, 108]⟩ (Int.toNat (k : Int)) (Int.toNat ((k : Int) + 1)); have h2 : (⟨#[120]⟩ : ByteArray).size = 1 := rfl; omega)) rfl rfl rfl ?_
            refine ov (xbuild (vs := [.string (⟨#[120]⟩ ++ (ByteArray.extract ⟨#[97, 98, 99, 100, 101, 102, 103, 104, 105, 106, 107, 108]⟩ (Int.toNat (k : Int)) (Int.toNat ((k : Int) + 1))))]) (cells := #[.string (⟨#[120]⟩ ++ (ByteArray.extract ⟨#[97, 98, 99, 100, 101, 102, 103, 104, 105, 106, 107, 108]⟩ (Int.toNat (k : Int)) (Int.toNat ((k : Int) + 1)))), .int .i64 0, .slice none 0 0]) rfl (by kernel_rfl)) rfl rfl rfl ?_
            refine obuild (cs := [.string (⟨#[120]⟩ ++ (ByteArray.extract ⟨#[97, 98, 99, 100, 101, 102, 103, 104, 105, 106, 107, 108]⟩ (Int.toNat (k : Int)) (Int.toNat ((k : Int) + 1)))), .int .i64 0, .slice none 0 0]) (sz := 3) Try.underlying25 inf71 rfl rfl (by decide) rfl rfl (by simp [Value.cells]) rfl rfl rfl ?_
            intro b5 w5 e5 hb5 hz5 O5
            have E := E.trans (Mk.ofExt e5)
            replace G_4 := G_4.ext e5
            replace S := S.ext e5
            refine oappNT (bytes := 48) (nm := (m_4 + 1)) (z := (⟨⟨((⟨#[120]⟩ : ByteArray) ++ (ByteArray.extract ⟨#[97, 98, 99, 100, 101, 102, 103, 104, 105, 106, 107, 108]⟩ (Int.toNat (k : Int)) (Int.toNat ((k : Int) + 1)))), 0, []⟩, ⟨none, 0, 0⟩⟩ : X Role)) G_4 (by decide) rfl rfl elem71 (Own.sl1 (y := ((⟨⟨((⟨#[120]⟩ : ByteArray) ++ (ByteArray.extract ⟨#[97, 98, 99, 100, 101, 102, 103, 104, 105, 106, 107, 108]⟩ (Int.toNat (k : Int)) (Int.toNat ((k : Int) + 1)))), 0, []⟩, ⟨none, 0, 0⟩⟩ : X Role) : X _)) O5) (by intro h; cases h) rfl (by simp [xc, cellsRoleS, Value.oneCell']) (Ow.none strc 1 9 w5 w5.heap.size w5.heap.size) (by omega) (by omega) (by omega) (by omega) (by omega) (by omega) (by omega) rfl  rfl rfl ?_
            intro p6 c6_ w6 m6 k6 G6
            have hz6 := m6.size
            have E := E.young m6 (by omega)
            replace S := S.off m6 (by omega)
            refine ov (xassign rfl) rfl rfl rfl ?_
            refine ops_nil ?_
            refine run_inBlock ?_
            refine run_region ?_
            refine ov (xmove rfl) rfl rfl rfl ?_
            refine ov (xadd rfl rfl (by unfold I64; omega)) rfl rfl rfl ?_
            refine ov (xassign rfl) rfl rfl rfl ?_
            refine ops_nil ?_
            refine run_sub ?_ (hback13 (k + 1, p6, (m_4 + 1), c6_, _, w6) (⟨E, S, G6.wide (by omega) (by omega), by omega, by omega, by omega, by omega, ok_app2 (y := (⟨⟨((⟨#[120]⟩ : ByteArray) ++ (ByteArray.extract ⟨#[97, 98, 99, 100, 101, 102, 103, 104, 105, 106, 107, 108]⟩ (Int.toNat (k : Int)) (Int.toNat ((k : Int) + 1)))), 0, []⟩, ⟨none, 0, 0⟩⟩ : X Role)) hall ⟨(by dsimp only; rw [ByteArray.size_append]; have := ext_size2 ⟨#[97, 98, 99, 100, 101, 102, 103, 104, 105, 106, 107, 108]⟩ (Int.toNat (k : Int)) (Int.toNat ((k : Int) + 1)); have : (⟨#[120]⟩ : ByteArray).size = 1 := rfl; omega), (by show I64 _; unfold I64; dsimp only; omega), (by intro y m; cases m)⟩⟩) (by first | omega | (dsimp only; omega)))
            exact ⟨rfl, rfl, rfl, trivial⟩
          ·
            refine ov (xpick_t rfl rfl) rfl rfl rfl ?_
            refine ops_nil ?_
            refine run_cond_f rfl ?_
            refine run_exit rfl ?_
            refine run_inBlock ?_
            refine run_seq ?_
            refine run_region ?_
            refine ov (xmove rfl) rfl rfl rfl ?_
            refine ov (xassign rfl) rfl rfl rfl ?_
            refine ops_nil ?_
            refine run_ret Try.func87 (res1 rfl rfl) ?_
            exact ⟨_, rfl, _, _, _, _, rfl, fun x m => (by obtain ⟨z, hz, rfl⟩ := List.mem_map.1 m; exact hall z hz), by omega, ⟨_, rfl, G_4.wide (by omega) (by omega)⟩, E, S⟩
        ·
          refine ov (xmove rfl) rfl rfl rfl ?_
          refine og rfl rfl rfl ?_
          refine og rfl rfl rfl ?_
          refine ov (xpick_f rfl rfl) rfl rfl rfl ?_
          refine ops_nil ?_
          refine run_cond_f rfl ?_
          refine run_exit rfl ?_
          refine run_inBlock ?_
          refine run_seq ?_
          refine run_region ?_
          refine ov (xmove rfl) rfl rfl rfl ?_
          refine ov (xassign rfl) rfl rfl rfl ?_
          refine ops_nil ?_
          refine run_ret Try.func87 (res1 rfl rfl) ?_
          exact ⟨_, rfl, _, _, _, _, rfl, fun x m => (by obtain ⟨z, hz, rfl⟩ := List.mem_map.1 m; exact hall z hz), by omega, ⟨_, rfl, G_4.wide (by omega) (by omega)⟩, E, S⟩
      ·
        refine ov (xassign rfl) rfl rfl rfl ?_
        refine ops_nil ?_
        refine run_cond_f rfl ?_
        refine run_skip ?_
        refine run_inBlock ?_
        refine run_seq ?_
        refine run_region ?_
        refine ov (xmove rfl) rfl rfl rfl ?_
        refine ov (xassign rfl) rfl rfl rfl ?_
        refine ops_nil ?_
        refine run_ret Try.func87 (res1 rfl rfl) ?_
        exact ⟨_, rfl, _, _, _, _, rfl, fun x m => (by obtain ⟨z, hz, rfl⟩ := List.mem_map.1 m; exact hall z hz), by omega, ⟨_, rfl, G_4.wide (by omega) (by omega)⟩, E, S⟩

set_option maxHeartbeats 4000000 in
theorem l24Files_ok (b cb : Nat) (w : World) (S : Src w b cb) : Ret Try.prog 88 [.pointer (some ⟨b, 0, none⟩)] w (fun v w' => ∃ (xs : List File) (q : Option Addr) (m d : Nat), v = .slice q m d ∧ (∀ x ∈ xs, x.ok) ∧ m ≤ 14 ∧ OnFileS w' w.heap.size w'.heap.size q m d xs ∧ Mk b (b + 1) w w' ∧ Src w' b cb) := by
  refine ret_of_run (N := 77) Try.func88 rfl rfl rfl ?_
  have hbl := S.lt
  have hcb := S.cb
  have E : Mk b (b + 1) w w := Mk.refl _ _ _
  refine run_seq ?_
  refine run_region ?_
  refine ov (xassign rfl) rfl rfl rfl ?_
  refine ops_nil ?_
  refine run_seq ?_
  refine run_region ?_
  refine obuild (cs := [.string ⟨#[98, 97, 110, 107]⟩, .string ⟨#[100, 105, 97, 114, 121]⟩, .string ⟨#[114, 101, 112, 111, 114, 116]⟩, .string ⟨#[116, 97, 112, 101]⟩]) (sz := 1) Try.underlying49 inf9 rfl rfl (by decide) rfl rfl (by simp [Value.cells]) rfl rfl rfl ?_
  intro b1 w1 e1 hb1 hz1 O1
  have E := E.trans (Mk.ofExt e1)
  replace S := S.ext e1
  have G1 : Ow strc 1 9 w1 b1 (b1 + 1) (some ⟨b1, 0, none⟩) 4 4 ([⟨#[98, 97, 110, 107]⟩, ⟨#[100, 105, 97, 114, 121]⟩, ⟨#[114, 101, 112, 111, 114, 116]⟩, ⟨#[116, 97, 112, 101]⟩] : List ByteArray) := Own.ow (by simpa [xc, cellsFileS, strc, i64c] using O1) rfl (by omega) (Nat.le_refl _) (by omega) (by intro x hx; rfl)
  refine ov (xassign rfl) rfl rfl rfl ?_
  refine ops_nil ?_
  refine run_seq ?_
  refine run_region ?_
  refine obuild (cs := []) (sz := 4) Try.underlying32 inf54 rfl rfl (by decide) rfl rfl (by simp [Value.cells]) rfl rfl rfl ?_
  intro b2 w2 e2 hb2 hz2 O2
  have E := E.trans (Mk.ofExt e2)
  replace S := S.ext e2
  replace G1 := G1.ext e2
  have G2 : NOw cellsFileS 4 54 innFileS strc 1 9 w2 b2 (b2 + 1) (some ⟨b2, 0, none⟩) 0 0 [] := ⟨Own.ow (by simpa using O2) rfl (by omega) (Nat.le_refl _) (by omega) (by intro x hx; cases hx), Inn.nil⟩
  refine ov (xassign rfl) rfl rfl rfl ?_
  refine ops_nil ?_
  refine run_seq ?_
  refine run_seq ?_
  refine run_region ?_
  refine ov (xassign rfl) rfl rfl rfl ?_
  refine ops_nil ?_
  refine run_block ?_
  refine run_loop (ι := Nat × Option Addr × Nat × Nat × List (X (File)) × World) (fun x_ => match x_ with | (k, q_4, m_4, c_4, ys_4, wr) => (Mk b (b + 1) w wr) ∧ (Src wr b cb) ∧ (Ow strc 1 9 wr b1 (b1 + 1) (some ⟨b1, 0, none⟩) 4 4 ([⟨#[98, 97, 110, 107]⟩, ⟨#[100, 105, 97, 114, 121]⟩, ⟨#[114, 101, 112, 111, 114, 116]⟩, ⟨#[116, 97, 112, 101]⟩] : List ByteArray)) ∧ (NOw cellsFileS 4 54 innFileS strc 1 9 wr b2 wr.heap.size q_4 m_4 c_4 ys_4) ∧ (b2 ≤ wr.heap.size) ∧ (w2.heap.size ≤ wr.heap.size) ∧ (k ≤ 4) ∧ (m_4 ≤ k) ∧ (∀ x ∈ ys_4, File.ok x.v)) (fun x_ => match x_ with | (k, q_4, m_4, c_4, ys_4, wr) => [(0, .pointer (some ⟨b, 0, none⟩)), (3, .slice (some ⟨b1, 0, none⟩) 4 4), (4, .slice q_4 m_4 c_4), (5, .int .i64 (k : Int))]) (fun x_ => match x_ with | (k, q_4, m_4, c_4, ys_4, wr) => wr) (fun x_ => match x_ with | (k, q_4, m_4, c_4, ys_4, wr) => 4 - k) ?_ (0, (some ⟨b2, 0, none⟩), 0, 0, [], w2) (⟨E, S, G1, G2.wide (by omega) (by omega), by omega, Nat.le_refl _, by omega, Nat.le_refl _, (by intro x hx; cases hx)⟩) ⟨rfl, rfl, rfl, rfl, trivial⟩ rfl
  intro i_ hI_ hback4
  obtain ⟨k, q_4, m_4, c_4, ys_4, wr⟩ := i_
  obtain ⟨E, S, G1, G_4, lo_4, lz_wr, hk, hm4, hall⟩ := hI_
  try dsimp only
  have zr := E.size
  have lg_4 := G_4.o.len
  refine run_seq ?_
  refine run_seq ?_
  refine run_region ?_
  refine ov (xmove rfl) rfl rfl rfl ?_
  refine ov (xmove rfl) rfl rfl rfl ?_
  refine ov (xlen Try.underlying49 rfl) rfl rfl rfl ?_
  refine ov (xlss rfl rfl _ rfl) rfl rfl rfl ?_
  refine ods (fun c12 => ?_) (fun c12 => ?_)
  ·
    refine ops_nil ?_
    refine run_cond_t rfl ?_
    refine run_skip ?_
    refine run_seq ?_
    refine run_block ?_
    refine run_seq ?_
    refine run_region ?_
    refine ov (xmove rfl) rfl rfl rfl ?_
    refine oc (xcall Try.call86 rfl) rfl rfl rfl (l01Next_ok b cb (4) _ S) ?_
    rintro _ w3 ⟨r16_0, rfl, h16_0, h16_1, m3, S3⟩
    have z3 := m3.size
    have E := E.trans m3
    replace G_4 := G_4.off m3 (by omega)
    replace G1 := G1.off m3 (by omega)
    replace S := S3
    refine ov (xgtr rfl rfl _ rfl) rfl rfl rfl ?_
    refine ods (fun c17 => ?_) (fun c17 => ?_)
    ·
      refine ops_nil ?_
      refine run_cond_t rfl ?_
      refine run_rg (τ := [(0, .pointer (some ⟨b, 0, none⟩)), (3, .slice (some ⟨b1, 0, none⟩) 4 4), (4, .slice q_4 m_4 c_4), (5, .int .i64 (k : Int))]) 20 [18, 19, 20, 21, 22, 23, 24, 25, 26, 27, 28, 29, 30, 31, 32, 33, 34, 35, 36, 37] (fun u_ => Mk b (b + 1) w3 u_ ∧ Src u_ b cb) (fun i_ => Mk b (b + 1)) (fun i_ v_ u_ => match i_ with | 0 => v_ = .slice q_4 m_4 c_4 | 1 => v_ = .slice (some ⟨b1, 0, none⟩) 4 4 | 2 => v_ = .int .i64 (k : Int) | 3 => ∃ (y0_ : Nat) (y1_ : Nat) (y2_ : ByteArray), v_ = .pointer (some ⟨y0_, y1_, none⟩) ∧ b < y0_ ∧ Cells u_ y0_ y1_ [.string y2_] ∧ (y2_).size ≤ 6 | 4 => ∃ (y0_ : ByteArray), v_ = .string y0_ ∧ (y0_).size ≤ 6 | 5 => v_ = .pointer (some ⟨b, 0, none⟩) | 6 => ∃ (y0_ : Int), v_ = .int .i64 y0_ ∧ 0 ≤ y0_ ∧ (y0_ < 10 ∨ y0_ = 0) | 7 => v_ = .pointer (some ⟨b, 0, none⟩) | 8 => ∃ (y0_ : List ByteArray) (y1_ : Option Addr) (y2_ : Nat) (y3_ : Nat), v_ = .slice y1_ y2_ y3_ ∧ (∀ x ∈ y0_, x.size ≤ 100) ∧ y2_ ≤ 7 ∧ Ow strc 1 9 u_ w3.heap.size u_.heap.size y1_ y2_ y3_ y0_ | 9 => v_ = .pointer (some ⟨b, 0, none⟩) | 10 => v_ = .pointer (some ⟨b, 0, none⟩) | 11 => ∃ (y0_ : Int), v_ = .int .i64 y0_ ∧ 0 ≤ y0_ ∧ (y0_ < 50 ∨ y0_ = 0) | 12 => ∃ (y0_ : Int), v_ = .int .i64 (100 + y0_) ∧ 0 ≤ y0_ ∧ (y0_ < 50 ∨ y0_ = 0) | 13 => v_ = .pointer (some ⟨b, 0, none⟩) | 14 => ∃ (y0_ : Int), v_ = .int .i64 y0_ ∧ 0 ≤ y0_ ∧ (y0_ < 50 ∨ y0_ = 0) | 15 => ∃ (y0_ : Int), v_ = .int .i64 (100 + y0_) ∧ 0 ≤ y0_ ∧ (y0_ < 50 ∨ y0_ = 0) | 16 => ∃ (y0_ : Nat) (y1_ : Int) (y2_ : Int), v_ = .slice (some ⟨y0_, 0, none⟩) 4 4 ∧ w3.heap.size ≤ y0_ ∧ Sl i64c 1 u_ (some ⟨y0_, 0, none⟩) 4 4 [0, (100 + y1_), (100 + y2_), 20000] ∧ 0 ≤ y1_ ∧ (y1_ < 50 ∨ y1_ = 0) ∧ 0 ≤ y2_ ∧ (y2_ < 50 ∨ y2_ = 0) | 17 => ∃ (y0_ : Int), v_ = .int .i64 y0_ ∧ -20000 ≤ y0_ ∧ y0_ ≤ 20000 | 18 => ∃ (y0_ : ByteArray) (y1_ : Int) (y2_ : List ByteArray) (y3_ : Option Addr) (y4_ : Nat) (y5_ : Nat) (y6_ : Int), v_ = .agg #[.string y0_, .int .i64 y1_, .slice y3_ y4_ y5_, .int .i64 y6_] ∧ (y0_).size ≤ 6 ∧ 0 ≤ y1_ ∧ (y1_ < 10 ∨ y1_ = 0) ∧ (∀ x ∈ y2_, x.size ≤ 100) ∧ y4_ ≤ 7 ∧ Ow strc 1 9 u_ w3.heap.size u_.heap.size y3_ y4_ y5_ y2_ ∧ -20000 ≤ y6_ ∧ y6_ ≤ 20000 | 19 => ∃ (y0_ : Nat) (y1_ : ByteArray) (y2_ : Int) (y3_ : List ByteArray) (y4_ : Option Addr) (y5_ : Nat) (y6_ : Nat) (y7_ : Int), v_ = .slice (some ⟨y0_, 0, none⟩) 1 1 ∧ w3.heap.size ≤ y0_ ∧ Sl (xc cellsFileS) 4 u_ (some ⟨y0_, 0, none⟩) 1 1 [(⟨⟨y1_, y2_, y3_, y7_⟩, ⟨y4_, y5_, y6_⟩⟩ : X File)] ∧ (y1_).size ≤ 6 ∧ 0 ≤ y2_ ∧ (y2_ < 10 ∨ y2_ = 0) ∧ (∀ x ∈ y3_, x.size ≤ 100) ∧ y5_ ≤ 7 ∧ Ow strc 1 9 u_ w3.heap.size u_.heap.size y4_ y5_ y6_ y3_ ∧ -20000 ≤ y7_ ∧ y7_ ≤ 20000 | _ => True) [(0, some 18), (19, some 37)] (by kernel_rfl) (by kernel_rfl) (by kernel_rfl) (by kernel_rfl) (by kernel_rfl) (by kernel_rfl) ⟨rfl, rfl, rfl, rfl, trivial⟩ rfl (fun u_ e_ z_ => ⟨Mk.ofExt e_, S.ext e_⟩) ?_ ?_ ?_
      · intro i_ j_ hi_ hj_ hij_ v_ u_ u2_ I_ I2_ r_ g_
        have zu_ := I_.1.size
        clear hi_
        rcases (by omega : j_ = 0 ∨ j_ = 1 ∨ j_ = 2 ∨ j_ = 3 ∨ j_ = 4 ∨ j_ = 5 ∨ j_ = 6 ∨ j_ = 7 ∨ j_ = 8 ∨ j_ = 9 ∨ j_ = 10 ∨ j_ = 11 ∨ j_ = 12 ∨ j_ = 13 ∨ j_ = 14 ∨ j_ = 15 ∨ j_ = 16 ∨ j_ = 17 ∨ j_ = 18 ∨ j_ = 19) with rfl | rfl | rfl | rfl | rfl | rfl | rfl | rfl | rfl | rfl | rfl | rfl | rfl | rfl | rfl | rfl | rfl | rfl | rfl | rfl
        · exact g_
        · exact g_
        · exact g_
        · obtain ⟨g21_0, g21_1, g21_2, rfl, f21_0, f21_1, f21_2⟩ := g_
          exact ⟨g21_0, g21_1, g21_2, rfl, f21_0, r_.cells f21_1 (by omega), f21_2⟩
        · exact g_
        · exact g_
        · exact g_
        · exact g_
        · obtain ⟨g26_0, g26_1, g26_2, g26_3, rfl, f26_0, f26_1, f26_2⟩ := g_
          exact ⟨g26_0, g26_1, g26_2, g26_3, rfl, f26_0, f26_1, (f26_2.off r_ (by omega)).wide (Nat.le_refl _) (by have := (r_).size; omega)⟩
        · exact g_
        · exact g_
        · exact g_
        · exact g_
        · exact g_
        · exact g_
        · exact g_
        · obtain ⟨g34_0, g34_1, g34_2, rfl, f34_0, f34_1, f34_2, f34_3, f34_4, f34_5⟩ := g_
          exact ⟨g34_0, g34_1, g34_2, rfl, f34_0, f34_1.off r_ (by simp only [pb, Option.getD_some]; omega), f34_2, f34_3, f34_4, f34_5⟩
        · exact g_
        · obtain ⟨g36_0, g36_1, g36_2, g36_3, g36_4, g36_5, g36_6, rfl, f36_0, f36_1, f36_2, f36_3, f36_4, f36_5, f36_6⟩ := g_
          exact ⟨g36_0, g36_1, g36_2, g36_3, g36_4, g36_5, g36_6, rfl, f36_0, f36_1, f36_2, f36_3, f36_4, (f36_5.off r_ (by omega)).wide (Nat.le_refl _) (by have := (r_).size; omega), f36_6⟩
        · obtain ⟨g37_0, g37_1, g37_2, g37_3, g37_4, g37_5, g37_6, g37_7, rfl, f37_0, f37_1, f37_2, f37_3, f37_4, f37_5, f37_6, f37_7, f37_8⟩ := g_
          exact ⟨g37_0, g37_1, g37_2, g37_3, g37_4, g37_5, g37_6, g37_7, rfl, f37_0, f37_1.off r_ (by simp only [pb, Option.getD_some]; omega), f37_2, f37_3, f37_4, f37_5, f37_6, (f37_7.off r_ (by omega)).wide (Nat.le_refl _) (by have := (r_).size; omega), f37_8⟩
      ·
        refine rga [] (by kernel_rfl) ?_ ?_
        · intro u_ I_
          have zu_ := I_.1.size
          refine rg_val (xmove rfl) rfl I_ (Mk.refl _ _ _) rfl
        refine rga [] (by kernel_rfl) ?_ ?_
        · intro u_ I_
          have zu_ := I_.1.size
          refine rg_val (xmove rfl) rfl I_ (Mk.refl _ _ _) rfl
        refine rga [] (by kernel_rfl) ?_ ?_
        · intro u_ I_
          have zu_ := I_.1.size
          refine rg_val (xmove rfl) rfl I_ (Mk.refl _ _ _) rfl
        refine rga [(1, some 19), (2, some 20)] (by kernel_rfl) ?_ ?_
        · rintro u_ I_ _ rfl _ rfl
          have zu_ := I_.1.size
          have G1 := G1.off I_.1 (by omega)
          have hh_ := (G1.sl).at (i := k) (by show k < 4; omega)
          refine rg_val (xindexN (i := k) Try.underlying49 Try.sizeOf9 rfl rfl rfl ((G1.sl).p (i := k) (by show k < 4; omega)) (by omega)) rfl I_ (Mk.refl _ _ _) ?_
          exact ⟨_, _, _, rfl, by simp only [pb, Option.getD_some]; omega, hh_, (by decide : ∀ x ∈ ([⟨#[98, 97, 110, 107]⟩, ⟨#[100, 105, 97, 114, 121]⟩, ⟨#[114, 101, 112, 111, 114, 116]⟩, ⟨#[116, 97, 112, 101]⟩] : List ByteArray), x.size ≤ 6) _ (List.getElem_mem _)⟩
        refine rga [(3, some 21)] (by kernel_rfl) ?_ ?_
        · rintro u_ I_ _ ⟨g21_0, g21_1, g21_2, rfl, f21_0, f21_1, f21_2⟩
          have zu_ := I_.1.size
          refine rg_val (xloadz Try.isAgg9 rfl f21_1 rfl) rfl I_ (Mk.refl _ _ _) ⟨g21_2, rfl, f21_2⟩
        refine rga [] (by kernel_rfl) ?_ ?_
        · intro u_ I_
          have zu_ := I_.1.size
          refine rg_val (xmove rfl) rfl I_ (Mk.refl _ _ _) rfl
        refine rga [(5, some 23)] (by kernel_rfl) ?_ ?_
        · rintro u_ I_ _ rfl
          have zu_ := I_.1.size
          refine rg_call (xcall Try.call86 rfl) rfl (l01Next_ok b cb (10) _ I_.2) ?_
          rintro _ w_ ⟨r_0, rfl, h_0, h_1, m_, S_⟩
          exact ⟨⟨I_.1.trans m_, S_⟩, m_, ⟨r_0, rfl, h_0, h_1⟩⟩
        refine rga [] (by kernel_rfl) ?_ ?_
        · intro u_ I_
          have zu_ := I_.1.size
          refine rg_val (xmove rfl) rfl I_ (Mk.refl _ _ _) rfl
        refine rga [(7, some 25)] (by kernel_rfl) ?_ ?_
        · rintro u_ I_ _ rfl
          have zu_ := I_.1.size
          refine rg_call (xcall Try.call102 rfl) rfl (l24DrawGroups_ok b cb _ I_.2) ?_
          rintro _ w_ ⟨r_0, r_1, r_2, r_3, rfl, h_0, h_1, h_2, m_, S_⟩
          exact ⟨⟨I_.1.trans m_, S_⟩, m_, ⟨r_0, r_1, r_2, r_3, rfl, h_0, h_1, h_2.wide (by omega) (Nat.le_refl _)⟩⟩
        refine rga [] (by kernel_rfl) ?_ ?_
        · intro u_ I_
          have zu_ := I_.1.size
          refine rg_val (xmove rfl) rfl I_ (Mk.refl _ _ _) rfl
        refine rga [] (by kernel_rfl) ?_ ?_
        · intro u_ I_
          have zu_ := I_.1.size
          refine rg_val (xmove rfl) rfl I_ (Mk.refl _ _ _) rfl
        refine rga [(10, some 28)] (by kernel_rfl) ?_ ?_
        · rintro u_ I_ _ rfl
          have zu_ := I_.1.size
          refine rg_call (xcall Try.call86 rfl) rfl (l01Next_ok b cb (50) _ I_.2) ?_
          rintro _ w_ ⟨r_0, rfl, h_0, h_1, m_, S_⟩
          exact ⟨⟨I_.1.trans m_, S_⟩, m_, ⟨r_0, rfl, h_0, h_1⟩⟩
        refine rga [(11, some 29)] (by kernel_rfl) ?_ ?_
        · rintro u_ I_ _ ⟨g29_0, rfl, f29_0, f29_1⟩
          have zu_ := I_.1.size
          refine rg_val (xadd rfl rfl (by unfold I64; omega)) rfl I_ (Mk.refl _ _ _) ⟨g29_0, rfl, f29_0, f29_1⟩
        refine rga [] (by kernel_rfl) ?_ ?_
        · intro u_ I_
          have zu_ := I_.1.size
          refine rg_val (xmove rfl) rfl I_ (Mk.refl _ _ _) rfl
        refine rga [(13, some 31)] (by kernel_rfl) ?_ ?_
        · rintro u_ I_ _ rfl
          have zu_ := I_.1.size
          refine rg_call (xcall Try.call86 rfl) rfl (l01Next_ok b cb (50) _ I_.2) ?_
          rintro _ w_ ⟨r_0, rfl, h_0, h_1, m_, S_⟩
          exact ⟨⟨I_.1.trans m_, S_⟩, m_, ⟨r_0, rfl, h_0, h_1⟩⟩
        refine rga [(14, some 32)] (by kernel_rfl) ?_ ?_
        · rintro u_ I_ _ ⟨g32_0, rfl, f32_0, f32_1⟩
          have zu_ := I_.1.size
          refine rg_val (xadd rfl rfl (by unfold I64; omega)) rfl I_ (Mk.refl _ _ _) ⟨g32_0, rfl, f32_0, f32_1⟩
        refine rga [(12, some 30), (15, some 33)] (by kernel_rfl) ?_ ?_
        · rintro u_ I_ _ ⟨g30_0, rfl, f30_0, f30_1⟩ _ ⟨g33_0, rfl, f33_0, f33_1⟩
          have zu_ := I_.1.size
          refine rg_build (len := 4) (vs := [.int .i64 0, .int .i64 (100 + g30_0), .int .i64 (100 + g33_0), .int .i64 20000]) (cs := [.int .i64 0, .int .i64 (100 + g30_0), .int .i64 (100 + g33_0), .int .i64 20000]) (sz := 1) Try.underlying94 inf2 rfl rfl (by decide) (by rfl) (by rfl) (by simp [Value.cells]) rfl rfl ?_
          intro b_ w_ e_ hb_ O_
          refine ⟨⟨I_.1.trans (Mk.ofExt e_), I_.2.ext e_⟩, Mk.ofExt e_, ⟨b_, g30_0, g33_0, rfl, (by omega), (Own.ow (lo := b_) (hi := b_ + 1) (enc := i64c) (sz := 1) (xs := [0, (100 + g30_0), (100 + g33_0), 20000]) (n := 4) (by simpa [xc, cellsFileS, strc, i64c] using O_) rfl (by omega) (Nat.le_refl _) (by omega) (by intro x hx; rfl)).sl, f30_0, f30_1, f33_0, f33_1⟩⟩
        refine rga [(9, some 27), (16, some 34)] (by kernel_rfl) ?_ ?_
        · rintro u_ I_ _ rfl _ ⟨g34_0, g34_1, g34_2, rfl, f34_0, f34_1, f34_2, f34_3, f34_4, f34_5⟩
          have zu_ := I_.1.size
          refine rg_call (xcall Try.call85 rfl) rfl (l01Pick_ok b cb _ _ _ [0, (100 + g34_1), (100 + g34_2), 20000] 20000 _ I_.2 f34_1 (by intro x hx; simp only [List.mem_cons, List.not_mem_nil, or_false] at hx; omega) (by omega) (by simp only [pb, Option.getD_some]; omega)) ?_
          rintro _ w_ ⟨r_0, rfl, h_0, m_, S_⟩
          exact ⟨⟨I_.1.trans m_, S_⟩, m_, ⟨r_0, rfl, h_0⟩⟩
        refine rga [(4, some 22), (6, some 24), (8, some 26), (17, some 35)] (by kernel_rfl) ?_ ?_
        · rintro u_ I_ _ ⟨g22_0, rfl, f22_0⟩ _ ⟨g24_0, rfl, f24_0, f24_1⟩ _ ⟨g26_0, g26_1, g26_2, g26_3, rfl, f26_0, f26_1, f26_2⟩ _ ⟨g35_0, rfl, f35_0⟩
          have zu_ := I_.1.size
          refine rg_val (xbuild (vs := [.string g22_0, .int .i64 g24_0, .slice g26_1 g26_2 g26_3, .int .i64 g35_0]) (cells := #[.string g22_0, .int .i64 g24_0, .slice g26_1 g26_2 g26_3, .int .i64 g35_0]) rfl (by kernel_rfl)) rfl I_ (Mk.refl _ _ _) ⟨g22_0, g24_0, g26_0, g26_1, g26_2, g26_3, g35_0, rfl, f22_0, f24_0, f24_1, f26_0, f26_1, f26_2, f35_0⟩
        refine rga [(18, some 36)] (by kernel_rfl) ?_ ?_
        · rintro u_ I_ _ ⟨g36_0, g36_1, g36_2, g36_3, g36_4, g36_5, g36_6, rfl, f36_0, f36_1, f36_2, f36_3, f36_4, f36_5, f36_6⟩
          have zu_ := I_.1.size
          refine rg_build (len := 1) (vs := [.agg #[.string g36_0, .int .i64 g36_1, .slice g36_3 g36_4 g36_5, .int .i64 g36_6]]) (cs := [.string g36_0, .int .i64 g36_1, .slice g36_3 g36_4 g36_5, .int .i64 g36_6]) (sz := 4) Try.underlying32 inf54 rfl rfl (by decide) (by rfl) (by rfl) (by simp [Value.cells]) rfl rfl ?_
          intro b_ w_ e_ hb_ O_
          refine ⟨⟨I_.1.trans (Mk.ofExt e_), I_.2.ext e_⟩, Mk.ofExt e_, ⟨b_, g36_0, g36_1, g36_2, g36_3, g36_4, g36_5, g36_6, rfl, (by omega), (Own.sl1 (y := (⟨⟨g36_0, g36_1, g36_2, g36_6⟩, ⟨g36_3, g36_4, g36_5⟩⟩ : X File)) (enc := (xc cellsFileS)) O_), f36_0, f36_1, f36_2, f36_3, f36_4, (f36_5.ext e_).wide (Nat.le_refl _) (by have := O_.lt; omega), f36_6⟩⟩
        exact rga_nil
      ·
        rintro w4 I_ _ rfl _ ⟨g37_0, g37_1, g37_2, g37_3, g37_4, g37_5, g37_6, g37_7, rfl, f37_0, f37_1, f37_2, f37_3, f37_4, f37_5, f37_6, f37_7, f37_8⟩
        have m4 := I_.1
        have z4 := m4.size
        have E := E.trans m4
        replace S := I_.2
        replace G_4 := G_4.off m4 (by omega)
        replace G1 := G1.off m4 (by omega)
        refine oappNT (bytes := 56) (nm := (m_4 + 1)) (z := (⟨⟨g37_1, g37_2, g37_3, g37_7⟩, ⟨g37_4, g37_5, g37_6⟩⟩ : X File)) G_4 (by decide) rfl rfl elem54 f37_1 (by intro h; cases h) rfl (by simp [xc, cellsFileS, Value.oneCell']) f37_7 (by omega) (by omega) (by omega) (by omega) (by omega) (by omega) (by omega) rfl  rfl rfl ?_
        intro p5 c5_ w5 m5 k5 G5
        have hz5 := m5.size
        have E := E.young m5 (by omega)
        replace S := S.off m5 (by omega)
        replace G1 := (by first | exact G1.off m5 (by omega) | exact G1.offP G_4.o k5 (by decide))
        refine ov (xassign rfl) rfl rfl rfl ?_
        refine ops_nil ?_
        refine run_inBlock ?_
        refine run_region ?_
        refine ov (xmove rfl) rfl rfl rfl ?_
        refine ov (xadd rfl rfl (by unfold I64; omega)) rfl rfl rfl ?_
        refine ov (xassign rfl) rfl rfl rfl ?_
        refine ops_nil ?_
        refine run_sub ?_ (hback4 (k + 1, p5, (m_4 + 1), c5_, _, w5) (⟨E, S, G1, G5.wide (by omega) (by omega), by omega, by omega, by omega, by omega, ok_app2 (y := (⟨⟨g37_1, g37_2, g37_3, g37_7⟩, ⟨g37_4, g37_5, g37_6⟩⟩ : X File)) hall ⟨Nat.le_trans f37_2 (by decide), (by show I64 _; unfold I64; dsimp only; omega), (fun y m => Nat.le_trans (f37_5 y m) (by decide)), (by show I64 _; unfold I64; dsimp only; omega)⟩⟩) (by first | omega | (dsimp only; omega)))
        exact ⟨rfl, rfl, rfl, rfl, trivial⟩
    ·
      refine ops_nil ?_
      refine run_cond_f rfl ?_
      refine run_skip ?_
      refine run_inBlock ?_
      refine run_region ?_
      refine ov (xmove rfl) rfl rfl rfl ?_
      refine ov (xadd rfl rfl (by unfold I64; omega)) rfl rfl rfl ?_
      refine ov (xassign rfl) rfl rfl rfl ?_
      refine ops_nil ?_
      refine run_sub ?_ (hback4 (k + 1, q_4, m_4, c_4, ys_4, w3) (⟨E, S, G1, G_4.wide (by omega) (by omega), by omega, by omega, by omega, by omega, hall⟩) (by first | omega | (dsimp only; omega)))
      exact ⟨rfl, rfl, rfl, rfl, trivial⟩
  ·
    refine ops_nil ?_
    refine run_cond_f rfl ?_
    refine run_exit rfl ?_
    refine run_seq ?_
    refine run_seq ?_
    refine run_region ?_
    refine ov (xmove rfl) rfl rfl rfl ?_
    refine oc (xcall Try.call86 rfl) rfl rfl rfl (l01Next_ok b cb (30) _ S) ?_
    rintro _ w3 ⟨r40_0, rfl, h40_0, h40_1, m3, S3⟩
    have z3 := m3.size
    have E := E.trans m3
    replace G_4 := G_4.off m3 (by omega)
    replace G1 := G1.off m3 (by omega)
    replace S := S3
    refine ops_nil ?_
    refine run_block ?_
    refine run_seq ?_
    refine run_region ?_
    refine ov (xeql rfl rfl _ rfl) rfl rfl rfl ?_
    refine ods (fun c42 => ?_) (fun c42 => ?_)
    ·
      refine ov (xassign rfl) rfl rfl rfl ?_
      refine ops_nil ?_
      refine run_cond_t rfl ?_
      refine run_region ?_
      refine ov (xmove rfl) rfl rfl rfl ?_
      refine ov (xmove rfl) rfl rfl rfl ?_
      refine obuild (cs := [.int .i64 5, .int .i64 10, .int .i64 (-1)]) (sz := 1) Try.underlying94 inf2 rfl rfl (by decide) rfl rfl (by simp [Value.cells]) rfl rfl rfl ?_
      intro b4 w4 e4 hb4 hz4 O4
      have E := E.trans (Mk.ofExt e4)
      replace G_4 := G_4.ext e4
      replace S := S.ext e4
      replace G1 := G1.ext e4
      have G4 : Ow i64c 1 2 w4 b4 (b4 + 1) (some ⟨b4, 0, none⟩) 3 3 ([5, 10, (-1)] : List Int) := Own.ow (by simpa [xc, cellsFileS, strc, i64c] using O4) rfl (by omega) (Nat.le_refl _) (by omega) (by intro x hx; rfl)
      refine oc (xcall Try.call85 rfl) rfl rfl rfl (l01Pick_ok b cb _ _ _ ([5, 10, (-1)] : List Int) 10 _ S (G4.sl) (by decide) (by omega) (by simp only [pb, Option.getD_some]; omega)) ?_
      rintro _ w5 ⟨r46_0, rfl, h46_0, m5, S5⟩
      have z5 := m5.size
      have E := E.trans m5
      replace G_4 := G_4.off m5 (by omega)
      replace G1 := G1.off m5 (by omega)
      replace G4 := G4.off m5 (by omega)
      replace S := S5
      refine ov (xmove rfl) rfl rfl rfl ?_
      refine obuild (cs := [.int .i64 5, .int .i64 20001]) (sz := 1) Try.underlying94 inf2 rfl rfl (by decide) rfl rfl (by simp [Value.cells]) rfl rfl rfl ?_
      intro b6 w6 e6 hb6 hz6 O6
      have E := E.trans (Mk.ofExt e6)
      replace G_4 := G_4.ext e6
      replace S := S.ext e6
      replace G1 := G1.ext e6
      replace G4 := G4.ext e6
      have G6 : Ow i64c 1 2 w6 b6 (b6 + 1) (some ⟨b6, 0, none⟩) 2 2 ([5, 20001] : List Int) := Own.ow (by simpa [xc, cellsFileS, strc, i64c] using O6) rfl (by omega) (Nat.le_refl _) (by omega) (by intro x hx; rfl)
      refine oc (xcall Try.call85 rfl) rfl rfl rfl (l01Pick_ok b cb _ _ _ ([5, 20001] : List Int) 20001 _ S (G6.sl) (by decide) (by omega) (by simp only [pb, Option.getD_some]; omega)) ?_
      rintro _ w7 ⟨r49_0, rfl, h49_0, m7, S7⟩
      have z7 := m7.size
      have E := E.trans m7
      replace G_4 := G_4.off m7 (by omega)
      replace G1 := G1.off m7 (by omega)
      replace G4 := G4.off m7 (by omega)
      replace G6 := G6.off m7 (by omega)
      replace S := S7
      refine ov (xbuild (vs := [.string ⟨#[98, 97, 110, 107]⟩, .int .i64 r46_0, .int .i64 r49_0]) (cells := #[.string ⟨#[98, 97, 110, 107]⟩, .int .i64 r46_0, .slice none 0 0, .int .i64 r49_0]) rfl (by kernel_rfl)) rfl rfl rfl ?_
      refine obuild (cs := [.string ⟨#[98, 97, 110, 107]⟩, .int .i64 r46_0, .slice none 0 0, .int .i64 r49_0]) (sz := 4) Try.underlying32 inf54 rfl rfl (by decide) rfl rfl (by simp [Value.cells]) rfl rfl rfl ?_
      intro b8 w8 e8 hb8 hz8 O8
      have E := E.trans (Mk.ofExt e8)
      replace G_4 := G_4.ext e8
      replace S := S.ext e8
      replace G1 := G1.ext e8
      replace G4 := G4.ext e8
      replace G6 := G6.ext e8
      refine oappNT (bytes := 56) (nm := (m_4 + 1)) (z := (⟨⟨⟨#[98, 97, 110, 107]⟩, r46_0, [], r49_0⟩, ⟨none, 0, 0⟩⟩ : X File)) G_4 (by decide) rfl rfl elem54 (Own.sl1 (y := ((⟨⟨⟨#[98, 97, 110, 107]⟩, r46_0, [], r49_0⟩, ⟨none, 0, 0⟩⟩ : X File) : X _)) O8) (by intro h; cases h) rfl (by simp [xc, cellsFileS, Value.oneCell']) (Ow.none strc 1 9 w8 w8.heap.size w8.heap.size) (by omega) (by omega) (by omega) (by omega) (by omega) (by omega) (by omega) rfl  rfl rfl ?_
      intro p9 c9_ w9 m9 k9 G9
      have hz9 := m9.size
      have E := E.young m9 (by omega)
      replace S := S.off m9 (by omega)
      replace G1 := (by first | exact G1.off m9 (by omega) | exact G1.offP G_4.o k9 (by decide))
      replace G4 := (by first | exact G4.off m9 (by omega) | exact G4.offP G_4.o k9 (by decide))
      replace G6 := (by first | exact G6.off m9 (by omega) | exact G6.offP G_4.o k9 (by decide))
      refine ov (xassign rfl) rfl rfl rfl ?_
      refine ops_nil ?_
      refine run_inBlock ?_
      refine run_seq ?_
      refine run_region ?_
      refine ov (xmove rfl) rfl rfl rfl ?_
      refine ov (xassign rfl) rfl rfl rfl ?_
      refine ops_nil ?_
      refine run_ret Try.func88 (res1 rfl rfl) ?_
      exact ⟨_, rfl, _, _, _, _, rfl, fun x m => (by obtain ⟨z, hz, rfl⟩ := List.mem_map.1 m; exact (ok_app2 (y := (⟨⟨⟨#[98, 97, 110, 107]⟩, r46_0, [], r49_0⟩, ⟨none, 0, 0⟩⟩ : X File)) hall ⟨(by show (⟨#[98, 97, 110, 107]⟩ : ByteArray).size ≤ _; decide), (by show I64 _; unfold I64; dsimp only; omega), (by intro y m; cases m), (by show I64 _; unfold I64; dsimp only; omega)⟩) z hz), by omega, ⟨_, rfl, G9.wide (by omega) (by omega)⟩, E, S⟩
    ·
      refine ov (xassign rfl) rfl rfl rfl ?_
      refine ops_nil ?_
      refine run_cond_f rfl ?_
      refine run_seq ?_
      refine run_region ?_
      refine ov (xeql rfl rfl _ rfl) rfl rfl rfl ?_
      refine ods (fun c54 => ?_) (fun c54 => ?_)
      ·
        refine ov (xassign rfl) rfl rfl rfl ?_
        refine ops_nil ?_
        refine run_cond_t rfl ?_
        refine run_seq ?_
        refine run_region ?_
        refine ov (xassign rfl) rfl rfl rfl ?_
        refine ops_nil ?_
        refine run_block ?_
        refine run_loop (ι := Nat × Option Addr × Nat × Nat × List (X (File)) × World) (fun x_ => match x_ with | (k, q_4, m_4, c_4, ys_4, wr2) => (Mk b (b + 1) w wr2) ∧ (Src wr2 b cb) ∧ (NOw cellsFileS 4 54 innFileS strc 1 9 wr2 b2 wr2.heap.size q_4 m_4 c_4 ys_4) ∧ (b2 ≤ wr2.heap.size) ∧ (w3.heap.size ≤ wr2.heap.size) ∧ (k ≤ 14) ∧ (m_4 ≤ 13) ∧ (∀ x ∈ ys_4, File.ok x.v)) (fun x_ => match x_ with | (k, q_4, m_4, c_4, ys_4, wr2) => [(0, .pointer (some ⟨b, 0, none⟩)), (4, .slice q_4 m_4 c_4), (6, .int .i64 (k : Int))]) (fun x_ => match x_ with | (k, q_4, m_4, c_4, ys_4, wr2) => wr2) (fun x_ => match x_ with | (k, q_4, m_4, c_4, ys_4, wr2) => 14 - k) ?_ (0, q_4, m_4, c_4, ys_4, w3) (⟨E, S, G_4.wide (by omega) (by omega), by omega, Nat.le_refl _, by omega, by omega, hall⟩) ⟨rfl, rfl, rfl, trivial⟩ rfl
        intro i_ hI_ hback13
        obtain ⟨k, q_4, m_4, c_4, ys_4, wr2⟩ := i_
        obtain ⟨E, S, G_4, lo_4, lz_wr2, hk, hm4, hall⟩ := hI_
        try dsimp only
        have zr := E.size
        have lg_4 := G_4.o.len
        refine run_seq ?_
        refine run_seq ?_
        refine run_region ?_
        refine ov (xmove rfl) rfl rfl rfl ?_
        refine ov (xlen Try.underlying32 rfl) rfl rfl rfl ?_
        refine ov (xmove rfl) rfl rfl rfl ?_
        refine oc (xcall Try.call86 rfl) rfl rfl rfl (l01Next_ok b cb (2) _ S) ?_
        rintro _ w4 ⟨r58_0, rfl, h58_0, h58_1, m4, S4⟩
        have z4 := m4.size
        have E := E.trans m4
        replace G_4 := G_4.off m4 (by omega)
        replace S := S4
        refine ov (xadd rfl rfl (by unfold I64; omega)) rfl rfl rfl ?_
        refine ov (xlss rfl rfl _ rfl) rfl rfl rfl ?_
        refine ods (fun c60 => ?_) (fun c60 => ?_)
        ·
          refine ov (xmove rfl) rfl rfl rfl ?_
          refine ov (xmove rfl) rfl rfl rfl ?_
          refine ov (xlss rfl rfl _ rfl) rfl rfl rfl ?_
          refine ods (fun c63 => ?_) (fun c63 => ?_)
          ·
            refine ov (xpick_t rfl rfl) rfl rfl rfl ?_
            refine ops_nil ?_
            refine run_cond_t rfl ?_
            refine run_skip ?_
            refine run_seq ?_
            refine run_block ?_
            refine run_region ?_
            refine ov (xmove rfl) rfl rfl rfl ?_
            refine ov (xmove rfl) rfl rfl rfl ?_
            refine ov (xmove rfl) rfl rfl rfl ?_
            refine ov (xadd rfl rfl (by unfold I64; omega)) rfl rfl rfl ?_
            refine ov (xsliceS Try.underlying9 rfl rfl rfl (by omega) (by omega) (by show _ ≤ ((14 : Nat) : Int); omega)) rfl rfl rfl ?_
            refine ov (xsadd rfl rfl (by have h1 := ext_size2 ⟨#[97, 98, 99, 100, 101, 102, 103, 104, 105, 106, 107, 108, 109, 110]⟩ (Int.toNat (k : Int)) (Int.toNat ((k : Int) + 1)); have h2 : (⟨#[120]⟩ : ByteArray).size = 1 := rfl; omega)) rfl rfl rfl ?_
            refine ov (xbuild (vs := [.string (⟨#[120]⟩ ++ (ByteArray.extract ⟨#[97, 98, 99, 100, 101, 102, 103, 104, 105, 106, 107, 108, 109, 110]⟩ (Int.toNat (k : Int)) (Int.toNat ((k : Int) + 1))))]) (cells := #[.string (⟨#[120]⟩ ++ (ByteArray.extract ⟨#[97, 98, 99, 100, 101, 102, 103, 104, 105, 106, 107, 108, 109, 110]⟩ (Int.toNat (k : Int)) (Int.toNat ((k : Int) + 1)))), .int .i64 0, .slice none 0 0, .int .i64 0]) rfl (by kernel_rfl)) rfl rfl rfl ?_
            refine obuild (cs := [.string (⟨#[120]⟩ ++ (ByteArray.extract ⟨#[97, 98, 99, 100, 101, 102, 103, 104, 105, 106, 107, 108, 109, 110]⟩ (Int.toNat (k : Int)) (Int.toNat ((k : Int) + 1)))), .int .i64 0, .slice none 0 0, .int .i64 0]) (sz := 4) Try.underlying32 inf54 rfl rfl (by decide) rfl rfl (by simp [Value.cells]) rfl rfl rfl ?_
            intro b5 w5 e5 hb5 hz5 O5
            have E := E.trans (Mk.ofExt e5)
            replace G_4 := G_4.ext e5
            replace S := S.ext e5
            refine oappNT (bytes := 56) (nm := (m_4 + 1)) (z := (⟨⟨((⟨#[120]⟩ : ByteArray) ++ (ByteArray.extract ⟨#[97, 98, 99, 100, 101, 102, 103, 104, 105, 106, 107, 108, 109, 110]⟩ (Int.toNat (k : Int)) (Int.toNat ((k : Int) + 1)))), 0, [], 0⟩, ⟨none, 0, 0⟩⟩ : X File)) G_4 (by decide) rfl rfl elem54 (Own.sl1 (y := ((⟨⟨((⟨#[120]⟩ : ByteArray) ++ (ByteArray.extract ⟨#[97, 98, 99, 100, 101, 102, 103, 104, 105, 106, 107, 108, 109, 110]⟩ (Int.toNat (k : Int)) (Int.toNat ((k : Int) + 1)))), 0, [], 0⟩, ⟨none, 0, 0⟩⟩ : X File) : X _)) O5) (by intro h; cases h) rfl (by simp [xc, cellsFileS, Value.oneCell']) (Ow.none strc 1 9 w5 w5.heap.size w5.heap.size) (by omega) (by omega) (by omega) (by omega) (by omega) (by omega) (by omega) rfl  rfl rfl ?_
            intro p6 c6_ w6 m6 k6 G6
            have hz6 := m6.size
            have E := E.young m6 (by omega)
            replace S := S.off m6 (by omega)
            refine ov (xassign rfl) rfl rfl rfl ?_
            refine ops_nil ?_
            refine run_inBlock ?_
            refine run_region ?_
            refine ov (xmove rfl) rfl rfl rfl ?_
            refine ov (xadd rfl rfl (by unfold I64; omega)) rfl rfl rfl ?_
            refine ov (xassign rfl) rfl rfl rfl ?_
            refine ops_nil ?_
            refine run_sub ?_ (hback13 (k + 1, p6, (m_4 + 1), c6_, _, w6) (⟨E, S, G6.wide (by omega) (by omega), by omega, by omega, by omega, by omega, ok_app2 (y := (⟨⟨((⟨#[120]⟩ : ByteArray) ++ (ByteArray.extract ⟨#[97, 98, 99, 100, 101, 102, 103, 104, 105, 106, 107, 108, 109, 110]⟩ (Int.toNat (k : Int)) (Int.toNat ((k : Int) + 1)))), 0, [], 0⟩, ⟨none, 0, 0⟩⟩ : X File)) hall ⟨(by dsimp only; rw [ByteArray.size_append]; have := ext_size2 ⟨#[97, 98, 99, 100, 101, 102, 103, 104, 105, 106, 107, 108, 109, 110]⟩ (Int.toNat (k : Int)) (Int.toNat ((k : Int) + 1)); have : (⟨#[120]⟩ : ByteArray).size = 1 := rfl; omega), (by show I64 _; unfold I64; dsimp only; omega), (by intro y m; cases m), (by show I64 _; unfold I64; dsimp only; omega)⟩⟩) (by first | omega | (dsimp only; omega)))
            exact ⟨rfl, rfl, rfl, trivial⟩
          ·
            refine ov (xpick_t rfl rfl) rfl rfl rfl ?_
            refine ops_nil ?_
            refine run_cond_f rfl ?_
            refine run_exit rfl ?_
            refine run_inBlock ?_
            refine run_seq ?_
            refine run_region ?_
            refine ov (xmove rfl) rfl rfl rfl ?_
            refine ov (xassign rfl) rfl rfl rfl ?_
            refine ops_nil ?_
            refine run_ret Try.func88 (res1 rfl rfl) ?_
            exact ⟨_, rfl, _, _, _, _, rfl, fun x m => (by obtain ⟨z, hz, rfl⟩ := List.mem_map.1 m; exact hall z hz), by omega, ⟨_, rfl, G_4.wide (by omega) (by omega)⟩, E, S⟩
        ·
          refine ov (xmove rfl) rfl rfl rfl ?_
          refine og rfl rfl rfl ?_
          refine og rfl rfl rfl ?_
          refine ov (xpick_f rfl rfl) rfl rfl rfl ?_
          refine ops_nil ?_
          refine run_cond_f rfl ?_
          refine run_exit rfl ?_
          refine run_inBlock ?_
          refine run_seq ?_
          refine run_region ?_
          refine ov (xmove rfl) rfl rfl rfl ?_
          refine ov (xassign rfl) rfl rfl rfl ?_
          refine ops_nil ?_
          refine run_ret Try.func88 (res1 rfl rfl) ?_
          exact ⟨_, rfl, _, _, _, _, rfl, fun x m => (by obtain ⟨z, hz, rfl⟩ := List.mem_map.1 m; exact hall z hz), by omega, ⟨_, rfl, G_4.wide (by omega) (by omega)⟩, E, S⟩
      ·
        refine ov (xassign rfl) rfl rfl rfl ?_
        refine ops_nil ?_
        refine run_cond_f rfl ?_
        refine run_skip ?_
        refine run_inBlock ?_
        refine run_seq ?_
        refine run_region ?_
        refine ov (xmove rfl) rfl rfl rfl ?_
        refine ov (xassign rfl) rfl rfl rfl ?_
        refine ops_nil ?_
        refine run_ret Try.func88 (res1 rfl rfl) ?_
        exact ⟨_, rfl, _, _, _, _, rfl, fun x m => (by obtain ⟨z, hz, rfl⟩ := List.mem_map.1 m; exact hall z hz), by omega, ⟨_, rfl, G_4.wide (by omega) (by omega)⟩, E, S⟩

set_option maxHeartbeats 2000000 in
theorem l24Names_ok (b cb lo hi lo2 hi2 : Nat) (p : Option Addr) (n c : Nat) (xs : List Role) (q : Option Addr) (m d : Nat) (ys : List File) (w : World) (S : Src w b cb) (H0 : OnRoleS w lo hi p n c xs) (K0 : OnFileS w lo2 hi2 q m d ys) (h1 : b < lo) (h2 : b < lo2) : Ret Try.prog 89 [.pointer (some ⟨b, 0, none⟩), .slice p n c, .slice q m d] w (fun v w' => ∃ (a1 a2 : ByteArray), v = .tuple #[.string a1, .string a2] ∧ Mk b (b + 1) w w' ∧ Src w' b cb) := by
  refine ret_of_run (N := 54) Try.func89 rfl rfl rfl ?_
  obtain ⟨zr, hzr, GR⟩ := H0
  obtain ⟨zf, hzf, GK⟩ := K0
  have hbl := S.lt
  have hcb := S.cb
  have lGR := GR.o.len
  have lGK := GK.o.len
  have lGRc := GR.o.sl.n64
  have lGKc := GK.o.sl.n64
  have E : Mk b (b + 1) w w := Mk.refl _ _ _
  refine run_seq ?_
  refine run_region ?_
  refine ov (xassign rfl) rfl rfl rfl ?_
  refine ov (xassign rfl) rfl rfl rfl ?_
  refine ops_nil ?_
  refine run_seq ?_
  refine run_rg (τ := [(0, .pointer (some ⟨b, 0, none⟩)), (1, .slice p n c), (2, .slice q m d)]) 12 [10, 11, 12, 13, 14, 15, 16, 17, 18, 19, 8, 9] (fun u_ => Mk b (b + 1) w u_ ∧ Src u_ b cb) (fun i_ => Mk b (b + 1)) (fun i_ v_ u_ => match i_ with | 0 => ∃ (y0_ : Nat), v_ = .slice (some ⟨y0_, 0, none⟩) 3 3 ∧ w.heap.size ≤ y0_ ∧ Sl strc 1 u_ (some ⟨y0_, 0, none⟩) 3 3 ([⟨#[106, 117, 100, 103, 101]⟩, ⟨#[110, 111, 110, 101]⟩, ⟨#[]⟩] : List ByteArray) | 1 => v_ = .pointer (some ⟨b, 0, none⟩) | 2 => ∃ (y0_ : Int), v_ = .int .i64 y0_ ∧ 0 ≤ y0_ ∧ (y0_ < 3 ∨ y0_ = 0) | 3 => ∃ (y0_ : Nat) (y1_ : Nat) (y2_ : ByteArray), v_ = .pointer (some ⟨y0_, y1_, none⟩) ∧ b < y0_ ∧ Cells u_ y0_ y1_ [.string y2_] ∧ (y2_).size ≤ 5 | 4 => ∃ (y0_ : ByteArray), v_ = .string y0_ ∧ (y0_).size ≤ 5 | 5 => ∃ (y0_ : Nat), v_ = .slice (some ⟨y0_, 0, none⟩) 3 3 ∧ w.heap.size ≤ y0_ ∧ Sl strc 1 u_ (some ⟨y0_, 0, none⟩) 3 3 ([⟨#[98, 97, 110, 107]⟩, ⟨#[110, 111, 110, 101]⟩, ⟨#[]⟩] : List ByteArray) | 6 => v_ = .pointer (some ⟨b, 0, none⟩) | 7 => ∃ (y0_ : Int), v_ = .int .i64 y0_ ∧ 0 ≤ y0_ ∧ (y0_ < 3 ∨ y0_ = 0) | 8 => ∃ (y0_ : Nat) (y1_ : Nat) (y2_ : ByteArray), v_ = .pointer (some ⟨y0_, y1_, none⟩) ∧ b < y0_ ∧ Cells u_ y0_ y1_ [.string y2_] ∧ (y2_).size ≤ 4 | 9 => ∃ (y0_ : ByteArray), v_ = .string y0_ ∧ (y0_).size ≤ 4 | 10 => ∃ (y0_ : ByteArray), v_ = .string y0_ ∧ (y0_).size ≤ 5 | 11 => ∃ (y0_ : ByteArray), v_ = .string y0_ ∧ (y0_).size ≤ 4 | _ => True) [(10, some 8), (11, some 9)] (by kernel_rfl) (by kernel_rfl) (by kernel_rfl) (by kernel_rfl) (by kernel_rfl) (by kernel_rfl) ⟨rfl, rfl, rfl, trivial⟩ rfl (fun u_ e_ z_ => ⟨Mk.ofExt e_, S.ext e_⟩) ?_ ?_ ?_
  · intro i_ j_ hi_ hj_ hij_ v_ u_ u2_ I_ I2_ r_ g_
    have zu_ := I_.1.size
    clear hi_
    rcases (by omega : j_ = 0 ∨ j_ = 1 ∨ j_ = 2 ∨ j_ = 3 ∨ j_ = 4 ∨ j_ = 5 ∨ j_ = 6 ∨ j_ = 7 ∨ j_ = 8 ∨ j_ = 9 ∨ j_ = 10 ∨ j_ = 11) with rfl | rfl | rfl | rfl | rfl | rfl | rfl | rfl | rfl | rfl | rfl | rfl
    · obtain ⟨g10_0, rfl, f10_0, f10_1⟩ := g_
      exact ⟨g10_0, rfl, f10_0, f10_1.off r_ (by simp only [pb, Option.getD_some]; omega)⟩
    · exact g_
    · exact g_
    · obtain ⟨g13_0, g13_1, g13_2, rfl, f13_0, f13_1, f13_2⟩ := g_
      exact ⟨g13_0, g13_1, g13_2, rfl, f13_0, r_.cells f13_1 (by omega), f13_2⟩
    · exact g_
    · obtain ⟨g15_0, rfl, f15_0, f15_1⟩ := g_
      exact ⟨g15_0, rfl, f15_0, f15_1.off r_ (by simp only [pb, Option.getD_some]; omega)⟩
    · exact g_
    · exact g_
    · obtain ⟨g18_0, g18_1, g18_2, rfl, f18_0, f18_1, f18_2⟩ := g_
      exact ⟨g18_0, g18_1, g18_2, rfl, f18_0, r_.cells f18_1 (by omega), f18_2⟩
    · exact g_
    · exact g_
    · exact g_
  ·
    refine rga [] (by kernel_rfl) ?_ ?_
    · intro u_ I_
      have zu_ := I_.1.size
      refine rg_build (len := 3) (vs := [.string ⟨#[106, 117, 100, 103, 101]⟩, .string ⟨#[110, 111, 110, 101]⟩, .string ⟨#[]⟩]) (cs := [.string ⟨#[106, 117, 100, 103, 101]⟩, .string ⟨#[110, 111, 110, 101]⟩, .string ⟨#[]⟩]) (sz := 1) Try.underlying49 inf9 rfl rfl (by decide) (by rfl) (by rfl) (by simp [Value.cells]) rfl rfl ?_
      intro b_ w_ e_ hb_ O_
      refine ⟨⟨I_.1.trans (Mk.ofExt e_), I_.2.ext e_⟩, Mk.ofExt e_, ⟨b_, rfl, (by omega), (Own.ow (lo := b_) (hi := b_ + 1) (enc := strc) (sz := 1) (xs := ([⟨#[106, 117, 100, 103, 101]⟩, ⟨#[110, 111, 110, 101]⟩, ⟨#[]⟩] : List ByteArray)) (n := 3) (by simpa [strc] using O_) rfl (by omega) (Nat.le_refl _) (by omega) (by intro x hx; rfl)).sl⟩⟩
    refine rga [] (by kernel_rfl) ?_ ?_
    · intro u_ I_
      have zu_ := I_.1.size
      refine rg_val (xmove rfl) rfl I_ (Mk.refl _ _ _) rfl
    refine rga [(1, some 11)] (by kernel_rfl) ?_ ?_
    · rintro u_ I_ _ rfl
      have zu_ := I_.1.size
      refine rg_call (xcall Try.call86 rfl) rfl (l01Next_ok b cb (3) _ I_.2) ?_
      rintro _ w_ ⟨r_0, rfl, h_0, h_1, m_, S_⟩
      exact ⟨⟨I_.1.trans m_, S_⟩, m_, ⟨r_0, rfl, h_0, h_1⟩⟩
    refine rga [(0, some 10), (2, some 12)] (by kernel_rfl) ?_ ?_
    · rintro u_ I_ _ ⟨g10_0, rfl, f10_0, f10_1⟩ _ ⟨g12_0, rfl, f12_0, f12_1⟩
      have zu_ := I_.1.size
      have hh_ := (f10_1).at (i := (g12_0).toNat) (by show (g12_0).toNat < 3; omega)
      refine rg_val (xindexN (i := (g12_0).toNat) Try.underlying49 Try.sizeOf9 rfl rfl (by omega) ((f10_1).p (i := (g12_0).toNat) (by show (g12_0).toNat < 3; omega)) (by omega)) rfl I_ (Mk.refl _ _ _) ?_
      exact ⟨_, _, _, rfl, by simp only [pb, Option.getD_some]; omega, hh_, (by decide : ∀ x ∈ ([⟨#[106, 117, 100, 103, 101]⟩, ⟨#[110, 111, 110, 101]⟩, ⟨#[]⟩] : List ByteArray), x.size ≤ 5) _ (List.getElem_mem _)⟩
    refine rga [(3, some 13)] (by kernel_rfl) ?_ ?_
    · rintro u_ I_ _ ⟨g13_0, g13_1, g13_2, rfl, f13_0, f13_1, f13_2⟩
      have zu_ := I_.1.size
      refine rg_val (xloadz Try.isAgg9 rfl f13_1 rfl) rfl I_ (Mk.refl _ _ _) ⟨g13_2, rfl, f13_2⟩
    refine rga [] (by kernel_rfl) ?_ ?_
    · intro u_ I_
      have zu_ := I_.1.size
      refine rg_build (len := 3) (vs := [.string ⟨#[98, 97, 110, 107]⟩, .string ⟨#[110, 111, 110, 101]⟩, .string ⟨#[]⟩]) (cs := [.string ⟨#[98, 97, 110, 107]⟩, .string ⟨#[110, 111, 110, 101]⟩, .string ⟨#[]⟩]) (sz := 1) Try.underlying49 inf9 rfl rfl (by decide) (by rfl) (by rfl) (by simp [Value.cells]) rfl rfl ?_
      intro b_ w_ e_ hb_ O_
      refine ⟨⟨I_.1.trans (Mk.ofExt e_), I_.2.ext e_⟩, Mk.ofExt e_, ⟨b_, rfl, (by omega), (Own.ow (lo := b_) (hi := b_ + 1) (enc := strc) (sz := 1) (xs := ([⟨#[98, 97, 110, 107]⟩, ⟨#[110, 111, 110, 101]⟩, ⟨#[]⟩] : List ByteArray)) (n := 3) (by simpa [strc] using O_) rfl (by omega) (Nat.le_refl _) (by omega) (by intro x hx; rfl)).sl⟩⟩
    refine rga [] (by kernel_rfl) ?_ ?_
    · intro u_ I_
      have zu_ := I_.1.size
      refine rg_val (xmove rfl) rfl I_ (Mk.refl _ _ _) rfl
    refine rga [(6, some 16)] (by kernel_rfl) ?_ ?_
    · rintro u_ I_ _ rfl
      have zu_ := I_.1.size
      refine rg_call (xcall Try.call86 rfl) rfl (l01Next_ok b cb (3) _ I_.2) ?_
      rintro _ w_ ⟨r_0, rfl, h_0, h_1, m_, S_⟩
      exact ⟨⟨I_.1.trans m_, S_⟩, m_, ⟨r_0, rfl, h_0, h_1⟩⟩
    refine rga [(5, some 15), (7, some 17)] (by kernel_rfl) ?_ ?_
    · rintro u_ I_ _ ⟨g15_0, rfl, f15_0, f15_1⟩ _ ⟨g17_0, rfl, f17_0, f17_1⟩
      have zu_ := I_.1.size
      have hh_ := (f15_1).at (i := (g17_0).toNat) (by show (g17_0).toNat < 3; omega)
      refine rg_val (xindexN (i := (g17_0).toNat) Try.underlying49 Try.sizeOf9 rfl rfl (by omega) ((f15_1).p (i := (g17_0).toNat) (by show (g17_0).toNat < 3; omega)) (by omega)) rfl I_ (Mk.refl _ _ _) ?_
      exact ⟨_, _, _, rfl, by simp only [pb, Option.getD_some]; omega, hh_, (by decide : ∀ x ∈ ([⟨#[98, 97, 110, 107]⟩, ⟨#[110, 111, 110, 101]⟩, ⟨#[]⟩] : List ByteArray), x.size ≤ 4) _ (List.getElem_mem _)⟩
    refine rga [(8, some 18)] (by kernel_rfl) ?_ ?_
    · rintro u_ I_ _ ⟨g18_0, g18_1, g18_2, rfl, f18_0, f18_1, f18_2⟩
      have zu_ := I_.1.size
      refine rg_val (xloadz Try.isAgg9 rfl f18_1 rfl) rfl I_ (Mk.refl _ _ _) ⟨g18_2, rfl, f18_2⟩
    refine rga [(4, some 14)] (by kernel_rfl) ?_ ?_
    · rintro u_ I_ _ ⟨g14_0, rfl, f14_0⟩
      have zu_ := I_.1.size
      refine rg_val (xassign rfl) rfl I_ (Mk.refl _ _ _) ⟨g14_0, rfl, f14_0⟩
    refine rga [(9, some 19)] (by kernel_rfl) ?_ ?_
    · rintro u_ I_ _ ⟨g19_0, rfl, f19_0⟩
      have zu_ := I_.1.size
      refine rg_val (xassign rfl) rfl I_ (Mk.refl _ _ _) ⟨g19_0, rfl, f19_0⟩
    exact rga_nil
  ·
    rintro w1 I_ _ ⟨g8_0, rfl, f8_0⟩ _ ⟨g9_0, rfl, f9_0⟩
    have m1 := I_.1
    have z1 := m1.size
    have E := E.trans m1
    replace S := I_.2
    replace GR := GR.off m1 (by omega)
    replace GK := GK.off m1 (by omega)
    refine ops_nil ?_
    refine run_seq ?_
    refine run_seq ?_
    refine run_region ?_
    refine ov (xmove rfl) rfl rfl rfl ?_
    refine ov (xlen Try.underlying25 rfl) rfl rfl rfl ?_
    refine ov (xgtr rfl rfl _ rfl) rfl rfl rfl ?_
    refine ods (fun c22 => ?_) (fun c22 => ?_)
    ·
      refine ov (xmove rfl) rfl rfl rfl ?_
      refine ov (xmove rfl) rfl rfl rfl ?_
      refine oc (xcall Try.call86 rfl) rfl rfl rfl (l01Next_ok b cb (8) _ S) ?_
      rintro _ w2 ⟨r25_0, rfl, h25_0, h25_1, m2, S2⟩
      have z2 := m2.size
      have E := E.trans m2
      replace GR := GR.off m2 (by omega)
      replace GK := GK.off m2 (by omega)
      replace S := S2
      refine ov (xgtr rfl rfl _ rfl) rfl rfl rfl ?_
      refine ods (fun c26 => ?_) (fun c26 => ?_)
      ·
        refine ov (xpick_t rfl rfl) rfl rfl rfl ?_
        refine ops_nil ?_
        refine run_cond_t rfl ?_
        refine run_region ?_
        refine ov (xmove rfl) rfl rfl rfl ?_
        refine ov (xmove rfl) rfl rfl rfl ?_
        refine ov (xmove rfl) rfl rfl rfl ?_
        refine ov (xlen Try.underlying25 rfl) rfl rfl rfl ?_
        refine oc (xcall Try.call86 rfl) rfl rfl rfl (l01Next_ok b cb ((n : Int)) _ S) ?_
        rintro _ w3 ⟨r32_0, rfl, h32_0, h32_1, m3, S3⟩
        have z3 := m3.size
        have E := E.trans m3
        replace GR := GR.off m3 (by omega)
        replace GK := GK.off m3 (by omega)
        replace S := S3
        have h33 := (GR.o.sl).at (i := r32_0.toNat) (by omega)
        refine ov (xindexN (i := r32_0.toNat) Try.underlying25 Try.sizeOf71 rfl rfl (by omega) ((GR.o.sl).p (i := r32_0.toNat) (by omega)) (by have := (GR.o.sl).len; omega)) rfl rfl rfl ?_
        refine ov (xfieldAddr fo71f0 rfl) rfl rfl rfl ?_
        refine ov (v := .string zr[r32_0.toNat].v.Name) (xload1 Try.isAgg9 rfl (h33) rfl) rfl rfl rfl ?_
        refine ov (xassign rfl) rfl rfl rfl ?_
        refine ops_nil ?_
        refine run_seq ?_
        refine run_seq ?_
        refine run_region ?_
        refine ov (xmove rfl) rfl rfl rfl ?_
        refine ov (xlen Try.underlying32 rfl) rfl rfl rfl ?_
        refine ov (xgtr rfl rfl _ rfl) rfl rfl rfl ?_
        refine ods (fun c38 => ?_) (fun c38 => ?_)
        ·
          refine ov (xmove rfl) rfl rfl rfl ?_
          refine ov (xmove rfl) rfl rfl rfl ?_
          refine oc (xcall Try.call86 rfl) rfl rfl rfl (l01Next_ok b cb (8) _ S) ?_
          rintro _ w4 ⟨r41_0, rfl, h41_0, h41_1, m4, S4⟩
          have z4 := m4.size
          have E := E.trans m4
          replace GR := GR.off m4 (by omega)
          replace GK := GK.off m4 (by omega)
          replace S := S4
          refine ov (xgtr rfl rfl _ rfl) rfl rfl rfl ?_
          refine ods (fun c42 => ?_) (fun c42 => ?_)
          ·
            refine ov (xpick_t rfl rfl) rfl rfl rfl ?_
            refine ops_nil ?_
            refine run_cond_t rfl ?_
            refine run_region ?_
            refine ov (xmove rfl) rfl rfl rfl ?_
            refine ov (xmove rfl) rfl rfl rfl ?_
            refine ov (xmove rfl) rfl rfl rfl ?_
            refine ov (xlen Try.underlying32 rfl) rfl rfl rfl ?_
            refine oc (xcall Try.call86 rfl) rfl rfl rfl (l01Next_ok b cb ((m : Int)) _ S) ?_
            rintro _ w5 ⟨r48_0, rfl, h48_0, h48_1, m5, S5⟩
            have z5 := m5.size
            have E := E.trans m5
            replace GR := GR.off m5 (by omega)
            replace GK := GK.off m5 (by omega)
            replace S := S5
            have h49 := (GK.o.sl).at (i := r48_0.toNat) (by omega)
            refine ov (xindexN (i := r48_0.toNat) Try.underlying32 Try.sizeOf54 rfl rfl (by omega) ((GK.o.sl).p (i := r48_0.toNat) (by omega)) (by have := (GK.o.sl).len; omega)) rfl rfl rfl ?_
            refine ov (xfieldAddr fo54f0 rfl) rfl rfl rfl ?_
            refine ov (v := .string zf[r48_0.toNat].v.Code) (xload1 Try.isAgg9 rfl (h49) rfl) rfl rfl rfl ?_
            refine ov (xassign rfl) rfl rfl rfl ?_
            refine ops_nil ?_
            refine run_seq ?_
            refine run_region ?_
            refine ov (xmove rfl) rfl rfl rfl ?_
            refine ov (xmove rfl) rfl rfl rfl ?_
            refine ov (xassign rfl) rfl rfl rfl ?_
            refine ov (xassign rfl) rfl rfl rfl ?_
            refine ops_nil ?_
            refine run_ret Try.func89 (res2 rfl rfl rfl) ?_
            exact ⟨_, rfl, _, _, rfl, E, S⟩
          ·
            refine ov (xpick_t rfl rfl) rfl rfl rfl ?_
            refine ops_nil ?_
            refine run_cond_f rfl ?_
            refine run_skip ?_
            refine run_seq ?_
            refine run_region ?_
            refine ov (xmove rfl) rfl rfl rfl ?_
            refine ov (xmove rfl) rfl rfl rfl ?_
            refine ov (xassign rfl) rfl rfl rfl ?_
            refine ov (xassign rfl) rfl rfl rfl ?_
            refine ops_nil ?_
            refine run_ret Try.func89 (res2 rfl rfl rfl) ?_
            exact ⟨_, rfl, _, _, rfl, E, S⟩
        ·
          refine ov (xmove rfl) rfl rfl rfl ?_
          refine og rfl rfl rfl ?_
          refine og rfl rfl rfl ?_
          refine og rfl rfl rfl ?_
          refine ov (xpick_f rfl rfl) rfl rfl rfl ?_
          refine ops_nil ?_
          refine run_cond_f rfl ?_
          refine run_skip ?_
          refine run_seq ?_
          refine run_region ?_
          refine ov (xmove rfl) rfl rfl rfl ?_
          refine ov (xmove rfl) rfl rfl rfl ?_
          refine ov (xassign rfl) rfl rfl rfl ?_
          refine ov (xassign rfl) rfl rfl rfl ?_
          refine ops_nil ?_
          refine run_ret Try.func89 (res2 rfl rfl rfl) ?_
          exact ⟨_, rfl, _, _, rfl, E, S⟩
      ·
        refine ov (xpick_t rfl rfl) rfl rfl rfl ?_
        refine ops_nil ?_
        refine run_cond_f rfl ?_
        refine run_skip ?_
        refine run_seq ?_
        refine run_seq ?_
        refine run_region ?_
        refine ov (xmove rfl) rfl rfl rfl ?_
        refine ov (xlen Try.underlying32 rfl) rfl rfl rfl ?_
        refine ov (xgtr rfl rfl _ rfl) rfl rfl rfl ?_
        refine ods (fun c38 => ?_) (fun c38 => ?_)
        ·
          refine ov (xmove rfl) rfl rfl rfl ?_
          refine ov (xmove rfl) rfl rfl rfl ?_
          refine oc (xcall Try.call86 rfl) rfl rfl rfl (l01Next_ok b cb (8) _ S) ?_
          rintro _ w3 ⟨r41_0, rfl, h41_0, h41_1, m3, S3⟩
          have z3 := m3.size
          have E := E.trans m3
          replace GR := GR.off m3 (by omega)
          replace GK := GK.off m3 (by omega)
          replace S := S3
          refine ov (xgtr rfl rfl _ rfl) rfl rfl rfl ?_
          refine ods (fun c42 => ?_) (fun c42 => ?_)
          ·
            refine ov (xpick_t rfl rfl) rfl rfl rfl ?_
            refine ops_nil ?_
            refine run_cond_t rfl ?_
            refine run_region ?_
            refine ov (xmove rfl) rfl rfl rfl ?_
            refine ov (xmove rfl) rfl rfl rfl ?_
            refine ov (xmove rfl) rfl rfl rfl ?_
            refine ov (xlen Try.underlying32 rfl) rfl rfl rfl ?_
            refine oc (xcall Try.call86 rfl) rfl rfl rfl (l01Next_ok b cb ((m : Int)) _ S) ?_
            rintro _ w4 ⟨r48_0, rfl, h48_0, h48_1, m4, S4⟩
            have z4 := m4.size
            have E := E.trans m4
            replace GR := GR.off m4 (by omega)
            replace GK := GK.off m4 (by omega)
            replace S := S4
            have h49 := (GK.o.sl).at (i := r48_0.toNat) (by omega)
            refine ov (xindexN (i := r48_0.toNat) Try.underlying32 Try.sizeOf54 rfl rfl (by omega) ((GK.o.sl).p (i := r48_0.toNat) (by omega)) (by have := (GK.o.sl).len; omega)) rfl rfl rfl ?_
            refine ov (xfieldAddr fo54f0 rfl) rfl rfl rfl ?_
            refine ov (v := .string zf[r48_0.toNat].v.Code) (xload1 Try.isAgg9 rfl (h49) rfl) rfl rfl rfl ?_
            refine ov (xassign rfl) rfl rfl rfl ?_
            refine ops_nil ?_
            refine run_seq ?_
            refine run_region ?_
            refine ov (xmove rfl) rfl rfl rfl ?_
            refine ov (xmove rfl) rfl rfl rfl ?_
            refine ov (xassign rfl) rfl rfl rfl ?_
            refine ov (xassign rfl) rfl rfl rfl ?_
            refine ops_nil ?_
            refine run_ret Try.func89 (res2 rfl rfl rfl) ?_
            exact ⟨_, rfl, _, _, rfl, E, S⟩
          ·
            refine ov (xpick_t rfl rfl) rfl rfl rfl ?_
            refine ops_nil ?_
            refine run_cond_f rfl ?_
            refine run_skip ?_
            refine run_seq ?_
            refine run_region ?_
            refine ov (xmove rfl) rfl rfl rfl ?_
            refine ov (xmove rfl) rfl rfl rfl ?_
            refine ov (xassign rfl) rfl rfl rfl ?_
            refine ov (xassign rfl) rfl rfl rfl ?_
            refine ops_nil ?_
            refine run_ret Try.func89 (res2 rfl rfl rfl) ?_
            exact ⟨_, rfl, _, _, rfl, E, S⟩
        ·
          refine ov (xmove rfl) rfl rfl rfl ?_
          refine og rfl rfl rfl ?_
          refine og rfl rfl rfl ?_
          refine og rfl rfl rfl ?_
          refine ov (xpick_f rfl rfl) rfl rfl rfl ?_
          refine ops_nil ?_
          refine run_cond_f rfl ?_
          refine run_skip ?_
          refine run_seq ?_
          refine run_region ?_
          refine ov (xmove rfl) rfl rfl rfl ?_
          refine ov (xmove rfl) rfl rfl rfl ?_
          refine ov (xassign rfl) rfl rfl rfl ?_
          refine ov (xassign rfl) rfl rfl rfl ?_
          refine ops_nil ?_
          refine run_ret Try.func89 (res2 rfl rfl rfl) ?_
          exact ⟨_, rfl, _, _, rfl, E, S⟩
    ·
      refine ov (xmove rfl) rfl rfl rfl ?_
      refine og rfl rfl rfl ?_
      refine og rfl rfl rfl ?_
      refine og rfl rfl rfl ?_
      refine ov (xpick_f rfl rfl) rfl rfl rfl ?_
      refine ops_nil ?_
      refine run_cond_f rfl ?_
      refine run_skip ?_
      refine run_seq ?_
      refine run_seq ?_
      refine run_region ?_
      refine ov (xmove rfl) rfl rfl rfl ?_
      refine ov (xlen Try.underlying32 rfl) rfl rfl rfl ?_
      refine ov (xgtr rfl rfl _ rfl) rfl rfl rfl ?_
      refine ods (fun c38 => ?_) (fun c38 => ?_)
      ·
        refine ov (xmove rfl) rfl rfl rfl ?_
        refine ov (xmove rfl) rfl rfl rfl ?_
        refine oc (xcall Try.call86 rfl) rfl rfl rfl (l01Next_ok b cb (8) _ S) ?_
        rintro _ w2 ⟨r41_0, rfl, h41_0, h41_1, m2, S2⟩
        have z2 := m2.size
        have E := E.trans m2
        replace GR := GR.off m2 (by omega)
        replace GK := GK.off m2 (by omega)
        replace S := S2
        refine ov (xgtr rfl rfl _ rfl) rfl rfl rfl ?_
        refine ods (fun c42 => ?_) (fun c42 => ?_)
        ·
          refine ov (xpick_t rfl rfl) rfl rfl rfl ?_
          refine ops_nil ?_
          refine run_cond_t rfl ?_
          refine run_region ?_
          refine ov (xmove rfl) rfl rfl rfl ?_
          refine ov (xmove rfl) rfl rfl rfl ?_
          refine ov (xmove rfl) rfl rfl rfl ?_
          refine ov (xlen Try.underlying32 rfl) rfl rfl rfl ?_
          refine oc (xcall Try.call86 rfl) rfl rfl rfl (l01Next_ok b cb ((m : Int)) _ S) ?_
          rintro _ w3 ⟨r48_0, rfl, h48_0, h48_1, m3, S3⟩
          have z3 := m3.size
          have E := E.trans m3
          replace GR := GR.off m3 (by omega)
          replace GK := GK.off m3 (by omega)
          replace S := S3
          have h49 := (GK.o.sl).at (i := r48_0.toNat) (by omega)
          refine ov (xindexN (i := r48_0.toNat) Try.underlying32 Try.sizeOf54 rfl rfl (by omega) ((GK.o.sl).p (i := r48_0.toNat) (by omega)) (by have := (GK.o.sl).len; omega)) rfl rfl rfl ?_
          refine ov (xfieldAddr fo54f0 rfl) rfl rfl rfl ?_
          refine ov (v := .string zf[r48_0.toNat].v.Code) (xload1 Try.isAgg9 rfl (h49) rfl) rfl rfl rfl ?_
          refine ov (xassign rfl) rfl rfl rfl ?_
          refine ops_nil ?_
          refine run_seq ?_
          refine run_region ?_
          refine ov (xmove rfl) rfl rfl rfl ?_
          refine ov (xmove rfl) rfl rfl rfl ?_
          refine ov (xassign rfl) rfl rfl rfl ?_
          refine ov (xassign rfl) rfl rfl rfl ?_
          refine ops_nil ?_
          refine run_ret Try.func89 (res2 rfl rfl rfl) ?_
          exact ⟨_, rfl, _, _, rfl, E, S⟩
        ·
          refine ov (xpick_t rfl rfl) rfl rfl rfl ?_
          refine ops_nil ?_
          refine run_cond_f rfl ?_
          refine run_skip ?_
          refine run_seq ?_
          refine run_region ?_
          refine ov (xmove rfl) rfl rfl rfl ?_
          refine ov (xmove rfl) rfl rfl rfl ?_
          refine ov (xassign rfl) rfl rfl rfl ?_
          refine ov (xassign rfl) rfl rfl rfl ?_
          refine ops_nil ?_
          refine run_ret Try.func89 (res2 rfl rfl rfl) ?_
          exact ⟨_, rfl, _, _, rfl, E, S⟩
      ·
        refine ov (xmove rfl) rfl rfl rfl ?_
        refine og rfl rfl rfl ?_
        refine og rfl rfl rfl ?_
        refine og rfl rfl rfl ?_
        refine ov (xpick_f rfl rfl) rfl rfl rfl ?_
        refine ops_nil ?_
        refine run_cond_f rfl ?_
        refine run_skip ?_
        refine run_seq ?_
        refine run_region ?_
        refine ov (xmove rfl) rfl rfl rfl ?_
        refine ov (xmove rfl) rfl rfl rfl ?_
        refine ov (xassign rfl) rfl rfl rfl ?_
        refine ov (xassign rfl) rfl rfl rfl ?_
        refine ops_nil ?_
        refine run_ret Try.func89 (res2 rfl rfl rfl) ?_
        exact ⟨_, rfl, _, _, rfl, E, S⟩

set_option maxHeartbeats 2000000 in
theorem DrawMaySee_ok (p : Option Addr) (n c : Nat) (bs : List Int) (w : World) (H : Sl u8c 1 w p n c bs) (hbs : ∀ x ∈ bs, 0 ≤ x ∧ x ≤ 255) : Ret Try.prog 50 [.slice p n c] w (fun v w' => Ext w w' ∧ ∃ (xs : List Role) (q : Option Addr) (m d : Nat) (ys : List File) (q2 : Option Addr) (m2 d2 : Nat) (a b : ByteArray) (day : Int), v = .tuple #[.slice q m d, .slice q2 m2 d2, .string a, .string b, .int .i64 day] ∧ (∀ x ∈ xs, x.ok) ∧ m ≤ 10 ∧ OnRoleS w' w.heap.size w'.heap.size q m d xs ∧ (∀ y ∈ ys, y.ok) ∧ m2 ≤ 14 ∧ OnFileS w' w.heap.size w'.heap.size q2 m2 d2 ys ∧ (-20001 ≤ day ∧ day ≤ 20001)) := by
  refine ret_of_run (N := 38) Try.func50 rfl rfl rfl ?_
  have hfar := H.blk (fun x => by simp [u8c])
  have E : Ext w w := Ext.refl w
  refine run_seq ?_
  refine run_region ?_
  refine ov (xassign rfl) rfl rfl rfl ?_
  refine ov (xassign rfl) rfl rfl rfl ?_
  refine ov (xassign rfl) rfl rfl rfl ?_
  refine ov (xassign rfl) rfl rfl rfl ?_
  refine ov (xassign rfl) rfl rfl rfl ?_
  refine ops_nil ?_
  refine run_seq ?_
  refine run_region ?_
  refine ov (xmove rfl) rfl rfl rfl ?_
  refine oc (xcall Try.call84 rfl) rfl rfl rfl (l01From_ok _ _ _ _ _ (H.ext E) (by assumption) w.heap.size hfar (by omega)) ?_
  rintro _ w1 ⟨e1, b13_, rfl, hcb13, S⟩
  have z1 := e1.size
  have E := E.trans e1
  have hcc13 := S.cb
  have hbl13 := S.lt
  refine ov (xassign rfl) rfl rfl rfl ?_
  refine ops_nil ?_
  refine run_seq ?_
  refine run_region ?_
  refine ov (xmove rfl) rfl rfl rfl ?_
  refine oc (xcall Try.call87 rfl) rfl rfl rfl (l24Roles_ok b13_ w.heap.size _ S) ?_
  rintro _ w2 ⟨r15_0, r15_1, r15_2, r15_3, rfl, h15_0, h15_1, h15_2, m2, S2⟩
  have z2 := m2.size
  have E := m2.toExt E (by omega)
  replace S := S2
  refine ov (xassign rfl) rfl rfl rfl ?_
  refine ops_nil ?_
  refine run_seq ?_
  refine run_region ?_
  refine ov (xmove rfl) rfl rfl rfl ?_
  refine oc (xcall Try.call88 rfl) rfl rfl rfl (l24Files_ok b13_ w.heap.size _ S) ?_
  rintro _ w3 ⟨r17_0, r17_1, r17_2, r17_3, rfl, h17_0, h17_1, h17_2, m3, S3⟩
  have z3 := m3.size
  have E := m3.toExt E (by omega)
  replace h15_2 := h15_2.off m3 (by omega)
  replace S := S3
  refine ov (xassign rfl) rfl rfl rfl ?_
  refine ops_nil ?_
  refine run_seq ?_
  refine run_region ?_
  refine ov (xmove rfl) rfl rfl rfl ?_
  refine ov (xmove rfl) rfl rfl rfl ?_
  refine ov (xmove rfl) rfl rfl rfl ?_
  refine oc (xcall Try.call89 rfl) rfl rfl rfl (l24Names_ok b13_ w.heap.size _ _ _ _ _ _ _ _ _ _ _ _ _ S (h15_2) (h17_2) (by omega) (by omega)) ?_
  rintro _ w4 ⟨r22_0, r22_1, rfl, m4, S4⟩
  have z4 := m4.size
  have E := m4.toExt E (by omega)
  replace h15_2 := h15_2.off m4 (by omega)
  replace h17_2 := h17_2.off m4 (by omega)
  replace S := S4
  refine ov (xmove rfl) rfl rfl rfl ?_
  refine ov (xextract rfl rfl) rfl rfl rfl ?_
  refine ov (xextract rfl rfl) rfl rfl rfl ?_
  refine ov (xassign rfl) rfl rfl rfl ?_
  refine ov (xassign rfl) rfl rfl rfl ?_
  refine ops_nil ?_
  refine run_seq ?_
  refine run_region ?_
  refine ov (xmove rfl) rfl rfl rfl ?_
  refine ov (xmove rfl) rfl rfl rfl ?_
  refine ov (xmove rfl) rfl rfl rfl ?_
  refine ov (xmove rfl) rfl rfl rfl ?_
  refine ov (xmove rfl) rfl rfl rfl ?_
  refine ov (xmove rfl) rfl rfl rfl ?_
  refine oc (xcall Try.call86 rfl) rfl rfl rfl (l01Next_ok b13_ w.heap.size (60) _ S) ?_
  rintro _ w5 ⟨r31_0, rfl, h31_0, h31_1, m5, S5⟩
  have z5 := m5.size
  have E := m5.toExt E (by omega)
  replace h15_2 := h15_2.off m5 (by omega)
  replace h17_2 := h17_2.off m5 (by omega)
  replace S := S5
  refine ov (xadd rfl rfl (by unfold I64; omega)) rfl rfl rfl ?_
  refine ov (xmove rfl) rfl rfl rfl ?_
  refine oc (xcall Try.call86 rfl) rfl rfl rfl (l01Next_ok b13_ w.heap.size (60) _ S) ?_
  rintro _ w6 ⟨r34_0, rfl, h34_0, h34_1, m6, S6⟩
  have z6 := m6.size
  have E := m6.toExt E (by omega)
  replace h15_2 := h15_2.off m6 (by omega)
  replace h17_2 := h17_2.off m6 (by omega)
  replace S := S6
  refine ov (xadd rfl rfl (by unfold I64; omega)) rfl rfl rfl ?_
  refine obuild (cs := [.int .i64 (100 + r31_0), .int .i64 (100 + r34_0), .int .i64 0, .int .i64 20000, .int .i64 20001, .int .i64 120]) (sz := 1) Try.underlying94 inf2 rfl rfl (by decide) rfl rfl (by simp [Value.cells]) rfl rfl rfl ?_
  intro b7 w7 e7 hb7 hz7 O7
  have E := E.trans e7
  replace S := S.ext e7
  replace h15_2 := h15_2.ext e7
  replace h17_2 := h17_2.ext e7
  have G7 : Ow i64c 1 2 w7 b7 (b7 + 1) (some ⟨b7, 0, none⟩) 6 6 ([100 + r31_0, 100 + r34_0, 0, 20000, 20001, 120] : List Int) := Own.ow (by simpa [i64c] using O7) rfl (by omega) (Nat.le_refl _) (by omega) (by intro x hx; rfl)
  refine oc (xcall Try.call85 rfl) rfl rfl rfl (l01Pick_ok b13_ w.heap.size _ _ _ [100 + r31_0, 100 + r34_0, 0, 20000, 20001, 120] 20001 _ S (G7.sl) (by intro x hx; simp only [List.mem_cons, List.not_mem_nil, or_false] at hx; omega) (by omega) (by simp only [pb, Option.getD_some]; omega)) ?_
  rintro _ w8 ⟨r37_0, rfl, h37_0, m8, S8⟩
  have z8 := m8.size
  have E := m8.toExt E (by omega)
  replace h15_2 := h15_2.off m8 (by omega)
  replace h17_2 := h17_2.off m8 (by omega)
  replace G7 := G7.off m8 (by omega)
  replace S := S8
  refine ov (xassign rfl) rfl rfl rfl ?_
  refine ov (xassign rfl) rfl rfl rfl ?_
  refine ov (xassign rfl) rfl rfl rfl ?_
  refine ov (xassign rfl) rfl rfl rfl ?_
  refine ov (xassign rfl) rfl rfl rfl ?_
  refine ops_nil ?_
  refine run_ret Try.func50 (res5 rfl rfl rfl rfl rfl rfl) ?_
  exact ⟨_, rfl, E, _, _, _, _, _, _, _, _, _, _, _, rfl, h15_0, by omega, h15_2.wide (by omega) (by omega), h17_0, by omega, h17_2.wide (by omega) (by omega), by omega⟩

set_option maxHeartbeats 2000000 in
theorem DrawSeenBy_ok (p : Option Addr) (n c : Nat) (bs : List Int) (w : World) (H : Sl u8c 1 w p n c bs) (hbs : ∀ x ∈ bs, 0 ≤ x ∧ x ≤ 255) : Ret Try.prog 33 [.slice p n c] w (fun v w' => Ext w w' ∧ ∃ (xs : List Role) (q : Option Addr) (m d : Nat) (ys : List File) (q2 : Option Addr) (m2 d2 : Nat) (a : ByteArray) (day : Int), v = .tuple #[.slice q m d, .slice q2 m2 d2, .string a, .int .i64 day] ∧ (∀ x ∈ xs, x.ok) ∧ m ≤ 10 ∧ OnRoleS w' w.heap.size w'.heap.size q m d xs ∧ (∀ y ∈ ys, y.ok) ∧ m2 ≤ 14 ∧ OnFileS w' w.heap.size w'.heap.size q2 m2 d2 ys ∧ (-20001 ≤ day ∧ day ≤ 20001)) := by
  refine ret_of_run (N := 23) Try.func33 rfl rfl rfl ?_
  have hfar := H.blk (fun x => by simp [u8c])
  have E : Ext w w := Ext.refl w
  refine run_seq ?_
  refine run_region ?_
  refine ov (xassign rfl) rfl rfl rfl ?_
  refine ov (xassign rfl) rfl rfl rfl ?_
  refine ov (xassign rfl) rfl rfl rfl ?_
  refine ov (xassign rfl) rfl rfl rfl ?_
  refine ops_nil ?_
  refine run_seq ?_
  refine run_region ?_
  refine ov (xmove rfl) rfl rfl rfl ?_
  refine oc (xcall Try.call50 rfl) rfl rfl rfl (DrawMaySee_ok _ _ _ _ _ (H.ext E) (by assumption)) ?_
  rintro _ w1 ⟨e1, rs13, q13, m13, d13, fs13, p13, n13, k13, a13, b13, day13, rfl, okR13, lR13, R13, okF13, lF13, F13, hday13⟩
  have z1 := e1.size
  have E := E.trans e1
  replace R13 : OnRoleS _ _ _ _ _ _ rs13 := R13
  replace F13 : OnFileS _ _ _ _ _ _ fs13 := F13
  obtain ⟨hdR13, HR13⟩ := On.sl R13
  obtain ⟨hdF13, HF13⟩ := On.sl F13
  have nR13 := HR13.len
  have nF13 := HF13.len
  refine ov (xmove rfl) rfl rfl rfl ?_
  refine ov (xextract rfl rfl) rfl rfl rfl ?_
  refine ov (xextract rfl rfl) rfl rfl rfl ?_
  refine ov (xextract rfl rfl) rfl rfl rfl ?_
  refine ov (xextract rfl rfl) rfl rfl rfl ?_
  refine ov (xextract rfl rfl) rfl rfl rfl ?_
  refine ov (xassign rfl) rfl rfl rfl ?_
  refine ov (xassign rfl) rfl rfl rfl ?_
  refine ov (xassign rfl) rfl rfl rfl ?_
  refine ov (xassign rfl) rfl rfl rfl ?_
  refine ov (xassign rfl) rfl rfl rfl ?_
  refine ops_nil ?_
  refine run_seq ?_
  refine run_region ?_
  refine ov (xmove rfl) rfl rfl rfl ?_
  refine ov (xmove rfl) rfl rfl rfl ?_
  refine ov (xmove rfl) rfl rfl rfl ?_
  refine ov (xmove rfl) rfl rfl rfl ?_
  refine ov (xassign rfl) rfl rfl rfl ?_
  refine ov (xassign rfl) rfl rfl rfl ?_
  refine ov (xassign rfl) rfl rfl rfl ?_
  refine ov (xassign rfl) rfl rfl rfl ?_
  refine ops_nil ?_
  refine run_ret Try.func33 (res4 rfl rfl rfl rfl rfl) ?_
  exact ⟨_, rfl, E, _, _, _, _, _, _, _, _, _, _, rfl, okR13, by omega, R13.wide (by omega) (by omega), okF13, by omega, F13.wide (by omega) (by omega), by omega⟩

set_option maxHeartbeats 2000000 in
theorem DrawWhoSees_ok (p : Option Addr) (n c : Nat) (bs : List Int) (w : World) (H : Sl u8c 1 w p n c bs) (hbs : ∀ x ∈ bs, 0 ≤ x ∧ x ≤ 255) : Ret Try.prog 36 [.slice p n c] w (fun v w' => Ext w w' ∧ ∃ (xs : List Role) (q : Option Addr) (m d : Nat) (ys : List File) (q2 : Option Addr) (m2 d2 : Nat) (b : ByteArray) (day : Int), v = .tuple #[.slice q m d, .slice q2 m2 d2, .string b, .int .i64 day] ∧ (∀ x ∈ xs, x.ok) ∧ m ≤ 10 ∧ OnRoleS w' w.heap.size w'.heap.size q m d xs ∧ (∀ y ∈ ys, y.ok) ∧ m2 ≤ 14 ∧ OnFileS w' w.heap.size w'.heap.size q2 m2 d2 ys ∧ (-20001 ≤ day ∧ day ≤ 20001)) := by
  refine ret_of_run (N := 23) Try.func36 rfl rfl rfl ?_
  have hfar := H.blk (fun x => by simp [u8c])
  have E : Ext w w := Ext.refl w
  refine run_seq ?_
  refine run_region ?_
  refine ov (xassign rfl) rfl rfl rfl ?_
  refine ov (xassign rfl) rfl rfl rfl ?_
  refine ov (xassign rfl) rfl rfl rfl ?_
  refine ov (xassign rfl) rfl rfl rfl ?_
  refine ops_nil ?_
  refine run_seq ?_
  refine run_region ?_
  refine ov (xmove rfl) rfl rfl rfl ?_
  refine oc (xcall Try.call50 rfl) rfl rfl rfl (DrawMaySee_ok _ _ _ _ _ (H.ext E) (by assumption)) ?_
  rintro _ w1 ⟨e1, rs13, q13, m13, d13, fs13, p13, n13, k13, a13, b13, day13, rfl, okR13, lR13, R13, okF13, lF13, F13, hday13⟩
  have z1 := e1.size
  have E := E.trans e1
  replace R13 : OnRoleS _ _ _ _ _ _ rs13 := R13
  replace F13 : OnFileS _ _ _ _ _ _ fs13 := F13
  obtain ⟨hdR13, HR13⟩ := On.sl R13
  obtain ⟨hdF13, HF13⟩ := On.sl F13
  have nR13 := HR13.len
  have nF13 := HF13.len
  refine ov (xmove rfl) rfl rfl rfl ?_
  refine ov (xextract rfl rfl) rfl rfl rfl ?_
  refine ov (xextract rfl rfl) rfl rfl rfl ?_
  refine ov (xextract rfl rfl) rfl rfl rfl ?_
  refine ov (xextract rfl rfl) rfl rfl rfl ?_
  refine ov (xextract rfl rfl) rfl rfl rfl ?_
  refine ov (xassign rfl) rfl rfl rfl ?_
  refine ov (xassign rfl) rfl rfl rfl ?_
  refine ov (xassign rfl) rfl rfl rfl ?_
  refine ov (xassign rfl) rfl rfl rfl ?_
  refine ov (xassign rfl) rfl rfl rfl ?_
  refine ops_nil ?_
  refine run_seq ?_
  refine run_region ?_
  refine ov (xmove rfl) rfl rfl rfl ?_
  refine ov (xmove rfl) rfl rfl rfl ?_
  refine ov (xmove rfl) rfl rfl rfl ?_
  refine ov (xmove rfl) rfl rfl rfl ?_
  refine ov (xassign rfl) rfl rfl rfl ?_
  refine ov (xassign rfl) rfl rfl rfl ?_
  refine ov (xassign rfl) rfl rfl rfl ?_
  refine ov (xassign rfl) rfl rfl rfl ?_
  refine ops_nil ?_
  refine run_ret Try.func36 (res4 rfl rfl rfl rfl rfl) ?_
  exact ⟨_, rfl, E, _, _, _, _, _, _, _, _, _, _, rfl, okR13, by omega, R13.wide (by omega) (by omega), okF13, by omega, F13.wide (by omega) (by omega), by omega⟩
end Go.Proofs.Ytbihpggbabmebaa
