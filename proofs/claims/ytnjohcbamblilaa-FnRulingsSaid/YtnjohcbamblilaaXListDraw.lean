/-
  Draws of lists of exhibits. No condition beyond those written in each theorem.
-/
import Derived.Test.YtnjohcbamblilaaExhDraw
import Derived.Test.YtnjohcbamblilaaExhF
import Derived.Test.YtnjohcbamblilaaRg2
import Derived.Test.YtnjohcbamblilaaNestClose
namespace Go.Proofs.Ytnjohcbamblilaa
open Go.RowKit
set_option linter.unusedVariables false
set_option linter.unusedSimpArgs false
set_option linter.unusedSectionVars false
set_option maxRecDepth 4000

set_option maxHeartbeats 8000000 in
theorem l23List_ok (b cb : Nat) (w : World) (S : Src w b cb) : Ret Try.prog 122 [.pointer (some ⟨b, 0, none⟩)] w (fun v w' => ∃ (xs : List Exhibit) (q : Option Addr) (m d : Nat), v = .slice q m d ∧ (∀ x ∈ xs, exOk x) ∧ m ≤ 12 ∧ OnExhibitS w' w.heap.size w'.heap.size q m d xs ∧ Mk b (b + 1) w w' ∧ Src w' b cb) := by
  refine ret_of_run (N := 59) Try.func122 rfl rfl rfl ?_
  have hbl := S.lt
  have hcb := S.cb
  have E : Mk b (b + 1) w w := Mk.refl _ _ _
  refine run_seq ?_
  refine run_region ?_
  refine ov (xassign rfl) rfl rfl rfl ?_
  refine ops_nil ?_
  refine run_seq ?_
  refine run_region ?_
  refine obuild (cs := [.string ⟨#[107, 110, 105, 102, 101]⟩, .string ⟨#[108, 101, 116, 116, 101, 114]⟩, .string ⟨#[112, 104, 111, 116, 111]⟩, .string ⟨#[114, 111, 112, 101]⟩, .string ⟨#[115, 104, 111, 101]⟩]) (sz := 1) Try.underlying66 inf9 rfl rfl (by decide) rfl rfl (by simp [Value.cells]) rfl rfl rfl ?_
  intro b1 w1 e1 hb1 hz1 O1
  have E := E.trans (Mk.ofExt e1)
  replace S := S.ext e1
  have G1 : Ow strc 1 9 w1 b1 (b1 + 1) (some ⟨b1, 0, none⟩) 5 5 ([⟨#[107, 110, 105, 102, 101]⟩, ⟨#[108, 101, 116, 116, 101, 114]⟩, ⟨#[112, 104, 111, 116, 111]⟩, ⟨#[114, 111, 112, 101]⟩, ⟨#[115, 104, 111, 101]⟩] : List ByteArray) := Own.ow (by simpa [xc, cellsExhibitS, strc] using O1) rfl (by omega) (Nat.le_refl _) (by omega) (by intro x hx; rfl)
  refine ov (xassign rfl) rfl rfl rfl ?_
  refine ops_nil ?_
  refine run_seq ?_
  refine run_region ?_
  refine obuild (cs := []) (sz := 5) Try.underlying85 inf49 rfl rfl (by decide) rfl rfl (by simp [Value.cells]) rfl rfl rfl ?_
  intro b2 w2 e2 hb2 hz2 O2
  have E := E.trans (Mk.ofExt e2)
  replace S := S.ext e2
  replace G1 := G1.ext e2
  have G2 : NOw cellsExhibitS 5 49 innExhibitS Handing.cells 4 77 w2 b2 (b2 + 1) (some ⟨b2, 0, none⟩) 0 0 [] := ⟨Own.ow (by simpa using O2) rfl (by omega) (Nat.le_refl _) (by omega) (by intro x hx; cases hx), Inn.nil⟩
  refine ov (xassign rfl) rfl rfl rfl ?_
  refine ops_nil ?_
  refine run_seq ?_
  refine run_seq ?_
  refine run_region ?_
  refine ov (xmove rfl) rfl rfl rfl ?_
  refine oc (xcall Try.call114 rfl) rfl rfl rfl (l01Next_ok b cb (6) _ S) ?_
  rintro _ w3 ⟨r10_0, rfl, h10_0, h10_1, m3, S3⟩
  have z3 := m3.size
  have E := E.trans m3
  replace G1 := G1.off m3 (by omega)
  replace G2 := G2.off m3 (by omega)
  replace S := S3
  refine ov (xassign rfl) rfl rfl rfl ?_
  refine ops_nil ?_
  refine run_block ?_
  refine run_loop (ι := Nat × Int × Option Addr × Nat × Nat × List (X (Exhibit)) × World) (fun x_ => match x_ with | (j, n, q_4, m_4, c_4, ys_4, wr) => (Mk b (b + 1) w wr) ∧ (Src wr b cb) ∧ (Ow strc 1 9 wr b1 (b1 + 1) (some ⟨b1, 0, none⟩) 5 5 ([⟨#[107, 110, 105, 102, 101]⟩, ⟨#[108, 101, 116, 116, 101, 114]⟩, ⟨#[112, 104, 111, 116, 111]⟩, ⟨#[114, 111, 112, 101]⟩, ⟨#[115, 104, 111, 101]⟩] : List ByteArray)) ∧ (NOw cellsExhibitS 5 49 innExhibitS Handing.cells 4 77 wr b2 wr.heap.size q_4 m_4 c_4 ys_4) ∧ (b2 ≤ wr.heap.size) ∧ (w3.heap.size ≤ wr.heap.size) ∧ ((j : Int) + n ≤ 5) ∧ (0 ≤ n) ∧ (m_4 = j) ∧ (∀ x ∈ ys_4, exOk x.v)) (fun x_ => match x_ with | (j, n, q_4, m_4, c_4, ys_4, wr) => [(0, .pointer (some ⟨b, 0, none⟩)), (3, .slice (some ⟨b1, 0, none⟩) 5 5), (4, .slice q_4 m_4 c_4), (5, .int .i64 n)]) (fun x_ => match x_ with | (j, n, q_4, m_4, c_4, ys_4, wr) => wr) (fun x_ => match x_ with | (j, n, q_4, m_4, c_4, ys_4, wr) => n.toNat) ?_ (0, r10_0, (some ⟨b2, 0, none⟩), 0, 0, [], w3) (⟨E, S, G1, G2.wide (by omega) (by omega), by omega, Nat.le_refl _, by omega, by omega, rfl, (by intro x hx; cases hx)⟩) ⟨rfl, rfl, rfl, rfl, trivial⟩ rfl
  intro i_ hI_ hback4
  obtain ⟨j, n, q_4, m_4, c_4, ys_4, wr⟩ := i_
  obtain ⟨E, S, G1, G_4, lo_4, lz_wr, hj, hn0, hm4, hall⟩ := hI_
  try dsimp only
  have zr := E.size
  have lg_4 := G_4.o.len
  refine run_seq ?_
  refine run_seq ?_
  refine run_region ?_
  refine ov (xmove rfl) rfl rfl rfl ?_
  refine ov (xgtr rfl rfl _ rfl) rfl rfl rfl ?_
  refine ods (fun c12 => ?_) (fun c12 => ?_)
  ·
    refine ops_nil ?_
    refine run_cond_t rfl ?_
    refine run_skip ?_
    refine run_seq ?_
    refine run_block ?_
    refine run_region ?_
    refine ov (xmove rfl) rfl rfl rfl ?_
    refine ov (xmove rfl) rfl rfl rfl ?_
    refine ov (xmove rfl) rfl rfl rfl ?_
    refine ov (xmove rfl) rfl rfl rfl ?_
    refine ov (xsub rfl rfl (by unfold I64; omega)) rfl rfl rfl ?_
    have h20 := (G1.sl).at (i := (n - 1).toNat) (by show (n - 1).toNat < 5; omega)
    refine ov (xindexN (i := (n - 1).toNat) Try.underlying66 Try.sizeOf9 rfl rfl (by omega) ((G1.sl).p (i := (n - 1).toNat) (by show (n - 1).toNat < 5; omega)) (by have := (G1.sl).len; omega)) rfl rfl rfl ?_
    refine ov (v := .string (([⟨#[107, 110, 105, 102, 101]⟩, ⟨#[108, 101, 116, 116, 101, 114]⟩, ⟨#[112, 104, 111, 116, 111]⟩, ⟨#[114, 111, 112, 101]⟩, ⟨#[115, 104, 111, 101]⟩] : List ByteArray)[(n - 1).toNat]'(by show (n - 1).toNat < 5; omega))) (xloadz Try.isAgg9 rfl (h20) rfl) rfl rfl rfl ?_
    have hnm := (by decide : ∀ x ∈ ([⟨#[107, 110, 105, 102, 101]⟩, ⟨#[108, 101, 116, 116, 101, 114]⟩, ⟨#[112, 104, 111, 116, 111]⟩, ⟨#[114, 111, 112, 101]⟩, ⟨#[115, 104, 111, 101]⟩] : List ByteArray), x.size ≤ 100) _ (List.getElem_mem (by show (n - 1).toNat < 5; omega : (n - 1).toNat < (([⟨#[107, 110, 105, 102, 101]⟩, ⟨#[108, 101, 116, 116, 101, 114]⟩, ⟨#[112, 104, 111, 116, 111]⟩, ⟨#[114, 111, 112, 101]⟩, ⟨#[115, 104, 111, 101]⟩] : List ByteArray)).length))
    refine oc (xcall Try.call113 rfl) rfl rfl rfl (l23Draw_ok b cb _ _ S hnm) ?_
    rintro _ w4 ⟨r22_0, r22_1, r22_2, r22_3, rfl, h22_0, h22_1, h22_2, m4, S4⟩
    have z4 := m4.size
    have E := E.trans m4
    replace G_4 := G_4.off m4 (by omega)
    replace G1 := G1.off m4 (by omega)
    replace S := S4
    have h22_2l := h22_2.len
    refine obuild (cs := [.string (r22_0).Code, .string (r22_0).Found, .int .i64 (r22_0).Day, .int .i64 (r22_0).Seal, .slice r22_1 r22_2 r22_3]) (sz := 5) Try.underlying85 inf49 rfl rfl (by decide) rfl rfl (by simp [Value.cells]) rfl rfl rfl ?_
    intro b5 w5 e5 hb5 hz5 O5
    have E := E.trans (Mk.ofExt e5)
    replace G_4 := G_4.ext e5
    replace S := S.ext e5
    replace G1 := G1.ext e5
    replace h22_2 := h22_2.ext e5
    refine oappNT (bytes := 72) (nm := (m_4 + 1)) (z := (⟨r22_0, ⟨r22_1, r22_2, r22_3⟩⟩ : X Exhibit)) G_4 (by decide) rfl rfl elem49 (Own.sl1 (y := ((⟨r22_0, ⟨r22_1, r22_2, r22_3⟩⟩ : X Exhibit) : X _)) O5) (by intro h; cases h) rfl (by simp [xc, cellsExhibitS, Value.oneCell']) h22_2 (by omega) (by omega) (by omega) (by omega) (by omega) (by omega) (by omega) rfl  rfl rfl ?_
    intro p6 c6_ w6 m6 k6 G6
    have hz6 := m6.size
    have E := E.young m6 (by omega)
    replace S := S.off m6 (by omega)
    replace G1 := (by first | exact G1.off m6 (by omega) | exact G1.offP G_4.o k6 (by decide))
    replace h22_2 := (by first | exact h22_2.off m6 (by omega) | exact h22_2.offP G_4.o k6 (by decide))
    refine ov (xassign rfl) rfl rfl rfl ?_
    refine ops_nil ?_
    refine run_inBlock ?_
    refine run_region ?_
    refine ov (xmove rfl) rfl rfl rfl ?_
    refine ov (xsub rfl rfl (by unfold I64; omega)) rfl rfl rfl ?_
    refine ov (xassign rfl) rfl rfl rfl ?_
    refine ops_nil ?_
    refine run_sub ?_ (hback4 (j + 1, n - 1, p6, (m_4 + 1), c6_, _, w6) (⟨E, S, G1, G6.wide (by omega) (by omega), by omega, by omega, by omega, by omega, by omega, ok_app3 (y := (⟨r22_0, ⟨r22_1, r22_2, r22_3⟩⟩ : X Exhibit)) hall h22_0⟩) (by first | omega | (dsimp only; omega)))
    exact ⟨rfl, rfl, rfl, rfl, trivial⟩
  ·
    refine ops_nil ?_
    refine run_cond_f rfl ?_
    refine run_exit rfl ?_
    refine run_seq ?_
    refine run_seq ?_
    refine run_region ?_
    refine ov (xmove rfl) rfl rfl rfl ?_
    refine oc (xcall Try.call114 rfl) rfl rfl rfl (l01Next_ok b cb (24) _ S) ?_
    rintro _ w4 ⟨r26_0, rfl, h26_0, h26_1, m4, S4⟩
    have z4 := m4.size
    have E := E.trans m4
    replace G_4 := G_4.off m4 (by omega)
    replace G1 := G1.off m4 (by omega)
    replace S := S4
    refine ops_nil ?_
    refine run_block ?_
    refine run_seq ?_
    refine run_region ?_
    refine ov (xeql rfl rfl _ rfl) rfl rfl rfl ?_
    refine ods (fun c28 => ?_) (fun c28 => ?_)
    ·
      refine ov (xassign rfl) rfl rfl rfl ?_
      refine ops_nil ?_
      refine run_cond_t rfl ?_
      refine run_region ?_
      refine ov (xmove rfl) rfl rfl rfl ?_
      refine ov (xmove rfl) rfl rfl rfl ?_
      refine oc (xcall Try.call138 rfl) rfl rfl rfl (l23Good_ok b cb _ _ S (by decide)) ?_
      rintro _ w5 ⟨r31_0, r31_1, r31_2, r31_3, rfl, h31_0, h31_1, h31_2, m5, S5⟩
      have z5 := m5.size
      have E := E.trans m5
      replace G_4 := G_4.off m5 (by omega)
      replace G1 := G1.off m5 (by omega)
      replace S := S5
      have h31_2l := h31_2.len
      refine obuild (cs := [.string (r31_0).Code, .string (r31_0).Found, .int .i64 (r31_0).Day, .int .i64 (r31_0).Seal, .slice r31_1 r31_2 r31_3]) (sz := 5) Try.underlying85 inf49 rfl rfl (by decide) rfl rfl (by simp [Value.cells]) rfl rfl rfl ?_
      intro b6 w6 e6 hb6 hz6 O6
      have E := E.trans (Mk.ofExt e6)
      replace G_4 := G_4.ext e6
      replace S := S.ext e6
      replace G1 := G1.ext e6
      replace h31_2 := h31_2.ext e6
      refine oappNT (bytes := 72) (nm := (m_4 + 1)) (z := (⟨r31_0, ⟨r31_1, r31_2, r31_3⟩⟩ : X Exhibit)) G_4 (by decide) rfl rfl elem49 (Own.sl1 (y := ((⟨r31_0, ⟨r31_1, r31_2, r31_3⟩⟩ : X Exhibit) : X _)) O6) (by intro h; cases h) rfl (by simp [xc, cellsExhibitS, Value.oneCell']) h31_2 (by omega) (by omega) (by omega) (by omega) (by omega) (by omega) (by omega) rfl  rfl rfl ?_
      intro p7 c7_ w7 m7 k7 G7
      have hz7 := m7.size
      have E := E.young m7 (by omega)
      replace S := S.off m7 (by omega)
      replace G1 := (by first | exact G1.off m7 (by omega) | exact G1.offP G_4.o k7 (by decide))
      replace h31_2 := (by first | exact h31_2.off m7 (by omega) | exact h31_2.offP G_4.o k7 (by decide))
      refine ov (xassign rfl) rfl rfl rfl ?_
      refine ops_nil ?_
      refine run_inBlock ?_
      refine run_seq ?_
      refine run_region ?_
      refine ov (xmove rfl) rfl rfl rfl ?_
      refine ov (xassign rfl) rfl rfl rfl ?_
      refine ops_nil ?_
      refine run_ret Try.func122 (res1 rfl rfl) ?_
      exact ⟨_, rfl, _, _, _, _, rfl, fun x m => (by obtain ⟨z, hz, rfl⟩ := List.mem_map.1 m; exact (ok_app3 (y := (⟨r31_0, ⟨r31_1, r31_2, r31_3⟩⟩ : X Exhibit)) hall h31_0) z hz), by omega, ⟨_, rfl, G7.wide (by omega) (by omega)⟩, E, S⟩
    ·
      refine ov (xassign rfl) rfl rfl rfl ?_
      refine ops_nil ?_
      refine run_cond_f rfl ?_
      refine run_seq ?_
      refine run_region ?_
      refine ov (xeql rfl rfl _ rfl) rfl rfl rfl ?_
      refine ods (fun c35 => ?_) (fun c35 => ?_)
      ·
        refine ov (xassign rfl) rfl rfl rfl ?_
        refine ops_nil ?_
        refine run_cond_t rfl ?_
        refine run_seq ?_
        refine run_region ?_
        refine ov (xassign rfl) rfl rfl rfl ?_
        refine ops_nil ?_
        refine run_block ?_
        refine run_loop (ι := Nat × Option Addr × Nat × Nat × List (X (Exhibit)) × World) (fun x_ => match x_ with | (k, q_4, m_4, c_4, ys_4, wr2) => (Mk b (b + 1) w wr2) ∧ (Src wr2 b cb) ∧ (NOw cellsExhibitS 5 49 innExhibitS Handing.cells 4 77 wr2 b2 wr2.heap.size q_4 m_4 c_4 ys_4) ∧ (b2 ≤ wr2.heap.size) ∧ (w4.heap.size ≤ wr2.heap.size) ∧ (k ≤ 12) ∧ (m_4 ≤ 11) ∧ (∀ x ∈ ys_4, exOk x.v)) (fun x_ => match x_ with | (k, q_4, m_4, c_4, ys_4, wr2) => [(0, .pointer (some ⟨b, 0, none⟩)), (4, .slice q_4 m_4 c_4), (6, .int .i64 (k : Int))]) (fun x_ => match x_ with | (k, q_4, m_4, c_4, ys_4, wr2) => wr2) (fun x_ => match x_ with | (k, q_4, m_4, c_4, ys_4, wr2) => 12 - k) ?_ (0, q_4, m_4, c_4, ys_4, w4) (⟨E, S, G_4.wide (by omega) (by omega), by omega, Nat.le_refl _, by omega, by omega, hall⟩) ⟨rfl, rfl, rfl, trivial⟩ rfl
        intro i_ hI_ hback12
        obtain ⟨k, q_4, m_4, c_4, ys_4, wr2⟩ := i_
        obtain ⟨E, S, G_4, lo_4, lz_wr2, hk, hm4, hall⟩ := hI_
        try dsimp only
        have zr := E.size
        have lg_4 := G_4.o.len
        refine run_seq ?_
        refine run_seq ?_
        refine run_region ?_
        refine ov (xmove rfl) rfl rfl rfl ?_
        refine ov (xlen Try.underlying85 rfl) rfl rfl rfl ?_
        refine ov (xmove rfl) rfl rfl rfl ?_
        refine oc (xcall Try.call114 rfl) rfl rfl rfl (l01Next_ok b cb (2) _ S) ?_
        rintro _ w5 ⟨r39_0, rfl, h39_0, h39_1, m5, S5⟩
        have z5 := m5.size
        have E := E.trans m5
        replace G_4 := G_4.off m5 (by omega)
        replace S := S5
        refine ov (xadd rfl rfl (by unfold I64; omega)) rfl rfl rfl ?_
        refine ov (xlss rfl rfl _ rfl) rfl rfl rfl ?_
        refine ods (fun c41 => ?_) (fun c41 => ?_)
        ·
          refine ov (xmove rfl) rfl rfl rfl ?_
          refine ov (xmove rfl) rfl rfl rfl ?_
          refine ov (xlss rfl rfl _ rfl) rfl rfl rfl ?_
          refine ods (fun c44 => ?_) (fun c44 => ?_)
          ·
            refine ov (xpick_t rfl rfl) rfl rfl rfl ?_
            refine ops_nil ?_
            refine run_cond_t rfl ?_
            refine run_skip ?_
            refine run_seq ?_
            refine run_block ?_
            refine run_region ?_
            refine ov (xmove rfl) rfl rfl rfl ?_
            refine ov (xmove rfl) rfl rfl rfl ?_
            refine ov (xmove rfl) rfl rfl rfl ?_
            refine ov (xmove rfl) rfl rfl rfl ?_
            refine ov (xadd rfl rfl (by unfold I64; omega)) rfl rfl rfl ?_
            refine ov (xsliceS Try.underlying9 rfl rfl rfl (by omega) (by omega) (by show _ ≤ ((12 : Nat) : Int); omega)) rfl rfl rfl ?_
            refine ov (xsadd rfl rfl (by have h1 := ext_size3 ⟨#[97, 98, 99, 100, 101, 102, 103, 104, 105, 106, 107, 108]⟩ (Int.toNat (k : Int)) (Int.toNat ((k : Int) + 1)); have h2 : (⟨#[120]⟩ : ByteArray).size = 1 := rfl; omega)) rfl rfl rfl ?_
            have hnm : ByteArray.size ((⟨#[120]⟩ : ByteArray) ++ (ByteArray.extract ⟨#[97, 98, 99, 100, 101, 102, 103, 104, 105, 106, 107, 108]⟩ (Int.toNat (k : Int)) (Int.toNat ((k : Int) + 1)))) ≤ 100 := by rw [ByteArray.size_append]; have := ext_size3 ⟨#[97, 98, 99, 100, 101, 102, 103, 104, 105, 106, 107, 108]⟩ (Int.toNat (k : Int)) (Int.toNat ((k : Int) + 1)); have : (⟨#[120]⟩ : ByteArray).size = 1 := rfl; omega
            refine oc (xcall Try.call138 rfl) rfl rfl rfl (l23Good_ok b cb _ _ S hnm) ?_
            rintro _ w6 ⟨r55_0, r55_1, r55_2, r55_3, rfl, h55_0, h55_1, h55_2, m6, S6⟩
            have z6 := m6.size
            have E := E.trans m6
            replace G_4 := G_4.off m6 (by omega)
            replace S := S6
            have h55_2l := h55_2.len
            refine obuild (cs := [.string (r55_0).Code, .string (r55_0).Found, .int .i64 (r55_0).Day, .int .i64 (r55_0).Seal, .slice r55_1 r55_2 r55_3]) (sz := 5) Try.underlying85 inf49 rfl rfl (by decide) rfl rfl (by simp [Value.cells]) rfl rfl rfl ?_
            intro b7 w7 e7 hb7 hz7 O7
            have E := E.trans (Mk.ofExt e7)
            replace G_4 := G_4.ext e7
            replace S := S.ext e7
            replace h55_2 := h55_2.ext e7
            refine oappNT (bytes := 72) (nm := (m_4 + 1)) (z := (⟨r55_0, ⟨r55_1, r55_2, r55_3⟩⟩ : X Exhibit)) G_4 (by decide) rfl rfl elem49 (Own.sl1 (y := ((⟨r55_0, ⟨r55_1, r55_2, r55_3⟩⟩ : X Exhibit) : X _)) O7) (by intro h; cases h) rfl (by simp [xc, cellsExhibitS, Value.oneCell']) h55_2 (by omega) (by omega) (by omega) (by omega) (by omega) (by omega) (by omega) rfl  rfl rfl ?_
            intro p8 c8_ w8 m8 k8 G8
            have hz8 := m8.size
            have E := E.young m8 (by omega)
            replace S := S.off m8 (by omega)
            replace h55_2 := (by first | exact h55_2.off m8 (by omega) | exact h55_2.offP G_4.o k8 (by decide))
            refine ov (xassign rfl) rfl rfl rfl ?_
            refine ops_nil ?_
            refine run_inBlock ?_
            refine run_region ?_
            refine ov (xmove rfl) rfl rfl rfl ?_
            refine ov (xadd rfl rfl (by unfold I64; omega)) rfl rfl rfl ?_
            refine ov (xassign rfl) rfl rfl rfl ?_
            refine ops_nil ?_
            refine run_sub ?_ (hback12 (k + 1, p8, (m_4 + 1), c8_, _, w8) (⟨E, S, G8.wide (by omega) (by omega), by omega, by omega, by omega, by omega, ok_app3 (y := (⟨r55_0, ⟨r55_1, r55_2, r55_3⟩⟩ : X Exhibit)) hall h55_0⟩) (by first | omega | (dsimp only; omega)))
            exact ⟨rfl, rfl, rfl, trivial⟩
          ·
            refine ov (xpick_t rfl rfl) rfl rfl rfl ?_
            refine ops_nil ?_
            refine run_cond_f rfl ?_
            refine run_exit rfl ?_
            refine run_inBlock ?_
            refine run_seq ?_
            refine run_region ?_
            refine ov (xmove rfl) rfl rfl rfl ?_
            refine ov (xassign rfl) rfl rfl rfl ?_
            refine ops_nil ?_
            refine run_ret Try.func122 (res1 rfl rfl) ?_
            exact ⟨_, rfl, _, _, _, _, rfl, fun x m => (by obtain ⟨z, hz, rfl⟩ := List.mem_map.1 m; exact hall z hz), by omega, ⟨_, rfl, G_4.wide (by omega) (by omega)⟩, E, S⟩
        ·
          refine ov (xmove rfl) rfl rfl rfl ?_
          refine og rfl rfl rfl ?_
          refine og rfl rfl rfl ?_
          refine ov (xpick_f rfl rfl) rfl rfl rfl ?_
          refine ops_nil ?_
          refine run_cond_f rfl ?_
          refine run_exit rfl ?_
          refine run_inBlock ?_
          refine run_seq ?_
          refine run_region ?_
          refine ov (xmove rfl) rfl rfl rfl ?_
          refine ov (xassign rfl) rfl rfl rfl ?_
          refine ops_nil ?_
          refine run_ret Try.func122 (res1 rfl rfl) ?_
          exact ⟨_, rfl, _, _, _, _, rfl, fun x m => (by obtain ⟨z, hz, rfl⟩ := List.mem_map.1 m; exact hall z hz), by omega, ⟨_, rfl, G_4.wide (by omega) (by omega)⟩, E, S⟩
      ·
        refine ov (xassign rfl) rfl rfl rfl ?_
        refine ops_nil ?_
        refine run_cond_f rfl ?_
        refine run_skip ?_
        refine run_inBlock ?_
        refine run_seq ?_
        refine run_region ?_
        refine ov (xmove rfl) rfl rfl rfl ?_
        refine ov (xassign rfl) rfl rfl rfl ?_
        refine ops_nil ?_
        refine run_ret Try.func122 (res1 rfl rfl) ?_
        exact ⟨_, rfl, _, _, _, _, rfl, fun x m => (by obtain ⟨z, hz, rfl⟩ := List.mem_map.1 m; exact hall z hz), by omega, ⟨_, rfl, G_4.wide (by omega) (by omega)⟩, E, S⟩
end Go.Proofs.Ytnjohcbamblilaa
