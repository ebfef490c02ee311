/-
  Draws of rulings. No condition beyond those written in each theorem.
-/
import Derived.Test.YtnjohcbamblilaaDraw
import Derived.Test.YtnjohcbamblilaaRulings
import Derived.Test.YtnjohcbamblilaaRg2
namespace Go.Proofs.Ytnjohcbamblilaa
open Go.RowKit
set_option linter.unusedVariables false
set_option linter.unusedSimpArgs false
set_option linter.unusedSectionVars false
set_option maxRecDepth 4000

theorem ok_app3 {α : Type} {q : α → Prop} {xs : List α} {y : α} (h : ∀ x ∈ xs, q x) (hy : q y) : ∀ x ∈ xs ++ [y], q x := fun x m => by
  rcases List.mem_append.1 m with m | m
  · exact h x m
  · rw [List.mem_singleton] at m; subst m; exact hy
theorem set_ok3 {α : Type} {q : α → Prop} {xs : List α} {i : Nat} {y : α} (h : ∀ x ∈ xs, q x) (hy : q y) : ∀ x ∈ xs.set i y, q x := fun x m => by
  rcases List.mem_or_eq_of_mem_set m with m | m
  · exact h x m
  · subst m; exact hy
theorem ext_size3 (s : ByteArray) (a b : Nat) : (s.extract a b).size ≤ b - a := by rw [ByteArray.size_extract]; omega
/-- a drawn ruling -/
def rulOk (x : Ruling) : Prop := (-1000000 ≤ x.Day ∧ x.Day ≤ 1000000) ∧ x.Code.size ≤ 100 ∧ (-10 ≤ x.Kind ∧ x.Kind ≤ 10)

set_option maxHeartbeats 400000 in
theorem l01Good_ok (b cb : Nat) (w : World) (S : Src w b cb) : Ret Try.prog 120 [.pointer (some ⟨b, 0, none⟩)] w (fun v w' => ∃ s : ByteArray, v = .string s ∧ s.size ≤ 100 ∧ Mk b (b + 1) w w' ∧ Src w' b cb) := by
  refine ret_of_run (N := 8) Try.func120 rfl rfl rfl ?_
  have hbl := S.lt
  have hcb := S.cb
  have E : Mk b (b + 1) w w := Mk.refl _ _ _
  refine run_seq ?_
  refine run_region ?_
  refine ov (xassign rfl) rfl rfl rfl ?_
  refine ops_nil ?_
  refine run_seq ?_
  refine run_region ?_
  refine obuild (cs := [.string ⟨#[97, 100, 97]⟩, .string ⟨#[98, 114, 117, 110, 111]⟩, .string ⟨#[99, 108, 97, 114, 97]⟩, .string ⟨#[100, 111, 114, 97]⟩, .string ⟨#[101, 109, 105, 108]⟩, .string ⟨#[102, 114, 105, 100, 97]⟩, .string ⟨#[103, 117, 115, 116, 97, 118]⟩, .string ⟨#[104, 97, 110, 110, 97]⟩, .string ⟨#[105, 118, 97, 110]⟩, .string ⟨#[106, 97, 110, 97]⟩, .string ⟨#[107, 97, 114, 108]⟩, .string ⟨#[108, 101, 110, 97]⟩]) (sz := 1) Try.underlying66 inf9 rfl rfl (by decide) rfl rfl (by simp [Value.cells]) rfl rfl rfl ?_
  intro b1 w1 e1 hb1 hz1 O1
  have E := E.trans (Mk.ofExt e1)
  replace S := S.ext e1
  have G1 : Ow strc 1 9 w1 b1 (b1 + 1) (some ⟨b1, 0, none⟩) 12 12 ([⟨#[97, 100, 97]⟩, ⟨#[98, 114, 117, 110, 111]⟩, ⟨#[99, 108, 97, 114, 97]⟩, ⟨#[100, 111, 114, 97]⟩, ⟨#[101, 109, 105, 108]⟩, ⟨#[102, 114, 105, 100, 97]⟩, ⟨#[103, 117, 115, 116, 97, 118]⟩, ⟨#[104, 97, 110, 110, 97]⟩, ⟨#[105, 118, 97, 110]⟩, ⟨#[106, 97, 110, 97]⟩, ⟨#[107, 97, 114, 108]⟩, ⟨#[108, 101, 110, 97]⟩] : List ByteArray) := Own.ow (by simpa [strc] using O1) rfl (by omega) (Nat.le_refl _) (by omega) (by intro x hx; rfl)
  refine ov (xmove rfl) rfl rfl rfl ?_
  refine oc (xcall Try.call114 rfl) rfl rfl rfl (l01Next_ok b cb (12) _ S) ?_
  rintro _ w2 ⟨r5_0, rfl, h5_0, h5_1, m2, S2⟩
  have z2 := m2.size
  have E := E.trans m2
  replace G1 := G1.off m2 (by omega)
  replace S := S2
  have h6 := (G1.sl).at (i := r5_0.toNat) (by show r5_0.toNat < 12; omega)
  refine ov (xindexN (i := r5_0.toNat) Try.underlying66 Try.sizeOf9 rfl rfl (by omega) ((G1.sl).p (i := r5_0.toNat) (by show r5_0.toNat < 12; omega)) (by have := (G1.sl).len; omega)) rfl rfl rfl ?_
  refine ov (v := .string (([⟨#[97, 100, 97]⟩, ⟨#[98, 114, 117, 110, 111]⟩, ⟨#[99, 108, 97, 114, 97]⟩, ⟨#[100, 111, 114, 97]⟩, ⟨#[101, 109, 105, 108]⟩, ⟨#[102, 114, 105, 100, 97]⟩, ⟨#[103, 117, 115, 116, 97, 118]⟩, ⟨#[104, 97, 110, 110, 97]⟩, ⟨#[105, 118, 97, 110]⟩, ⟨#[106, 97, 110, 97]⟩, ⟨#[107, 97, 114, 108]⟩, ⟨#[108, 101, 110, 97]⟩] : List ByteArray)[r5_0.toNat]'(by show r5_0.toNat < 12; omega))) (xloadz Try.isAgg9 rfl (h6) rfl) rfl rfl rfl ?_
  refine ov (xassign rfl) rfl rfl rfl ?_
  refine ops_nil ?_
  refine run_ret Try.func120 (res1 rfl rfl) ?_
  exact ⟨_, rfl, _, rfl, (by decide : ∀ x ∈ ([⟨#[97, 100, 97]⟩, ⟨#[98, 114, 117, 110, 111]⟩, ⟨#[99, 108, 97, 114, 97]⟩, ⟨#[100, 111, 114, 97]⟩, ⟨#[101, 109, 105, 108]⟩, ⟨#[102, 114, 105, 100, 97]⟩, ⟨#[103, 117, 115, 116, 97, 118]⟩, ⟨#[104, 97, 110, 110, 97]⟩, ⟨#[105, 118, 97, 110]⟩, ⟨#[106, 97, 110, 97]⟩, ⟨#[107, 97, 114, 108]⟩, ⟨#[108, 101, 110, 97]⟩] : List ByteArray), x.size ≤ 100) _ (List.getElem_mem _), E, S⟩

set_option maxHeartbeats 400000 in
theorem l01DrawWord_ok (b cb : Nat) (w : World) (S : Src w b cb) : Ret Try.prog 121 [.pointer (some ⟨b, 0, none⟩)] w (fun v w' => ∃ s : ByteArray, v = .string s ∧ s.size ≤ 100 ∧ Mk b (b + 1) w w' ∧ Src w' b cb) := by
  refine ret_of_run (N := 13) Try.func121 rfl rfl rfl ?_
  have hbl := S.lt
  have hcb := S.cb
  have E : Mk b (b + 1) w w := Mk.refl _ _ _
  refine run_seq ?_
  refine run_region ?_
  refine ov (xassign rfl) rfl rfl rfl ?_
  refine ops_nil ?_
  refine run_seq ?_
  refine run_seq ?_
  refine run_region ?_
  refine ov (xmove rfl) rfl rfl rfl ?_
  refine oc (xcall Try.call114 rfl) rfl rfl rfl (l01Next_ok b cb (24) _ S) ?_
  rintro _ w1 ⟨r4_0, rfl, h4_0, h4_1, m1, S1⟩
  have z1 := m1.size
  have E := E.trans m1
  replace S := S1
  refine ov (xeql rfl rfl _ rfl) rfl rfl rfl ?_
  refine ods (fun c5 => ?_) (fun c5 => ?_)
  ·
    refine ops_nil ?_
    refine run_cond_t rfl ?_
    refine run_seq ?_
    refine run_region ?_
    refine obuild (cs := [.string ⟨#[]⟩, .string ⟨#[65, 100, 97]⟩, .string ⟨#[97, 49]⟩, .string ⟨#[97, 98, 99, 100, 101, 102, 103, 104, 105, 106, 107, 108, 109, 110, 111, 112]⟩, .string ⟨#[97, 98, 99, 100, 101, 102, 103, 104, 105, 106, 107, 108, 109, 110, 111, 112, 113]⟩, .string ⟨#[97, 32, 98]⟩]) (sz := 1) Try.underlying66 inf9 rfl rfl (by decide) rfl rfl (by simp [Value.cells]) rfl rfl rfl ?_
    intro b2 w2 e2 hb2 hz2 O2
    have E := E.trans (Mk.ofExt e2)
    replace S := S.ext e2
    have G2 : Ow strc 1 9 w2 b2 (b2 + 1) (some ⟨b2, 0, none⟩) 6 6 ([⟨#[]⟩, ⟨#[65, 100, 97]⟩, ⟨#[97, 49]⟩, ⟨#[97, 98, 99, 100, 101, 102, 103, 104, 105, 106, 107, 108, 109, 110, 111, 112]⟩, ⟨#[97, 98, 99, 100, 101, 102, 103, 104, 105, 106, 107, 108, 109, 110, 111, 112, 113]⟩, ⟨#[97, 32, 98]⟩] : List ByteArray) := Own.ow (by simpa [strc] using O2) rfl (by omega) (Nat.le_refl _) (by omega) (by intro x hx; rfl)
    refine ov (xmove rfl) rfl rfl rfl ?_
    refine oc (xcall Try.call114 rfl) rfl rfl rfl (l01Next_ok b cb (6) _ S) ?_
    rintro _ w3 ⟨r8_0, rfl, h8_0, h8_1, m3, S3⟩
    have z3 := m3.size
    have E := E.trans m3
    replace G2 := G2.off m3 (by omega)
    replace S := S3
    have h9 := (G2.sl).at (i := r8_0.toNat) (by show r8_0.toNat < 6; omega)
    refine ov (xindexN (i := r8_0.toNat) Try.underlying66 Try.sizeOf9 rfl rfl (by omega) ((G2.sl).p (i := r8_0.toNat) (by show r8_0.toNat < 6; omega)) (by have := (G2.sl).len; omega)) rfl rfl rfl ?_
    refine ov (v := .string (([⟨#[]⟩, ⟨#[65, 100, 97]⟩, ⟨#[97, 49]⟩, ⟨#[97, 98, 99, 100, 101, 102, 103, 104, 105, 106, 107, 108, 109, 110, 111, 112]⟩, ⟨#[97, 98, 99, 100, 101, 102, 103, 104, 105, 106, 107, 108, 109, 110, 111, 112, 113]⟩, ⟨#[97, 32, 98]⟩] : List ByteArray)[r8_0.toNat]'(by show r8_0.toNat < 6; omega))) (xloadz Try.isAgg9 rfl (h9) rfl) rfl rfl rfl ?_
    refine ov (xassign rfl) rfl rfl rfl ?_
    refine ops_nil ?_
    refine run_ret Try.func121 (res1 rfl rfl) ?_
    exact ⟨_, rfl, _, rfl, (by decide : ∀ x ∈ ([⟨#[]⟩, ⟨#[65, 100, 97]⟩, ⟨#[97, 49]⟩, ⟨#[97, 98, 99, 100, 101, 102, 103, 104, 105, 106, 107, 108, 109, 110, 111, 112]⟩, ⟨#[97, 98, 99, 100, 101, 102, 103, 104, 105, 106, 107, 108, 109, 110, 111, 112, 113]⟩, ⟨#[97, 32, 98]⟩] : List ByteArray), x.size ≤ 100) _ (List.getElem_mem _), E, S⟩
  ·
    refine ops_nil ?_
    refine run_cond_f rfl ?_
    refine run_skip ?_
    refine run_seq ?_
    refine run_region ?_
    refine ov (xmove rfl) rfl rfl rfl ?_
    refine oc (xcall Try.call120 rfl) rfl rfl rfl (l01Good_ok b cb _ S) ?_
    rintro _ w2 ⟨r12_0, rfl, h12_0, m2, S2⟩
    have z2 := m2.size
    have E := E.trans m2
    replace S := S2
    refine ov (xassign rfl) rfl rfl rfl ?_
    refine ops_nil ?_
    refine run_ret Try.func121 (res1 rfl rfl) ?_
    exact ⟨_, rfl, _, rfl, by omega, E, S⟩

set_option maxHeartbeats 1000000 in
theorem l25Good_ok (b cb : Nat) (day : Int) (w : World) (S : Src w b cb) (hd : -1000000 ≤ day ∧ day ≤ 1000000) : Ret Try.prog 134 [.pointer (some ⟨b, 0, none⟩), .int .i64 day] w (fun v w' => ∃ x : Ruling, v = .agg #[.int .i64 x.Day, .string x.Code, .int .i64 x.Kind] ∧ rulOk x ∧ Mk b (b + 1) w w' ∧ Src w' b cb) := by
  refine ret_of_run (N := 15) Try.func134 rfl rfl rfl ?_
  have hbl := S.lt
  have hcb := S.cb
  have E : Mk b (b + 1) w w := Mk.refl _ _ _
  refine run_seq ?_
  refine run_region ?_
  refine oalloc Try.zeroValue37 rfl rfl ?_
  intro b1 w1 e1 hb1 hz1 O1
  have E := E.trans (Mk.ofExt e1)
  replace S := S.ext e1
  replace O1 : Own w1 b1 [.int .i64 0, .string ⟨#[]⟩, .int .i64 0] 37 := O1
  refine ops_nil ?_
  refine run_seq ?_
  refine run_rg (τ := [(0, .pointer (some ⟨b, 0, none⟩)), (1, .int .i64 day), (4, .pointer (some ⟨b1, 0, none⟩))]) 10 [5, 6, 7, 8, 9, 10, 11, 12, 13, 14] (fun u_ => Mk b (b + 1) w1 u_ ∧ Src u_ b cb) (fun i_ => Mk b (b + 1)) (fun i_ v_ u_ => match i_ with | 0 => v_ = .int .i64 day | 1 => ∃ (y0_ : Nat), v_ = .slice (some ⟨y0_, 0, none⟩) 4 4 ∧ w1.heap.size ≤ y0_ ∧ Sl strc 1 u_ (some ⟨y0_, 0, none⟩) 4 4 ([⟨#[107, 110, 105, 102, 101]⟩, ⟨#[108, 101, 116, 116, 101, 114]⟩, ⟨#[112, 104, 111, 116, 111]⟩, ⟨#[114, 111, 112, 101]⟩] : List ByteArray) | 2 => v_ = .pointer (some ⟨b, 0, none⟩) | 3 => ∃ (y0_ : Int), v_ = .int .i64 y0_ ∧ 0 ≤ y0_ ∧ (y0_ < 4 ∨ y0_ = 0) | 4 => ∃ (y0_ : Nat) (y1_ : Nat) (y2_ : ByteArray), v_ = .pointer (some ⟨y0_, y1_, none⟩) ∧ b < y0_ ∧ Cells u_ y0_ y1_ [.string y2_] ∧ (y2_).size ≤ 6 | 5 => ∃ (y0_ : ByteArray), v_ = .string y0_ ∧ (y0_).size ≤ 6 | 6 => v_ = .pointer (some ⟨b, 0, none⟩) | 7 => ∃ (y0_ : Nat), v_ = .slice (some ⟨y0_, 0, none⟩) 6 6 ∧ w1.heap.size ≤ y0_ ∧ Sl i64c 1 u_ (some ⟨y0_, 0, none⟩) 6 6 ([0, 0, 0, 1, 2, 3] : List Int) | 8 => ∃ (y0_ : Int), v_ = .int .i64 y0_ ∧ -3 ≤ y0_ ∧ y0_ ≤ 3 | 9 => ∃ (y0_ : ByteArray) (y1_ : Int), v_ = .agg #[.int .i64 day, .string y0_, .int .i64 y1_] ∧ (y0_).size ≤ 6 ∧ -3 ≤ y1_ ∧ y1_ ≤ 3 | _ => True) [(9, some 14)] (by kernel_rfl) (by kernel_rfl) (by kernel_rfl) (by kernel_rfl) (by kernel_rfl) (by kernel_rfl) ⟨rfl, rfl, rfl, trivial⟩ rfl (fun u_ e_ z_ => ⟨Mk.ofExt e_, S.ext e_⟩) ?_ ?_ ?_
  · intro i_ j_ hi_ hj_ hij_ v_ u_ u2_ I_ I2_ r_ g_
    have zu_ := I_.1.size
    clear hi_
    rcases (by omega : j_ = 0 ∨ j_ = 1 ∨ j_ = 2 ∨ j_ = 3 ∨ j_ = 4 ∨ j_ = 5 ∨ j_ = 6 ∨ j_ = 7 ∨ j_ = 8 ∨ j_ = 9) with rfl | rfl | rfl | rfl | rfl | rfl | rfl | rfl | rfl | rfl
    · exact g_
    · obtain ⟨g6_0, rfl, f6_0, f6_1⟩ := g_
      exact ⟨g6_0, rfl, f6_0, f6_1.off r_ (by simp only [pb, Option.getD_some]; omega)⟩
    · exact g_
    · exact g_
    · obtain ⟨g9_0, g9_1, g9_2, rfl, f9_0, f9_1, f9_2⟩ := g_
      exact ⟨g9_0, g9_1, g9_2, rfl, f9_0, r_.cells f9_1 (by omega), f9_2⟩
    · exact g_
    · exact g_
    · obtain ⟨g12_0, rfl, f12_0, f12_1⟩ := g_
      exact ⟨g12_0, rfl, f12_0, f12_1.off r_ (by simp only [pb, Option.getD_some]; omega)⟩
    · exact g_
    · exact g_
  ·
    refine rga [] (by kernel_rfl) ?_ ?_
    · intro u_ I_
      have zu_ := I_.1.size
      refine rg_val (xmove rfl) rfl I_ (Mk.refl _ _ _) rfl
    refine rga [] (by kernel_rfl) ?_ ?_
    · intro u_ I_
      have zu_ := I_.1.size
      refine rg_build (len := 4) (vs := [.string ⟨#[107, 110, 105, 102, 101]⟩, .string ⟨#[108, 101, 116, 116, 101, 114]⟩, .string ⟨#[112, 104, 111, 116, 111]⟩, .string ⟨#[114, 111, 112, 101]⟩]) (cs := [.string ⟨#[107, 110, 105, 102, 101]⟩, .string ⟨#[108, 101, 116, 116, 101, 114]⟩, .string ⟨#[112, 104, 111, 116, 111]⟩, .string ⟨#[114, 111, 112, 101]⟩]) (sz := 1) Try.underlying66 inf9 rfl rfl (by decide) (by rfl) (by rfl) (by simp [Value.cells]) rfl rfl ?_
      intro b_ w_ e_ hb_ O_
      refine ⟨⟨I_.1.trans (Mk.ofExt e_), I_.2.ext e_⟩, Mk.ofExt e_, ⟨b_, rfl, (by omega), (Own.ow (lo := b_) (hi := b_ + 1) (enc := strc) (sz := 1) (xs := ([⟨#[107, 110, 105, 102, 101]⟩, ⟨#[108, 101, 116, 116, 101, 114]⟩, ⟨#[112, 104, 111, 116, 111]⟩, ⟨#[114, 111, 112, 101]⟩] : List ByteArray)) (n := 4) (by simpa [strc] using O_) rfl (by omega) (Nat.le_refl _) (by omega) (by intro x hx; rfl)).sl⟩⟩
    refine rga [] (by kernel_rfl) ?_ ?_
    · intro u_ I_
      have zu_ := I_.1.size
      refine rg_val (xmove rfl) rfl I_ (Mk.refl _ _ _) rfl
    refine rga [(2, some 7)] (by kernel_rfl) ?_ ?_
    · rintro u_ I_ _ rfl
      have zu_ := I_.1.size
      refine rg_call (xcall Try.call114 rfl) rfl (l01Next_ok b cb (4) _ I_.2) ?_
      rintro _ w_ ⟨r_0, rfl, h_0, h_1, m_, S_⟩
      exact ⟨⟨I_.1.trans m_, S_⟩, m_, ⟨r_0, rfl, h_0, h_1⟩⟩
    refine rga [(1, some 6), (3, some 8)] (by kernel_rfl) ?_ ?_
    · rintro u_ I_ _ ⟨g6_0, rfl, f6_0, f6_1⟩ _ ⟨g8_0, rfl, f8_0, f8_1⟩
      have zu_ := I_.1.size
      have hh_ := (f6_1).at (i := (g8_0).toNat) (by show (g8_0).toNat < 4; omega)
      refine rg_val (xindexN (i := (g8_0).toNat) Try.underlying66 Try.sizeOf9 rfl rfl (by omega) ((f6_1).p (i := (g8_0).toNat) (by show (g8_0).toNat < 4; omega)) (by omega)) rfl I_ (Mk.refl _ _ _) ?_
      exact ⟨_, _, _, rfl, by simp only [pb, Option.getD_some]; omega, hh_, (by decide : ∀ x ∈ ([⟨#[107, 110, 105, 102, 101]⟩, ⟨#[108, 101, 116, 116, 101, 114]⟩, ⟨#[112, 104, 111, 116, 111]⟩, ⟨#[114, 111, 112, 101]⟩] : List ByteArray), x.size ≤ 6) _ (List.getElem_mem _)⟩
    refine rga [(4, some 9)] (by kernel_rfl) ?_ ?_
    · rintro u_ I_ _ ⟨g9_0, g9_1, g9_2, rfl, f9_0, f9_1, f9_2⟩
      have zu_ := I_.1.size
      refine rg_val (xloadz Try.isAgg9 rfl f9_1 rfl) rfl I_ (Mk.refl _ _ _) ⟨g9_2, rfl, f9_2⟩
    refine rga [] (by kernel_rfl) ?_ ?_
    · intro u_ I_
      have zu_ := I_.1.size
      refine rg_val (xmove rfl) rfl I_ (Mk.refl _ _ _) rfl
    refine rga [] (by kernel_rfl) ?_ ?_
    · intro u_ I_
      have zu_ := I_.1.size
      refine rg_build (len := 6) (vs := [.int .i64 0, .int .i64 0, .int .i64 0, .int .i64 1, .int .i64 2, .int .i64 3]) (cs := [.int .i64 0, .int .i64 0, .int .i64 0, .int .i64 1, .int .i64 2, .int .i64 3]) (sz := 1) Try.underlying55 inf2 rfl rfl (by decide) (by rfl) (by rfl) (by simp [Value.cells]) rfl rfl ?_
      intro b_ w_ e_ hb_ O_
      refine ⟨⟨I_.1.trans (Mk.ofExt e_), I_.2.ext e_⟩, Mk.ofExt e_, ⟨b_, rfl, (by omega), (Own.ow (lo := b_) (hi := b_ + 1) (enc := i64c) (sz := 1) (xs := ([0, 0, 0, 1, 2, 3] : List Int)) (n := 6) (by simpa [i64c] using O_) rfl (by omega) (Nat.le_refl _) (by omega) (by intro x hx; rfl)).sl⟩⟩
    refine rga [(6, some 11), (7, some 12)] (by kernel_rfl) ?_ ?_
    · rintro u_ I_ _ rfl _ ⟨g12_0, rfl, f12_0, f12_1⟩
      have zu_ := I_.1.size
      refine rg_call (xcall Try.call115 rfl) rfl (l01Pick_ok b cb _ _ _ ([0, 0, 0, 1, 2, 3] : List Int) 3 _ I_.2 f12_1 (by decide) (by omega) (by simp only [pb, Option.getD_some]; omega)) ?_
      rintro _ w_ ⟨r_0, rfl, h_0, m_, S_⟩
      exact ⟨⟨I_.1.trans m_, S_⟩, m_, ⟨r_0, rfl, h_0⟩⟩
    refine rga [(0, some 5), (5, some 10), (8, some 13)] (by kernel_rfl) ?_ ?_
    · rintro u_ I_ _ rfl _ ⟨g10_0, rfl, f10_0⟩ _ ⟨g13_0, rfl, f13_0⟩
      have zu_ := I_.1.size
      refine rg_val (xbuild (vs := [.int .i64 day, .string g10_0, .int .i64 g13_0]) (cells := #[.int .i64 day, .string g10_0, .int .i64 g13_0]) rfl (by kernel_rfl)) rfl I_ (Mk.refl _ _ _) ⟨g10_0, g13_0, rfl, f10_0, f13_0⟩
    exact rga_nil
  ·
    rintro w2 I_ _ ⟨g14_0, g14_1, rfl, f14_0, f14_1⟩
    have m2 := I_.1
    have z2 := m2.size
    have E := E.trans m2
    replace S := I_.2
    replace O1 := m2.own O1 (by omega)
    refine ostoreN (vs := _) Try.sizeOf37 rfl rfl O1 rfl (by simp) (by simp [Value.oneCell']) rfl ?_
    intro w3 on3 O3
    have hz3 := on3.size
    have E : Mk b (b + 1) w w3 := by first | exact E.trans (Mk.ofOnly on3 (by omega) (by omega)) | exact E.young (Mk.ofOnly on3 (Nat.le_refl _) (Nat.lt_succ_self _)) (by omega)
    replace S := S.off (Mk.ofOnly on3 (Nat.le_refl _) (Nat.lt_succ_self _)) (by omega)
    replace O3 : Own w3 b1 [.int .i64 day, .string g14_0, .int .i64 g14_1] 37 := O3
    refine ops_nil ?_
    refine run_ret Try.func134 (resc1 rfl rfl (run_loadVar_cells Try.isAgg37 Try.sizeOf37 O3.cells rfl)) ?_
    exact ⟨_, rfl, ⟨_, _, _⟩, rfl, ⟨by dsimp only; omega, by dsimp only; omega, by dsimp only; omega⟩, E, S⟩

set_option maxHeartbeats 4000000 in
theorem l25List_ok (b cb : Nat) (w : World) (S : Src w b cb) : Ret Try.prog 133 [.pointer (some ⟨b, 0, none⟩)] w (fun v w' => ∃ (xs : List Ruling) (q : Option Addr) (m d : Nat), v = .slice q m d ∧ (∀ x ∈ xs, rulOk x) ∧ m ≤ 30 ∧ Ow Ruling.cells 3 37 w' w.heap.size w'.heap.size q m d xs ∧ Mk b (b + 1) w w' ∧ Src w' b cb) := by
  refine ret_of_run (N := 61) Try.func133 rfl rfl rfl ?_
  have hbl := S.lt
  have hcb := S.cb
  have E : Mk b (b + 1) w w := Mk.refl _ _ _
  refine run_seq ?_
  refine run_region ?_
  refine ov (xassign rfl) rfl rfl rfl ?_
  refine ops_nil ?_
  refine run_seq ?_
  refine run_region ?_
  refine obuild (cs := []) (sz := 3) Try.underlying25 inf37 rfl rfl (by decide) rfl rfl (by simp [Value.cells]) rfl rfl rfl ?_
  intro b1 w1 e1 hb1 hz1 O1
  have E := E.trans (Mk.ofExt e1)
  replace S := S.ext e1
  have G1 : Ow Ruling.cells 3 37 w1 b1 (b1 + 1) (some ⟨b1, 0, none⟩) 0 0 ([] : List Ruling) := Own.ow (by simpa [Ruling.cells, strc, i64c] using O1) rfl (by omega) (Nat.le_refl _) (by omega) (by intro x hx; rfl)
  refine ov (xassign rfl) rfl rfl rfl ?_
  refine ops_nil ?_
  refine run_seq ?_
  refine run_region ?_
  refine ov (xmove rfl) rfl rfl rfl ?_
  refine oc (xcall Try.call114 rfl) rfl rfl rfl (l01Next_ok b cb (20) _ S) ?_
  rintro _ w2 ⟨r8_0, rfl, h8_0, h8_1, m2, S2⟩
  have z2 := m2.size
  have E := E.trans m2
  replace G1 := G1.off m2 (by omega)
  replace S := S2
  refine ov (xadd rfl rfl (by unfold I64; omega)) rfl rfl rfl ?_
  refine ov (xassign rfl) rfl rfl rfl ?_
  refine ops_nil ?_
  refine run_seq ?_
  refine run_seq ?_
  refine run_region ?_
  refine ov (xmove rfl) rfl rfl rfl ?_
  refine oc (xcall Try.call114 rfl) rfl rfl rfl (l01Next_ok b cb (9) _ S) ?_
  rintro _ w3 ⟨r11_0, rfl, h11_0, h11_1, m3, S3⟩
  have z3 := m3.size
  have E := E.trans m3
  replace G1 := G1.off m3 (by omega)
  replace S := S3
  refine ov (xassign rfl) rfl rfl rfl ?_
  refine ops_nil ?_
  refine run_block ?_
  refine run_loop (ι := Nat × Int × Int × Option Addr × Nat × Nat × List Ruling × World) (fun x_ => match x_ with | (k, n, day, q_3, m_3, c_3, ys_3, wr) => (Mk b (b + 1) w wr) ∧ (Src wr b cb) ∧ (Ow Ruling.cells 3 37 wr b1 wr.heap.size q_3 m_3 c_3 ys_3) ∧ (b1 ≤ wr.heap.size) ∧ (w3.heap.size ≤ wr.heap.size) ∧ ((k : Int) + n ≤ 9) ∧ (0 ≤ n) ∧ (m_3 = k) ∧ (100 ≤ day ∧ day ≤ 200 + 8 * k) ∧ (∀ x ∈ ys_3, rulOk x)) (fun x_ => match x_ with | (k, n, day, q_3, m_3, c_3, ys_3, wr) => [(0, .pointer (some ⟨b, 0, none⟩)), (3, .slice q_3 m_3 c_3), (4, .int .i64 day), (5, .int .i64 n)]) (fun x_ => match x_ with | (k, n, day, q_3, m_3, c_3, ys_3, wr) => wr) (fun x_ => match x_ with | (k, n, day, q_3, m_3, c_3, ys_3, wr) => n.toNat) ?_ (0, r11_0, (100 + r8_0), (some ⟨b1, 0, none⟩), 0, 0, [], w3) (⟨E, S, G1.wide (by omega) (by omega), by omega, Nat.le_refl _, by omega, by omega, rfl, by omega, (by intro x hx; cases hx)⟩) ⟨rfl, rfl, rfl, rfl, trivial⟩ rfl
  intro i_ hI_ hback4
  obtain ⟨k, n, day, q_3, m_3, c_3, ys_3, wr⟩ := i_
  obtain ⟨E, S, G_3, lo_3, lz_wr, hk, hn0, hm3, hday, hall⟩ := hI_
  try dsimp only
  have zr := E.size
  have lg_3 := G_3.len
  refine run_seq ?_
  refine run_seq ?_
  refine run_region ?_
  refine ov (xmove rfl) rfl rfl rfl ?_
  refine ov (xgtr rfl rfl _ rfl) rfl rfl rfl ?_
  refine ods (fun c13 => ?_) (fun c13 => ?_)
  ·
    refine ops_nil ?_
    refine run_cond_t rfl ?_
    refine run_skip ?_
    refine run_seq ?_
    refine run_block ?_
    refine run_seq ?_
    refine run_region ?_
    refine ov (xmove rfl) rfl rfl rfl ?_
    refine ov (xmove rfl) rfl rfl rfl ?_
    refine ov (xmove rfl) rfl rfl rfl ?_
    refine oc (xcall Try.call134 rfl) rfl rfl rfl (l25Good_ok b cb (day) _ S (by omega)) ?_
    rintro _ w4 ⟨r19_0, rfl, h19_0, m4, S4⟩
    have z4 := m4.size
    have E := E.trans m4
    replace G_3 := G_3.off m4 (by omega)
    replace S := S4
    refine obuild (cs := [.int .i64 (r19_0).Day, .string (r19_0).Code, .int .i64 (r19_0).Kind]) (sz := 3) Try.underlying25 inf37 rfl rfl (by decide) rfl rfl (by simp [Value.cells]) rfl rfl rfl ?_
    intro b5 w5 e5 hb5 hz5 O5
    have E := E.trans (Mk.ofExt e5)
    replace G_3 := G_3.ext e5
    replace S := S.ext e5
    refine oappT (bytes := 32) (nm := (m_3 + 1)) G_3 rfl rfl elem37 (Own.sl1 (y := r19_0) O5) (by intro h; cases h) (by intro y hy; rfl) (by intro y hy u hu; rw [List.mem_singleton] at hy; subst hy; revert u; simp [Value.oneCell', Ruling.cells, strc, i64c]) (by omega) (by omega) (by omega) (by omega) rfl rfl ?_
    intro p6 c6_ w6 m6 k6 G6
    have hz6 := m6.size
    have E := E.young m6 (by omega)
    replace S := S.off m6 (by omega)
    try replace O5 := m6.own O5 (by omega)
    refine ov (xassign rfl) rfl rfl rfl ?_
    refine ops_nil ?_
    refine run_region ?_
    refine ov (xmove rfl) rfl rfl rfl ?_
    refine ov (xmove rfl) rfl rfl rfl ?_
    refine oc (xcall Try.call114 rfl) rfl rfl rfl (l01Next_ok b cb (8) _ S) ?_
    rintro _ w7 ⟨r24_0, rfl, h24_0, h24_1, m7, S7⟩
    have z7 := m7.size
    have E := E.trans m7
    replace G6 := G6.off m7 (by omega)
    replace O5 := m7.own O5 (by omega)
    replace S := S7
    refine ov (xadd rfl rfl (by unfold I64; omega)) rfl rfl rfl ?_
    refine ov (xassign rfl) rfl rfl rfl ?_
    refine ops_nil ?_
    refine run_inBlock ?_
    refine run_region ?_
    refine ov (xmove rfl) rfl rfl rfl ?_
    refine ov (xsub rfl rfl (by unfold I64; omega)) rfl rfl rfl ?_
    refine ov (xassign rfl) rfl rfl rfl ?_
    refine ops_nil ?_
    refine run_sub ?_ (hback4 (k + 1, n - 1, day + r24_0, p6, (m_3 + 1), c6_, _, w7) (⟨E, S, G6.wide (by omega) (by omega), by omega, by omega, by omega, by omega, by omega, by omega, ok_app3 hall h19_0⟩) (by first | omega | (dsimp only; omega)))
    exact ⟨rfl, rfl, rfl, rfl, trivial⟩
  ·
    refine ops_nil ?_
    refine run_cond_f rfl ?_
    refine run_exit rfl ?_
    refine run_seq ?_
    refine run_seq ?_
    refine run_region ?_
    refine ov (xmove rfl) rfl rfl rfl ?_
    refine oc (xcall Try.call114 rfl) rfl rfl rfl (l01Next_ok b cb (30) _ S) ?_
    rintro _ w4 ⟨r27_0, rfl, h27_0, h27_1, m4, S4⟩
    have z4 := m4.size
    have E := E.trans m4
    replace G_3 := G_3.off m4 (by omega)
    replace S := S4
    refine ops_nil ?_
    refine run_block ?_
    refine run_seq ?_
    refine run_region ?_
    refine ov (xeql rfl rfl _ rfl) rfl rfl rfl ?_
    refine ods (fun c29 => ?_) (fun c29 => ?_)
    ·
      refine ov (xassign rfl) rfl rfl rfl ?_
      refine ops_nil ?_
      refine run_cond_t rfl ?_
      refine run_region ?_
      refine ov (xmove rfl) rfl rfl rfl ?_
      refine ov (xmove rfl) rfl rfl rfl ?_
      refine oc (xcall Try.call134 rfl) rfl rfl rfl (l25Good_ok b cb (99) _ S (by omega)) ?_
      rintro _ w5 ⟨r32_0, rfl, h32_0, m5, S5⟩
      have z5 := m5.size
      have E := E.trans m5
      replace G_3 := G_3.off m5 (by omega)
      replace S := S5
      refine obuild (cs := [.int .i64 (r32_0).Day, .string (r32_0).Code, .int .i64 (r32_0).Kind]) (sz := 3) Try.underlying25 inf37 rfl rfl (by decide) rfl rfl (by simp [Value.cells]) rfl rfl rfl ?_
      intro b6 w6 e6 hb6 hz6 O6
      have E := E.trans (Mk.ofExt e6)
      replace G_3 := G_3.ext e6
      replace S := S.ext e6
      refine oappT (bytes := 32) (nm := (m_3 + 1)) G_3 rfl rfl elem37 (Own.sl1 (y := r32_0) O6) (by intro h; cases h) (by intro y hy; rfl) (by intro y hy u hu; rw [List.mem_singleton] at hy; subst hy; revert u; simp [Value.oneCell', Ruling.cells, strc, i64c]) (by omega) (by omega) (by omega) (by omega) rfl rfl ?_
      intro p7 c7_ w7 m7 k7 G7
      have hz7 := m7.size
      have E := E.young m7 (by omega)
      replace S := S.off m7 (by omega)
      try replace O6 := m7.own O6 (by omega)
      refine ov (xassign rfl) rfl rfl rfl ?_
      refine ops_nil ?_
      refine run_inBlock ?_
      refine run_seq ?_
      refine run_region ?_
      refine ov (xmove rfl) rfl rfl rfl ?_
      refine ov (xassign rfl) rfl rfl rfl ?_
      refine ops_nil ?_
      refine run_ret Try.func133 (res1 rfl rfl) ?_
      exact ⟨_, rfl, _, _, _, _, rfl, ok_app3 hall h32_0, by omega, G7.wide (by omega) (by omega), E, S⟩
    ·
      refine ov (xassign rfl) rfl rfl rfl ?_
      refine ops_nil ?_
      refine run_cond_f rfl ?_
      refine run_seq ?_
      refine run_region ?_
      refine ov (xeql rfl rfl _ rfl) rfl rfl rfl ?_
      refine ods (fun c36 => ?_) (fun c36 => ?_)
      ·
        refine ov (xassign rfl) rfl rfl rfl ?_
        refine ops_nil ?_
        refine run_cond_t rfl ?_
        refine run_region ?_
        refine ov (xmove rfl) rfl rfl rfl ?_
        refine ov (xmove rfl) rfl rfl rfl ?_
        refine obuild (cs := [.int .i64 20000, .int .i64 20001]) (sz := 1) Try.underlying55 inf2 rfl rfl (by decide) rfl rfl (by simp [Value.cells]) rfl rfl rfl ?_
        intro b5 w5 e5 hb5 hz5 O5
        have E := E.trans (Mk.ofExt e5)
        replace G_3 := G_3.ext e5
        replace S := S.ext e5
        have G5 : Ow i64c 1 2 w5 b5 (b5 + 1) (some ⟨b5, 0, none⟩) 2 2 ([20000, 20001] : List Int) := Own.ow (by simpa [Ruling.cells, strc, i64c] using O5) rfl (by omega) (Nat.le_refl _) (by omega) (by intro x hx; rfl)
        refine oc (xcall Try.call115 rfl) rfl rfl rfl (l01Pick_ok b cb _ _ _ [20000, 20001] 20001 _ S (G5.sl) (by intro x hx; simp only [List.mem_cons, List.not_mem_nil, or_false] at hx; omega) (by omega) (by simp only [pb, Option.getD_some]; omega)) ?_
        rintro _ w6 ⟨r40_0, rfl, h40_0, m6, S6⟩
        have z6 := m6.size
        have E := E.trans m6
        replace G_3 := G_3.off m6 (by omega)
        replace G5 := G5.off m6 (by omega)
        replace S := S6
        refine ov (xmove rfl) rfl rfl rfl ?_
        refine oc (xcall Try.call114 rfl) rfl rfl rfl (l01Next_ok b cb (6) _ S) ?_
        rintro _ w7 ⟨r42_0, rfl, h42_0, h42_1, m7, S7⟩
        have z7 := m7.size
        have E := E.trans m7
        replace G_3 := G_3.off m7 (by omega)
        replace G5 := G5.off m7 (by omega)
        replace S := S7
        refine ov (xsub rfl rfl (by unfold I64; omega)) rfl rfl rfl ?_
        refine ov (xbuild (vs := [.int .i64 r40_0, .string ⟨#[107, 110, 105, 102, 101]⟩, .int .i64 (r42_0 - 1)]) (cells := #[.int .i64 r40_0, .string ⟨#[107, 110, 105, 102, 101]⟩, .int .i64 (r42_0 - 1)]) rfl (by kernel_rfl)) rfl rfl rfl ?_
        refine obuild (cs := [.int .i64 r40_0, .string ⟨#[107, 110, 105, 102, 101]⟩, .int .i64 (r42_0 - 1)]) (sz := 3) Try.underlying25 inf37 rfl rfl (by decide) rfl rfl (by simp [Value.cells]) rfl rfl rfl ?_
        intro b8 w8 e8 hb8 hz8 O8
        have E := E.trans (Mk.ofExt e8)
        replace G_3 := G_3.ext e8
        replace S := S.ext e8
        replace G5 := G5.ext e8
        refine oappT (bytes := 32) (nm := (m_3 + 1)) G_3 rfl rfl elem37 (Own.sl1 (y := (⟨(r40_0), (⟨#[107, 110, 105, 102, 101]⟩), ((r42_0 - 1))⟩ : Ruling)) O8) (by intro h; cases h) (by intro y hy; rfl) (by intro y hy u hu; rw [List.mem_singleton] at hy; subst hy; revert u; simp [Value.oneCell', Ruling.cells, strc, i64c]) (by omega) (by omega) (by omega) (by omega) rfl rfl ?_
        intro p9 c9_ w9 m9 k9 G9
        have hz9 := m9.size
        have E := E.young m9 (by omega)
        replace S := S.off m9 (by omega)
        replace G5 := (by first | exact G5.off m9 (by omega) | exact G5.offP G_3 k9 (by decide))
        try replace O8 := m9.own O8 (by omega)
        refine ov (xassign rfl) rfl rfl rfl ?_
        refine ops_nil ?_
        refine run_inBlock ?_
        refine run_seq ?_
        refine run_region ?_
        refine ov (xmove rfl) rfl rfl rfl ?_
        refine ov (xassign rfl) rfl rfl rfl ?_
        refine ops_nil ?_
        refine run_ret Try.func133 (res1 rfl rfl) ?_
        exact ⟨_, rfl, _, _, _, _, rfl, ok_app3 hall ⟨(by dsimp only; omega), (by dsimp only; decide), (by dsimp only; omega)⟩, by omega, G9.wide (by omega) (by omega), E, S⟩
      ·
        refine ov (xassign rfl) rfl rfl rfl ?_
        refine ops_nil ?_
        refine run_cond_f rfl ?_
        refine run_seq ?_
        refine run_region ?_
        refine ov (xeql rfl rfl _ rfl) rfl rfl rfl ?_
        refine ods (fun c48 => ?_) (fun c48 => ?_)
        ·
          refine ov (xassign rfl) rfl rfl rfl ?_
          refine ops_nil ?_
          refine run_cond_t rfl ?_
          refine run_block ?_
          refine run_loop (ι := Nat × Option Addr × Nat × Nat × List Ruling × World) (fun x_ => match x_ with | (k2, q_3, m_3, c_3, ys_3, wr2) => (Mk b (b + 1) w wr2) ∧ (Src wr2 b cb) ∧ (Ow Ruling.cells 3 37 wr2 b1 wr2.heap.size q_3 m_3 c_3 ys_3) ∧ (b1 ≤ wr2.heap.size) ∧ (w4.heap.size ≤ wr2.heap.size) ∧ (k2 ≤ 22) ∧ (m_3 = k2) ∧ (∀ x ∈ ys_3, rulOk x)) (fun x_ => match x_ with | (k2, q_3, m_3, c_3, ys_3, wr2) => [(0, .pointer (some ⟨b, 0, none⟩)), (3, .slice q_3 m_3 c_3)]) (fun x_ => match x_ with | (k2, q_3, m_3, c_3, ys_3, wr2) => wr2) (fun x_ => match x_ with | (k2, q_3, m_3, c_3, ys_3, wr2) => 30 - k2) ?_ (m_3, q_3, m_3, c_3, ys_3, w4) (⟨E, S, G_3.wide (by omega) (by omega), by omega, Nat.le_refl _, by omega, rfl, hall⟩) ⟨rfl, rfl, trivial⟩ rfl
          intro i_ hI_ hback14
          obtain ⟨k2, q_3, m_3, c_3, ys_3, wr2⟩ := i_
          obtain ⟨E, S, G_3, lo_3, lz_wr2, hk2, hm32, hall⟩ := hI_
          try dsimp only
          have zr := E.size
          have lg_3 := G_3.len
          refine run_seq ?_
          refine run_seq ?_
          refine run_region ?_
          refine ov (xmove rfl) rfl rfl rfl ?_
          refine ov (xlen Try.underlying25 rfl) rfl rfl rfl ?_
          refine ov (xmove rfl) rfl rfl rfl ?_
          refine oc (xcall Try.call114 rfl) rfl rfl rfl (l01Next_ok b cb (2) _ S) ?_
          rintro _ w5 ⟨r52_0, rfl, h52_0, h52_1, m5, S5⟩
          have z5 := m5.size
          have E := E.trans m5
          replace G_3 := G_3.off m5 (by omega)
          replace S := S5
          refine ov (xadd rfl rfl (by unfold I64; omega)) rfl rfl rfl ?_
          refine ov (xlss rfl rfl _ rfl) rfl rfl rfl ?_
          refine ods (fun c54 => ?_) (fun c54 => ?_)
          ·
            refine ops_nil ?_
            refine run_cond_t rfl ?_
            refine run_skip ?_
            refine run_block ?_
            refine run_region ?_
            refine ov (xmove rfl) rfl rfl rfl ?_
            refine ov (xmove rfl) rfl rfl rfl ?_
            refine oc (xcall Try.call134 rfl) rfl rfl rfl (l25Good_ok b cb (300) _ S (by omega)) ?_
            rintro _ w6 ⟨r57_0, rfl, h57_0, m6, S6⟩
            have z6 := m6.size
            have E := E.trans m6
            replace G_3 := G_3.off m6 (by omega)
            replace S := S6
            refine obuild (cs := [.int .i64 (r57_0).Day, .string (r57_0).Code, .int .i64 (r57_0).Kind]) (sz := 3) Try.underlying25 inf37 rfl rfl (by decide) rfl rfl (by simp [Value.cells]) rfl rfl rfl ?_
            intro b7 w7 e7 hb7 hz7 O7
            have E := E.trans (Mk.ofExt e7)
            replace G_3 := G_3.ext e7
            replace S := S.ext e7
            refine oappT (bytes := 32) (nm := (m_3 + 1)) G_3 rfl rfl elem37 (Own.sl1 (y := r57_0) O7) (by intro h; cases h) (by intro y hy; rfl) (by intro y hy u hu; rw [List.mem_singleton] at hy; subst hy; revert u; simp [Value.oneCell', Ruling.cells, strc, i64c]) (by omega) (by omega) (by omega) (by omega) rfl rfl ?_
            intro p8 c8_ w8 m8 k8 G8
            have hz8 := m8.size
            have E := E.young m8 (by omega)
            replace S := S.off m8 (by omega)
            try replace O7 := m8.own O7 (by omega)
            refine ov (xassign rfl) rfl rfl rfl ?_
            refine ops_nil ?_
            refine run_inBlock ?_
            refine run_sub ?_ (hback14 (k2 + 1, p8, (m_3 + 1), c8_, _, w8) (⟨E, S, G8.wide (by omega) (by omega), by omega, by omega, by omega, by omega, ok_app3 hall h57_0⟩) (by first | omega | (dsimp only; omega)))
            exact ⟨rfl, rfl, trivial⟩
          ·
            refine ops_nil ?_
            refine run_cond_f rfl ?_
            refine run_exit rfl ?_
            refine run_inBlock ?_
            refine run_seq ?_
            refine run_region ?_
            refine ov (xmove rfl) rfl rfl rfl ?_
            refine ov (xassign rfl) rfl rfl rfl ?_
            refine ops_nil ?_
            refine run_ret Try.func133 (res1 rfl rfl) ?_
            exact ⟨_, rfl, _, _, _, _, rfl, hall, by omega, G_3.wide (by omega) (by omega), E, S⟩
        ·
          refine ov (xassign rfl) rfl rfl rfl ?_
          refine ops_nil ?_
          refine run_cond_f rfl ?_
          refine run_skip ?_
          refine run_inBlock ?_
          refine run_seq ?_
          refine run_region ?_
          refine ov (xmove rfl) rfl rfl rfl ?_
          refine ov (xassign rfl) rfl rfl rfl ?_
          refine ops_nil ?_
          refine run_ret Try.func133 (res1 rfl rfl) ?_
          exact ⟨_, rfl, _, _, _, _, rfl, hall, by omega, G_3.wide (by omega) (by omega), E, S⟩
end Go.Proofs.Ytnjohcbamblilaa
