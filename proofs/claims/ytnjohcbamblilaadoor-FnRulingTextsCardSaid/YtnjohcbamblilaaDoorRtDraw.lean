/-
  Draws of rulings and of their texts. No condition beyond those written in each theorem.
-/
import Derived.Test.YtnjohcbamblilaaDoorDraw
import Derived.Test.YtnjohcbamblilaaDoorRulText
import Derived.Test.YtnjohcbamblilaaDoorReadW
import Derived.Test.YtnjohcbamblilaaDoorRg2
import Derived.Laws.Strings3
namespace Go.Proofs.YtnjohcbamblilaaDoor
open Go.RowKit
set_option linter.unusedVariables false
set_option linter.unusedSimpArgs false
set_option linter.unusedSectionVars false
set_option maxRecDepth 4000

section
variable {P : Program} {N : Nat} {σ : Env} {w : World} {d : Option Tmp} {ty : TypeId} {pos : String} {aft : Array Edge} {gd : Option (Nat × Bool)}
theorem xsliceSh {x z : Operand} {t : TypeId} {s : ByteArray} {j : Int} {k' : IntKind} (ht : P.underlying t = some .string) (hx : ev σ x = some (.string s)) (hz : ev σ z = some (.int k' j)) (h1 : 0 ≤ j) (h2 : j ≤ s.size) :
    XV P N σ ⟨d, .slice t x none (some z) none, ty, pos, aft, gd⟩ w (.string (s.extract 0 j.toNat)) w := fun a ha => by
  have h := run_slice_string_to_if (P := P) (w := w) t s k' j ht
  rw [if_pos (by omega)] at h
  simp [execOp, ha.eval hx, ha.eval hz, run_sliceAt_string (P := P) (w := w) t _ _ _ _ ht, h, Result.andThen]
theorem xsliceSl {x y : Operand} {t : TypeId} {s : ByteArray} {i : Int} {k : IntKind} (ht : P.underlying t = some .string) (hx : ev σ x = some (.string s)) (hy : ev σ y = some (.int k i)) (h1 : 0 ≤ i) (h2 : i ≤ s.size) :
    XV P N σ ⟨d, .slice t x (some y) none none, ty, pos, aft, gd⟩ w (.string (s.extract i.toNat s.size)) w := fun a ha => by
  have h := run_slice_string_from_if (P := P) (w := w) t s k i ht
  rw [if_pos (by omega)] at h
  simp [execOp, ha.eval hx, ha.eval hy, run_sliceAt_string (P := P) (w := w) t _ _ _ _ ht, h, Result.andThen]
end


theorem ext_size3 (s : ByteArray) (a b : Nat) : (s.extract a b).size ≤ b - a := by rw [ByteArray.size_extract]; omega
theorem ext_size4 (s : ByteArray) (a b : Nat) : (s.extract a b).size ≤ s.size := by rw [ByteArray.size_extract]; omega
theorem rulText_size {r : Ruling} (h1 : r.Day ≤ 9223372036854775807) (hc : r.Code.size ≤ 100) : (rulText r).size ≤ 130 := by
  have hs := dec_size r.Day.toNat (by omega)
  have hk := kword_size r.Kind
  unfold rulText
  simp only [ByteArray.size_append, sl1_size]; omega

set_option maxHeartbeats 1000000 in
theorem l01PickN_ok (b cb : Nat) (p : Option Addr) (n c : Nat) (xs : List Int) (lo K : Int) (w : World) (S : Src w b cb) (H : Sl i64c 1 w p n c xs) (hK : ∀ x ∈ xs, lo ≤ x ∧ x ≤ K) (h0 : 0 < n) (hp : b < pb p) : Ret Tryd.prog 29 [.pointer (some ⟨b, 0, none⟩), .slice p n c] w (fun v w' => ∃ r : Int, v = .int .i64 r ∧ (lo ≤ r ∧ r ≤ K) ∧ Mk b (b + 1) w w' ∧ Src w' b cb) := by
  refine ret_of_run (N := 12) Tryd.func29 rfl rfl rfl ?_
  have hbl := S.lt
  have hcb := S.cb
  have hn := H.len
  have hn6 := H.n64
  have E : Mk b (b + 1) w w := Mk.refl _ _ _
  refine run_seq ?_
  refine run_region ?_
  refine ov (xassign rfl) rfl rfl rfl ?_
  refine ops_nil ?_
  refine run_seq ?_
  refine run_region ?_
  refine ov (xmove rfl) rfl rfl rfl ?_
  refine ov (xmove rfl) rfl rfl rfl ?_
  refine ov (xmove rfl) rfl rfl rfl ?_
  refine ov (xlen Tryd.underlying64 rfl) rfl rfl rfl ?_
  refine oc (xcall Tryd.call28 rfl) rfl rfl rfl (l01Next_ok b cb ((n : Int)) _ S) ?_
  rintro _ w1 ⟨r9_0, rfl, h9_0, h9_1, m1, S1⟩
  have z1 := m1.size
  have E := E.trans m1
  replace H := H.off m1 (by omega)
  replace S := S1
  have h10 := (H).at (i := r9_0.toNat) (by omega)
  refine ov (xindexN (i := r9_0.toNat) Tryd.underlying64 Tryd.sizeOf2 rfl rfl (by omega) ((H).p (i := r9_0.toNat) (by omega)) (by have := (H).len; omega)) rfl rfl rfl ?_
  refine ov (v := .int .i64 xs[r9_0.toNat]) (xloadz Tryd.isAgg2 rfl (h10) rfl) rfl rfl rfl ?_
  refine ov (xassign rfl) rfl rfl rfl ?_
  refine ops_nil ?_
  refine run_ret Tryd.func29 (res1 rfl rfl) ?_
  exact ⟨_, rfl, _, rfl, hK _ (List.getElem_mem _), E, S⟩

set_option maxHeartbeats 400000 in
theorem l01Good_ok (b cb : Nat) (w : World) (S : Src w b cb) : Ret Tryd.prog 42 [.pointer (some ⟨b, 0, none⟩)] w (fun v w' => ∃ s : ByteArray, v = .string s ∧ s.size ≤ 100 ∧ Mk b (b + 1) w w' ∧ Src w' b cb) := by
  refine ret_of_run (N := 8) Tryd.func42 rfl rfl rfl ?_
  have hbl := S.lt
  have hcb := S.cb
  have E : Mk b (b + 1) w w := Mk.refl _ _ _
  refine run_seq ?_
  refine run_region ?_
  refine ov (xassign rfl) rfl rfl rfl ?_
  refine ops_nil ?_
  refine run_seq ?_
  refine run_region ?_
  refine obuild (cs := [.string ⟨#[97, 100, 97]⟩, .string ⟨#[98, 114, 117, 110, 111]⟩, .string ⟨#[99, 108, 97, 114, 97]⟩, .string ⟨#[100, 111, 114, 97]⟩, .string ⟨#[101, 109, 105, 108]⟩, .string ⟨#[102, 114, 105, 100, 97]⟩, .string ⟨#[103, 117, 115, 116, 97, 118]⟩, .string ⟨#[104, 97, 110, 110, 97]⟩, .string ⟨#[105, 118, 97, 110]⟩, .string ⟨#[106, 97, 110, 97]⟩, .string ⟨#[107, 97, 114, 108]⟩, .string ⟨#[108, 101, 110, 97]⟩]) (sz := 1) Tryd.underlying41 inf9 rfl rfl (by decide) rfl rfl (by simp [Value.cells]) rfl rfl rfl ?_
  intro b1 w1 e1 hb1 hz1 O1
  have E := E.trans (Mk.ofExt e1)
  replace S := S.ext e1
  have G1 : Ow strc 1 9 w1 b1 (b1 + 1) (some ⟨b1, 0, none⟩) 12 12 ([⟨#[97, 100, 97]⟩, ⟨#[98, 114, 117, 110, 111]⟩, ⟨#[99, 108, 97, 114, 97]⟩, ⟨#[100, 111, 114, 97]⟩, ⟨#[101, 109, 105, 108]⟩, ⟨#[102, 114, 105, 100, 97]⟩, ⟨#[103, 117, 115, 116, 97, 118]⟩, ⟨#[104, 97, 110, 110, 97]⟩, ⟨#[105, 118, 97, 110]⟩, ⟨#[106, 97, 110, 97]⟩, ⟨#[107, 97, 114, 108]⟩, ⟨#[108, 101, 110, 97]⟩] : List ByteArray) := Own.ow (by simpa [strc] using O1) rfl (by omega) (Nat.le_refl _) (by omega) (by intro x hx; rfl)
  refine ov (xmove rfl) rfl rfl rfl ?_
  refine oc (xcall Tryd.call28 rfl) rfl rfl rfl (l01Next_ok b cb (12) _ S) ?_
  rintro _ w2 ⟨r5_0, rfl, h5_0, h5_1, m2, S2⟩
  have z2 := m2.size
  have E := E.trans m2
  replace G1 := G1.off m2 (by omega)
  replace S := S2
  have h6 := (G1.sl).at (i := r5_0.toNat) (by show r5_0.toNat < 12; omega)
  refine ov (xindexN (i := r5_0.toNat) Tryd.underlying41 Tryd.sizeOf9 rfl rfl (by omega) ((G1.sl).p (i := r5_0.toNat) (by show r5_0.toNat < 12; omega)) (by have := (G1.sl).len; omega)) rfl rfl rfl ?_
  refine ov (v := .string (([⟨#[97, 100, 97]⟩, ⟨#[98, 114, 117, 110, 111]⟩, ⟨#[99, 108, 97, 114, 97]⟩, ⟨#[100, 111, 114, 97]⟩, ⟨#[101, 109, 105, 108]⟩, ⟨#[102, 114, 105, 100, 97]⟩, ⟨#[103, 117, 115, 116, 97, 118]⟩, ⟨#[104, 97, 110, 110, 97]⟩, ⟨#[105, 118, 97, 110]⟩, ⟨#[106, 97, 110, 97]⟩, ⟨#[107, 97, 114, 108]⟩, ⟨#[108, 101, 110, 97]⟩] : List ByteArray)[r5_0.toNat]'(by show r5_0.toNat < 12; omega))) (xloadz Tryd.isAgg9 rfl (h6) rfl) rfl rfl rfl ?_
  refine ov (xassign rfl) rfl rfl rfl ?_
  refine ops_nil ?_
  refine run_ret Tryd.func42 (res1 rfl rfl) ?_
  exact ⟨_, rfl, _, rfl, (by decide : ∀ x ∈ ([⟨#[97, 100, 97]⟩, ⟨#[98, 114, 117, 110, 111]⟩, ⟨#[99, 108, 97, 114, 97]⟩, ⟨#[100, 111, 114, 97]⟩, ⟨#[101, 109, 105, 108]⟩, ⟨#[102, 114, 105, 100, 97]⟩, ⟨#[103, 117, 115, 116, 97, 118]⟩, ⟨#[104, 97, 110, 110, 97]⟩, ⟨#[105, 118, 97, 110]⟩, ⟨#[106, 97, 110, 97]⟩, ⟨#[107, 97, 114, 108]⟩, ⟨#[108, 101, 110, 97]⟩] : List ByteArray), x.size ≤ 100) _ (List.getElem_mem _), E, S⟩

set_option maxHeartbeats 400000 in
theorem l01DrawWord_ok (b cb : Nat) (w : World) (S : Src w b cb) : Ret Tryd.prog 30 [.pointer (some ⟨b, 0, none⟩)] w (fun v w' => ∃ s : ByteArray, v = .string s ∧ s.size ≤ 100 ∧ Mk b (b + 1) w w' ∧ Src w' b cb) := by
  refine ret_of_run (N := 13) Tryd.func30 rfl rfl rfl ?_
  have hbl := S.lt
  have hcb := S.cb
  have E : Mk b (b + 1) w w := Mk.refl _ _ _
  refine run_seq ?_
  refine run_region ?_
  refine ov (xassign rfl) rfl rfl rfl ?_
  refine ops_nil ?_
  refine run_seq ?_
  refine run_seq ?_
  refine run_region ?_
  refine ov (xmove rfl) rfl rfl rfl ?_
  refine oc (xcall Tryd.call28 rfl) rfl rfl rfl (l01Next_ok b cb (24) _ S) ?_
  rintro _ w1 ⟨r4_0, rfl, h4_0, h4_1, m1, S1⟩
  have z1 := m1.size
  have E := E.trans m1
  replace S := S1
  refine ov (xeql rfl rfl _ rfl) rfl rfl rfl ?_
  refine ods (fun c5 => ?_) (fun c5 => ?_)
  ·
    refine ops_nil ?_
    refine run_cond_t rfl ?_
    refine run_seq ?_
    refine run_region ?_
    refine obuild (cs := [.string ⟨#[]⟩, .string ⟨#[65, 100, 97]⟩, .string ⟨#[97, 49]⟩, .string ⟨#[97, 98, 99, 100, 101, 102, 103, 104, 105, 106, 107, 108, 109, 110, 111, 112]⟩, .string ⟨#[97, 98, 99, 100, 101, 102, 103, 104, 105, 106, 107, 108, 109, 110, 111, 112, 113]⟩, .string ⟨#[97, 32, 98]⟩]) (sz := 1) Tryd.underlying41 inf9 rfl rfl (by decide) rfl rfl (by simp [Value.cells]) rfl rfl rfl ?_
    intro b2 w2 e2 hb2 hz2 O2
    have E := E.trans (Mk.ofExt e2)
    replace S := S.ext e2
    have G2 : Ow strc 1 9 w2 b2 (b2 + 1) (some ⟨b2, 0, none⟩) 6 6 ([⟨#[]⟩, ⟨#[65, 100, 97]⟩, ⟨#[97, 49]⟩, ⟨#[97, 98, 99, 100, 101, 102, 103, 104, 105, 106, 107, 108, 109, 110, 111, 112]⟩, ⟨#[97, 98, 99, 100, 101, 102, 103, 104, 105, 106, 107, 108, 109, 110, 111, 112, 113]⟩, ⟨#[97, 32, 98]⟩] : List ByteArray) := Own.ow (by simpa [strc] using O2) rfl (by omega) (Nat.le_refl _) (by omega) (by intro x hx; rfl)
    refine ov (xmove rfl) rfl rfl rfl ?_
    refine oc (xcall Tryd.call28 rfl) rfl rfl rfl (l01Next_ok b cb (6) _ S) ?_
    rintro _ w3 ⟨r8_0, rfl, h8_0, h8_1, m3, S3⟩
    have z3 := m3.size
    have E := E.trans m3
    replace G2 := G2.off m3 (by omega)
    replace S := S3
    have h9 := (G2.sl).at (i := r8_0.toNat) (by show r8_0.toNat < 6; omega)
    refine ov (xindexN (i := r8_0.toNat) Tryd.underlying41 Tryd.sizeOf9 rfl rfl (by omega) ((G2.sl).p (i := r8_0.toNat) (by show r8_0.toNat < 6; omega)) (by have := (G2.sl).len; omega)) rfl rfl rfl ?_
    refine ov (v := .string (([⟨#[]⟩, ⟨#[65, 100, 97]⟩, ⟨#[97, 49]⟩, ⟨#[97, 98, 99, 100, 101, 102, 103, 104, 105, 106, 107, 108, 109, 110, 111, 112]⟩, ⟨#[97, 98, 99, 100, 101, 102, 103, 104, 105, 106, 107, 108, 109, 110, 111, 112, 113]⟩, ⟨#[97, 32, 98]⟩] : List ByteArray)[r8_0.toNat]'(by show r8_0.toNat < 6; omega))) (xloadz Tryd.isAgg9 rfl (h9) rfl) rfl rfl rfl ?_
    refine ov (xassign rfl) rfl rfl rfl ?_
    refine ops_nil ?_
    refine run_ret Tryd.func30 (res1 rfl rfl) ?_
    exact ⟨_, rfl, _, rfl, (by decide : ∀ x ∈ ([⟨#[]⟩, ⟨#[65, 100, 97]⟩, ⟨#[97, 49]⟩, ⟨#[97, 98, 99, 100, 101, 102, 103, 104, 105, 106, 107, 108, 109, 110, 111, 112]⟩, ⟨#[97, 98, 99, 100, 101, 102, 103, 104, 105, 106, 107, 108, 109, 110, 111, 112, 113]⟩, ⟨#[97, 32, 98]⟩] : List ByteArray), x.size ≤ 100) _ (List.getElem_mem _), E, S⟩
  ·
    refine ops_nil ?_
    refine run_cond_f rfl ?_
    refine run_skip ?_
    refine run_seq ?_
    refine run_region ?_
    refine ov (xmove rfl) rfl rfl rfl ?_
    refine oc (xcall Tryd.call42 rfl) rfl rfl rfl (l01Good_ok b cb _ S) ?_
    rintro _ w2 ⟨r12_0, rfl, h12_0, m2, S2⟩
    have z2 := m2.size
    have E := E.trans m2
    replace S := S2
    refine ov (xassign rfl) rfl rfl rfl ?_
    refine ops_nil ?_
    refine run_ret Tryd.func30 (res1 rfl rfl) ?_
    exact ⟨_, rfl, _, rfl, by omega, E, S⟩

set_option maxHeartbeats 1000000 in
theorem l25Good_ok (b cb : Nat) (day : Int) (w : World) (S : Src w b cb) : Ret Tryd.prog 27 [.pointer (some ⟨b, 0, none⟩), .int .i64 day] w (fun v w' => ∃ x : Ruling, v = .agg #[.int .i64 x.Day, .string x.Code, .int .i64 x.Kind] ∧ (x.Day = day ∧ x.Code.size ≤ 100 ∧ 0 ≤ x.Kind ∧ x.Kind ≤ 3) ∧ Mk b (b + 1) w w' ∧ Src w' b cb) := by
  refine ret_of_run (N := 15) Tryd.func27 rfl rfl rfl ?_
  have hbl := S.lt
  have hcb := S.cb
  have E : Mk b (b + 1) w w := Mk.refl _ _ _
  refine run_seq ?_
  refine run_region ?_
  refine oalloc Tryd.zeroValue27 rfl rfl ?_
  intro b1 w1 e1 hb1 hz1 O1
  have E := E.trans (Mk.ofExt e1)
  replace S := S.ext e1
  replace O1 : Own w1 b1 [.int .i64 0, .string ⟨#[]⟩, .int .i64 0] 27 := O1
  refine ops_nil ?_
  refine run_seq ?_
  refine run_rg (τ := [(0, .pointer (some ⟨b, 0, none⟩)), (1, .int .i64 day), (4, .pointer (some ⟨b1, 0, none⟩))]) 10 [5, 6, 7, 8, 9, 10, 11, 12, 13, 14] (fun u_ => Mk b (b + 1) w1 u_ ∧ Src u_ b cb) (fun i_ => Mk b (b + 1)) (fun i_ v_ u_ => match i_ with | 0 => v_ = .int .i64 day | 1 => ∃ (y0_ : Nat), v_ = .slice (some ⟨y0_, 0, none⟩) 4 4 ∧ w1.heap.size ≤ y0_ ∧ Sl strc 1 u_ (some ⟨y0_, 0, none⟩) 4 4 ([⟨#[107, 110, 105, 102, 101]⟩, ⟨#[108, 101, 116, 116, 101, 114]⟩, ⟨#[112, 104, 111, 116, 111]⟩, ⟨#[114, 111, 112, 101]⟩] : List ByteArray) | 2 => v_ = .pointer (some ⟨b, 0, none⟩) | 3 => ∃ (y0_ : Int), v_ = .int .i64 y0_ ∧ 0 ≤ y0_ ∧ (y0_ < 4 ∨ y0_ = 0) | 4 => ∃ (y0_ : Nat) (y1_ : Nat) (y2_ : ByteArray), v_ = .pointer (some ⟨y0_, y1_, none⟩) ∧ b < y0_ ∧ Cells u_ y0_ y1_ [.string y2_] ∧ (y2_).size ≤ 6 | 5 => ∃ (y0_ : ByteArray), v_ = .string y0_ ∧ (y0_).size ≤ 6 | 6 => v_ = .pointer (some ⟨b, 0, none⟩) | 7 => ∃ (y0_ : Nat), v_ = .slice (some ⟨y0_, 0, none⟩) 6 6 ∧ w1.heap.size ≤ y0_ ∧ Sl i64c 1 u_ (some ⟨y0_, 0, none⟩) 6 6 ([0, 0, 0, 1, 2, 3] : List Int) | 8 => ∃ (y0_ : Int), v_ = .int .i64 y0_ ∧ (0 ≤ y0_ ∧ y0_ ≤ 3) | 9 => ∃ (y0_ : ByteArray) (y1_ : Int), v_ = .agg #[.int .i64 day, .string y0_, .int .i64 y1_] ∧ (y0_).size ≤ 6 ∧ (0 ≤ y1_ ∧ y1_ ≤ 3) | _ => True) [(9, some 14)] (by kernel_rfl) (by kernel_rfl) (by kernel_rfl) (by kernel_rfl) (by kernel_rfl) (by kernel_rfl) ⟨rfl, rfl, rfl, trivial⟩ rfl (fun u_ e_ z_ => ⟨Mk.ofExt e_, S.ext e_⟩) ?_ ?_ ?_
  · intro i_ j_ hi_ hj_ hij_ v_ u_ u2_ I_ I2_ r_ g_
    have zu_ := I_.1.size
    clear hi_
    rcases (by omega : j_ = 0 ∨ j_ = 1 ∨ j_ = 2 ∨ j_ = 3 ∨ j_ = 4 ∨ j_ = 5 ∨ j_ = 6 ∨ j_ = 7 ∨ j_ = 8 ∨ j_ = 9) with rfl | rfl | rfl | rfl | rfl | rfl | rfl | rfl | rfl | rfl
    · exact g_
    · obtain ⟨g6_0, rfl, f6_0, f6_1⟩ := g_
      exact ⟨g6_0, rfl, f6_0, f6_1.off r_ (by simp only [pb, Option.getD_some]; omega)⟩
    · exact g_
    · exact g_
    · obtain ⟨g9_0, g9_1, g9_2, rfl, f9_0, f9_1, f9_2⟩ := g_
      exact ⟨g9_0, g9_1, g9_2, rfl, f9_0, r_.cells f9_1 (by omega), f9_2⟩
    · exact g_
    · exact g_
    · obtain ⟨g12_0, rfl, f12_0, f12_1⟩ := g_
      exact ⟨g12_0, rfl, f12_0, f12_1.off r_ (by simp only [pb, Option.getD_some]; omega)⟩
    · exact g_
    · exact g_
  ·
    refine rga [] (by kernel_rfl) ?_ ?_
    · intro u_ I_
      have zu_ := I_.1.size
      refine rg_val (xmove rfl) rfl I_ (Mk.refl _ _ _) rfl
    refine rga [] (by kernel_rfl) ?_ ?_
    · intro u_ I_
      have zu_ := I_.1.size
      refine rg_build (len := 4) (vs := [.string ⟨#[107, 110, 105, 102, 101]⟩, .string ⟨#[108, 101, 116, 116, 101, 114]⟩, .string ⟨#[112, 104, 111, 116, 111]⟩, .string ⟨#[114, 111, 112, 101]⟩]) (cs := [.string ⟨#[107, 110, 105, 102, 101]⟩, .string ⟨#[108, 101, 116, 116, 101, 114]⟩, .string ⟨#[112, 104, 111, 116, 111]⟩, .string ⟨#[114, 111, 112, 101]⟩]) (sz := 1) Tryd.underlying41 inf9 rfl rfl (by decide) (by rfl) (by rfl) (by simp [Value.cells]) rfl rfl ?_
      intro b_ w_ e_ hb_ O_
      refine ⟨⟨I_.1.trans (Mk.ofExt e_), I_.2.ext e_⟩, Mk.ofExt e_, ⟨b_, rfl, (by omega), (Own.ow (lo := b_) (hi := b_ + 1) (enc := strc) (sz := 1) (xs := ([⟨#[107, 110, 105, 102, 101]⟩, ⟨#[108, 101, 116, 116, 101, 114]⟩, ⟨#[112, 104, 111, 116, 111]⟩, ⟨#[114, 111, 112, 101]⟩] : List ByteArray)) (n := 4) (by simpa [strc] using O_) rfl (by omega) (Nat.le_refl _) (by omega) (by intro x hx; rfl)).sl⟩⟩
    refine rga [] (by kernel_rfl) ?_ ?_
    · intro u_ I_
      have zu_ := I_.1.size
      refine rg_val (xmove rfl) rfl I_ (Mk.refl _ _ _) rfl
    refine rga [(2, some 7)] (by kernel_rfl) ?_ ?_
    · rintro u_ I_ _ rfl
      have zu_ := I_.1.size
      refine rg_call (xcall Tryd.call28 rfl) rfl (l01Next_ok b cb (4) _ I_.2) ?_
      rintro _ w_ ⟨r_0, rfl, h_0, h_1, m_, S_⟩
      exact ⟨⟨I_.1.trans m_, S_⟩, m_, ⟨r_0, rfl, h_0, h_1⟩⟩
    refine rga [(1, some 6), (3, some 8)] (by kernel_rfl) ?_ ?_
    · rintro u_ I_ _ ⟨g6_0, rfl, f6_0, f6_1⟩ _ ⟨g8_0, rfl, f8_0, f8_1⟩
      have zu_ := I_.1.size
      have hh_ := (f6_1).at (i := (g8_0).toNat) (by show (g8_0).toNat < 4; omega)
      refine rg_val (xindexN (i := (g8_0).toNat) Tryd.underlying41 Tryd.sizeOf9 rfl rfl (by omega) ((f6_1).p (i := (g8_0).toNat) (by show (g8_0).toNat < 4; omega)) (by omega)) rfl I_ (Mk.refl _ _ _) ?_
      exact ⟨_, _, _, rfl, by simp only [pb, Option.getD_some]; omega, hh_, (by decide : ∀ x ∈ ([⟨#[107, 110, 105, 102, 101]⟩, ⟨#[108, 101, 116, 116, 101, 114]⟩, ⟨#[112, 104, 111, 116, 111]⟩, ⟨#[114, 111, 112, 101]⟩] : List ByteArray), x.size ≤ 6) _ (List.getElem_mem _)⟩
    refine rga [(4, some 9)] (by kernel_rfl) ?_ ?_
    · rintro u_ I_ _ ⟨g9_0, g9_1, g9_2, rfl, f9_0, f9_1, f9_2⟩
      have zu_ := I_.1.size
      refine rg_val (xloadz Tryd.isAgg9 rfl f9_1 rfl) rfl I_ (Mk.refl _ _ _) ⟨g9_2, rfl, f9_2⟩
    refine rga [] (by kernel_rfl) ?_ ?_
    · intro u_ I_
      have zu_ := I_.1.size
      refine rg_val (xmove rfl) rfl I_ (Mk.refl _ _ _) rfl
    refine rga [] (by kernel_rfl) ?_ ?_
    · intro u_ I_
      have zu_ := I_.1.size
      refine rg_build (len := 6) (vs := [.int .i64 0, .int .i64 0, .int .i64 0, .int .i64 1, .int .i64 2, .int .i64 3]) (cs := [.int .i64 0, .int .i64 0, .int .i64 0, .int .i64 1, .int .i64 2, .int .i64 3]) (sz := 1) Tryd.underlying64 inf2 rfl rfl (by decide) (by rfl) (by rfl) (by simp [Value.cells]) rfl rfl ?_
      intro b_ w_ e_ hb_ O_
      refine ⟨⟨I_.1.trans (Mk.ofExt e_), I_.2.ext e_⟩, Mk.ofExt e_, ⟨b_, rfl, (by omega), (Own.ow (lo := b_) (hi := b_ + 1) (enc := i64c) (sz := 1) (xs := ([0, 0, 0, 1, 2, 3] : List Int)) (n := 6) (by simpa [i64c] using O_) rfl (by omega) (Nat.le_refl _) (by omega) (by intro x hx; rfl)).sl⟩⟩
    refine rga [(6, some 11), (7, some 12)] (by kernel_rfl) ?_ ?_
    · rintro u_ I_ _ rfl _ ⟨g12_0, rfl, f12_0, f12_1⟩
      have zu_ := I_.1.size
      refine rg_call (xcall Tryd.call29 rfl) rfl (l01PickN_ok b cb _ _ _ ([0, 0, 0, 1, 2, 3] : List Int) 0 3 _ I_.2 f12_1 (by intro x hx; simp only [List.mem_cons, List.not_mem_nil, or_false] at hx; omega) (by omega) (by simp only [pb, Option.getD_some]; omega)) ?_
      rintro _ w_ ⟨r_0, rfl, h_0, m_, S_⟩
      exact ⟨⟨I_.1.trans m_, S_⟩, m_, ⟨r_0, rfl, h_0⟩⟩
    refine rga [(0, some 5), (5, some 10), (8, some 13)] (by kernel_rfl) ?_ ?_
    · rintro u_ I_ _ rfl _ ⟨g10_0, rfl, f10_0⟩ _ ⟨g13_0, rfl, f13_0⟩
      have zu_ := I_.1.size
      refine rg_val (xbuild (vs := [.int .i64 day, .string g10_0, .int .i64 g13_0]) (cells := #[.int .i64 day, .string g10_0, .int .i64 g13_0]) rfl (by kernel_rfl)) rfl I_ (Mk.refl _ _ _) ⟨g10_0, g13_0, rfl, f10_0, f13_0⟩
    exact rga_nil
  ·
    rintro w2 I_ _ ⟨g14_0, g14_1, rfl, f14_0, f14_1⟩
    have m2 := I_.1
    have z2 := m2.size
    have E := E.trans m2
    replace S := I_.2
    replace O1 := m2.own O1 (by omega)
    refine ostoreN (vs := _) Tryd.sizeOf27 rfl rfl O1 rfl (by simp) (by simp [Value.oneCell']) rfl ?_
    intro w3 on3 O3
    have hz3 := on3.size
    have E : Mk b (b + 1) w w3 := by first | exact E.trans (Mk.ofOnly on3 (by omega) (by omega)) | exact E.young (Mk.ofOnly on3 (Nat.le_refl _) (Nat.lt_succ_self _)) (by omega)
    replace S := S.off (Mk.ofOnly on3 (Nat.le_refl _) (Nat.lt_succ_self _)) (by omega)
    replace O3 : Own w3 b1 [.int .i64 day, .string g14_0, .int .i64 g14_1] 27 := O3
    refine ops_nil ?_
    refine run_ret Tryd.func27 (resc1 rfl rfl (run_loadVar_cells Tryd.isAgg27 Tryd.sizeOf27 O3.cells rfl)) ?_
    exact ⟨_, rfl, ⟨_, _, _⟩, rfl, ⟨rfl, by dsimp only; omega, by dsimp only; omega, by dsimp only; omega⟩, E, S⟩

set_option maxHeartbeats 4000000 in
theorem l01Damage_ok (b cb : Nat) (t : ByteArray) (w : World) (S : Src w b cb) (ht : t.size ≤ 1000) : Ret Tryd.prog 31 [.pointer (some ⟨b, 0, none⟩), .string t] w (fun v w' => ∃ s : ByteArray, v = .string s ∧ s.size ≤ 2010 ∧ Mk b (b + 1) w w' ∧ Src w' b cb) := by
  refine ret_of_run (N := 48) Tryd.func31 rfl rfl rfl ?_
  have hbl := S.lt
  have hcb := S.cb
  have E : Mk b (b + 1) w w := Mk.refl _ _ _
  refine run_seq ?_
  refine run_region ?_
  refine ov (xassign rfl) rfl rfl rfl ?_
  refine ops_nil ?_
  refine run_seq ?_
  refine run_region ?_
  refine ov (xmove rfl) rfl rfl rfl ?_
  refine ov (xmove rfl) rfl rfl rfl ?_
  refine ov (xlens Tryd.underlying9 rfl) rfl rfl rfl ?_
  refine ov (xadd rfl rfl (by unfold I64; omega)) rfl rfl rfl ?_
  refine oc (xcall Tryd.call28 rfl) rfl rfl rfl (l01Next_ok b cb (((t.size : Int) + 1)) _ S) ?_
  rintro _ w1 ⟨r10_0, rfl, h10_0, h10_1, m1, S1⟩
  have z1 := m1.size
  have E := E.trans m1
  replace S := S1
  refine ov (xassign rfl) rfl rfl rfl ?_
  refine ops_nil ?_
  refine run_seq ?_
  refine run_seq ?_
  refine run_region ?_
  refine ov (xmove rfl) rfl rfl rfl ?_
  refine oc (xcall Tryd.call28 rfl) rfl rfl rfl (l01Next_ok b cb (8) _ S) ?_
  rintro _ w2 ⟨r12_0, rfl, h12_0, h12_1, m2, S2⟩
  have z2 := m2.size
  have E := E.trans m2
  replace S := S2
  refine ops_nil ?_
  refine run_block ?_
  refine run_seq ?_
  refine run_region ?_
  refine ov (xeql rfl rfl _ rfl) rfl rfl rfl ?_
  refine ods (fun c14 => ?_) (fun c14 => ?_)
  ·
    refine ov (xassign rfl) rfl rfl rfl ?_
    refine ops_nil ?_
    refine run_cond_t rfl ?_
    refine run_seq ?_
    refine run_region ?_
    refine ov (xmove rfl) rfl rfl rfl ?_
    refine ov (xmove rfl) rfl rfl rfl ?_
    refine ov (xsliceSh Tryd.underlying9 rfl rfl (by omega) (by omega)) rfl rfl rfl ?_
    refine ov (xassign rfl) rfl rfl rfl ?_
    refine ops_nil ?_
    refine run_ret Tryd.func31 (res1 rfl rfl) ?_
    exact ⟨_, rfl, _, rfl, by (first | omega | (simp only [ByteArray.size_append, ByteArray.size_extract]; omega)), E, S⟩
  ·
    refine ov (xassign rfl) rfl rfl rfl ?_
    refine ops_nil ?_
    refine run_cond_f rfl ?_
    refine run_seq ?_
    refine run_region ?_
    refine ov (xeql rfl rfl _ rfl) rfl rfl rfl ?_
    refine ods (fun c19 => ?_) (fun c19 => ?_)
    ·
      refine ov (xassign rfl) rfl rfl rfl ?_
      refine ops_nil ?_
      refine run_cond_t rfl ?_
      refine run_seq ?_
      refine run_rg (τ := [(0, .pointer (some ⟨b, 0, none⟩)), (1, .string t), (5, .int .i64 r10_0)]) 14 [20, 21, 22, 23, 24, 25, 26, 27, 28, 29, 30, 31, 32, 4] (fun u_ => Mk b (b + 1) w2 u_ ∧ Src u_ b cb) (fun i_ => Mk b (b + 1)) (fun i_ v_ u_ => match i_ with | 0 => v_ = .string t | 1 => v_ = .int .i64 r10_0 | 2 => v_ = .string (ByteArray.extract t 0 (Int.toNat r10_0)) | 3 => ∃ (y0_ : Nat), v_ = .slice (some ⟨y0_, 0, none⟩) 8 8 ∧ w2.heap.size ≤ y0_ ∧ Sl strc 1 u_ (some ⟨y0_, 0, none⟩) 8 8 ([⟨#[48]⟩, ⟨#[35]⟩, ⟨#[46]⟩, ⟨#[47]⟩, ⟨#[32]⟩, ⟨#[97]⟩, ⟨#[45]⟩, ⟨#[10]⟩] : List ByteArray) | 4 => v_ = .pointer (some ⟨b, 0, none⟩) | 5 => ∃ (y0_ : Int), v_ = .int .i64 y0_ ∧ 0 ≤ y0_ ∧ (y0_ < 8 ∨ y0_ = 0) | 6 => ∃ (y0_ : Nat) (y1_ : Nat) (y2_ : ByteArray), v_ = .pointer (some ⟨y0_, y1_, none⟩) ∧ b < y0_ ∧ Cells u_ y0_ y1_ [.string y2_] ∧ (y2_).size ≤ 1 | 7 => ∃ (y0_ : ByteArray), v_ = .string y0_ ∧ (y0_).size ≤ 1 | 8 => ∃ (y0_ : ByteArray), v_ = .string ((ByteArray.extract t 0 (Int.toNat r10_0)) ++ y0_) ∧ (y0_).size ≤ 1 | 9 => v_ = .string t | 10 => v_ = .int .i64 r10_0 | 11 => v_ = .string (ByteArray.extract t (Int.toNat r10_0) (ByteArray.size t)) | 12 => ∃ (y0_ : ByteArray), v_ = .string (((ByteArray.extract t 0 (Int.toNat r10_0)) ++ y0_) ++ (ByteArray.extract t (Int.toNat r10_0) (ByteArray.size t))) ∧ (y0_).size ≤ 1 | 13 => ∃ (y0_ : ByteArray), v_ = .string (((ByteArray.extract t 0 (Int.toNat r10_0)) ++ y0_) ++ (ByteArray.extract t (Int.toNat r10_0) (ByteArray.size t))) ∧ (y0_).size ≤ 1 | _ => True) [(13, some 4)] (by kernel_rfl) (by kernel_rfl) (by kernel_rfl) (by kernel_rfl) (by kernel_rfl) (by kernel_rfl) ⟨rfl, rfl, rfl, trivial⟩ rfl (fun u_ e_ z_ => ⟨Mk.ofExt e_, S.ext e_⟩) ?_ ?_ ?_
      · intro i_ j_ hi_ hj_ hij_ v_ u_ u2_ I_ I2_ r_ g_
        have zu_ := I_.1.size
        clear hi_
        rcases (by omega : j_ = 0 ∨ j_ = 1 ∨ j_ = 2 ∨ j_ = 3 ∨ j_ = 4 ∨ j_ = 5 ∨ j_ = 6 ∨ j_ = 7 ∨ j_ = 8 ∨ j_ = 9 ∨ j_ = 10 ∨ j_ = 11 ∨ j_ = 12 ∨ j_ = 13) with rfl | rfl | rfl | rfl | rfl | rfl | rfl | rfl | rfl | rfl | rfl | rfl | rfl | rfl
        · exact g_
        · exact g_
        · exact g_
        · obtain ⟨g23_0, rfl, f23_0, f23_1⟩ := g_
          exact ⟨g23_0, rfl, f23_0, f23_1.off r_ (by simp only [pb, Option.getD_some]; omega)⟩
        · exact g_
        · exact g_
        · obtain ⟨g26_0, g26_1, g26_2, rfl, f26_0, f26_1, f26_2⟩ := g_
          exact ⟨g26_0, g26_1, g26_2, rfl, f26_0, r_.cells f26_1 (by omega), f26_2⟩
        · exact g_
        · exact g_
        · exact g_
        · exact g_
        · exact g_
        · exact g_
        · exact g_
      ·
        refine rga [] (by kernel_rfl) ?_ ?_
        · intro u_ I_
          have zu_ := I_.1.size
          refine rg_val (xmove rfl) rfl I_ (Mk.refl _ _ _) rfl
        refine rga [] (by kernel_rfl) ?_ ?_
        · intro u_ I_
          have zu_ := I_.1.size
          refine rg_val (xmove rfl) rfl I_ (Mk.refl _ _ _) rfl
        refine rga [(0, some 20), (1, some 21)] (by kernel_rfl) ?_ ?_
        · rintro u_ I_ _ rfl _ rfl
          have zu_ := I_.1.size
          refine rg_val (xsliceSh Tryd.underlying9 rfl rfl (by omega) (by omega)) rfl I_ (Mk.refl _ _ _) rfl
        refine rga [] (by kernel_rfl) ?_ ?_
        · intro u_ I_
          have zu_ := I_.1.size
          refine rg_build (len := 8) (vs := [.string ⟨#[48]⟩, .string ⟨#[35]⟩, .string ⟨#[46]⟩, .string ⟨#[47]⟩, .string ⟨#[32]⟩, .string ⟨#[97]⟩, .string ⟨#[45]⟩, .string ⟨#[10]⟩]) (cs := [.string ⟨#[48]⟩, .string ⟨#[35]⟩, .string ⟨#[46]⟩, .string ⟨#[47]⟩, .string ⟨#[32]⟩, .string ⟨#[97]⟩, .string ⟨#[45]⟩, .string ⟨#[10]⟩]) (sz := 1) Tryd.underlying41 inf9 rfl rfl (by decide) (by rfl) (by rfl) (by simp [Value.cells]) rfl rfl ?_
          intro b_ w_ e_ hb_ O_
          refine ⟨⟨I_.1.trans (Mk.ofExt e_), I_.2.ext e_⟩, Mk.ofExt e_, ⟨b_, rfl, (by omega), (Own.ow (lo := b_) (hi := b_ + 1) (enc := strc) (sz := 1) (xs := ([⟨#[48]⟩, ⟨#[35]⟩, ⟨#[46]⟩, ⟨#[47]⟩, ⟨#[32]⟩, ⟨#[97]⟩, ⟨#[45]⟩, ⟨#[10]⟩] : List ByteArray)) (n := 8) (by simpa [strc] using O_) rfl (by omega) (Nat.le_refl _) (by omega) (by intro x hx; rfl)).sl⟩⟩
        refine rga [] (by kernel_rfl) ?_ ?_
        · intro u_ I_
          have zu_ := I_.1.size
          refine rg_val (xmove rfl) rfl I_ (Mk.refl _ _ _) rfl
        refine rga [(4, some 24)] (by kernel_rfl) ?_ ?_
        · rintro u_ I_ _ rfl
          have zu_ := I_.1.size
          refine rg_call (xcall Tryd.call28 rfl) rfl (l01Next_ok b cb (8) _ I_.2) ?_
          rintro _ w_ ⟨r_0, rfl, h_0, h_1, m_, S_⟩
          exact ⟨⟨I_.1.trans m_, S_⟩, m_, ⟨r_0, rfl, h_0, h_1⟩⟩
        refine rga [(3, some 23), (5, some 25)] (by kernel_rfl) ?_ ?_
        · rintro u_ I_ _ ⟨g23_0, rfl, f23_0, f23_1⟩ _ ⟨g25_0, rfl, f25_0, f25_1⟩
          have zu_ := I_.1.size
          have hh_ := (f23_1).at (i := (g25_0).toNat) (by show (g25_0).toNat < 8; omega)
          refine rg_val (xindexN (i := (g25_0).toNat) Tryd.underlying41 Tryd.sizeOf9 rfl rfl (by omega) ((f23_1).p (i := (g25_0).toNat) (by show (g25_0).toNat < 8; omega)) (by omega)) rfl I_ (Mk.refl _ _ _) ?_
          exact ⟨_, _, _, rfl, by simp only [pb, Option.getD_some]; omega, hh_, (by decide : ∀ x ∈ ([⟨#[48]⟩, ⟨#[35]⟩, ⟨#[46]⟩, ⟨#[47]⟩, ⟨#[32]⟩, ⟨#[97]⟩, ⟨#[45]⟩, ⟨#[10]⟩] : List ByteArray), x.size ≤ 1) _ (List.getElem_mem _)⟩
        refine rga [(6, some 26)] (by kernel_rfl) ?_ ?_
        · rintro u_ I_ _ ⟨g26_0, g26_1, g26_2, rfl, f26_0, f26_1, f26_2⟩
          have zu_ := I_.1.size
          refine rg_val (xloadz Tryd.isAgg9 rfl f26_1 rfl) rfl I_ (Mk.refl _ _ _) ⟨g26_2, rfl, f26_2⟩
        refine rga [(2, some 22), (7, some 27)] (by kernel_rfl) ?_ ?_
        · rintro u_ I_ _ rfl _ ⟨g27_0, rfl, f27_0⟩
          have zu_ := I_.1.size
          refine rg_val (xsadd rfl rfl (by have hx_ := ext_size4 t 0 (Int.toNat r10_0); omega)) rfl I_ (Mk.refl _ _ _) ⟨g27_0, rfl, f27_0⟩
        refine rga [] (by kernel_rfl) ?_ ?_
        · intro u_ I_
          have zu_ := I_.1.size
          refine rg_val (xmove rfl) rfl I_ (Mk.refl _ _ _) rfl
        refine rga [] (by kernel_rfl) ?_ ?_
        · intro u_ I_
          have zu_ := I_.1.size
          refine rg_val (xmove rfl) rfl I_ (Mk.refl _ _ _) rfl
        refine rga [(9, some 29), (10, some 30)] (by kernel_rfl) ?_ ?_
        · rintro u_ I_ _ rfl _ rfl
          have zu_ := I_.1.size
          refine rg_val (xsliceSl Tryd.underlying9 rfl rfl (by omega) (by omega)) rfl I_ (Mk.refl _ _ _) rfl
        refine rga [(8, some 28), (11, some 31)] (by kernel_rfl) ?_ ?_
        · rintro u_ I_ _ ⟨g28_0, rfl, f28_0⟩ _ rfl
          have zu_ := I_.1.size
          refine rg_val (xsadd rfl rfl (by have hx_ := ext_size4 t 0 (Int.toNat r10_0); have hy_ := ext_size4 t (Int.toNat r10_0) (ByteArray.size t); simp only [ByteArray.size_append]; omega)) rfl I_ (Mk.refl _ _ _) ⟨g28_0, rfl, f28_0⟩
        refine rga [(12, some 32)] (by kernel_rfl) ?_ ?_
        · rintro u_ I_ _ ⟨g32_0, rfl, f32_0⟩
          have zu_ := I_.1.size
          refine rg_val (xassign rfl) rfl I_ (Mk.refl _ _ _) ⟨g32_0, rfl, f32_0⟩
        exact rga_nil
      ·
        rintro w3 I_ _ ⟨g4_0, rfl, f4_0⟩
        have m3 := I_.1
        have z3 := m3.size
        have E := E.trans m3
        replace S := I_.2
        refine ops_nil ?_
        refine run_ret Tryd.func31 (res1 rfl rfl) ?_
        exact ⟨_, rfl, _, rfl, by (first | omega | (simp only [ByteArray.size_append, ByteArray.size_extract]; omega)), E, S⟩
    ·
      refine ov (xassign rfl) rfl rfl rfl ?_
      refine ops_nil ?_
      refine run_cond_f rfl ?_
      refine run_seq ?_
      refine run_region ?_
      refine ov (xeql rfl rfl _ rfl) rfl rfl rfl ?_
      refine ods (fun c34 => ?_) (fun c34 => ?_)
      ·
        refine ov (xassign rfl) rfl rfl rfl ?_
        refine ops_nil ?_
        refine run_cond_t rfl ?_
        refine run_seq ?_
        refine run_region ?_
        refine ov (xmove rfl) rfl rfl rfl ?_
        refine ov (xmove rfl) rfl rfl rfl ?_
        refine ov (xlens Tryd.underlying9 rfl) rfl rfl rfl ?_
        refine ov (xlss rfl rfl _ rfl) rfl rfl rfl ?_
        refine ods (fun c38 => ?_) (fun c38 => ?_)
        ·
          refine ops_nil ?_
          refine run_cond_t rfl ?_
          refine run_seq ?_
          refine run_draw (by kernel_rfl) (by kernel_rfl) ?_
          refine qv (fun w' x_ => xmove rfl) rfl rfl rfl ?_
          refine qv (fun w' x_ => xmove rfl) rfl rfl rfl ?_
          refine qv (fun w' x_ => xsliceSh Tryd.underlying9 rfl rfl (by omega) (by omega)) rfl rfl rfl ?_
          refine qv (fun w' x_ => xmove rfl) rfl rfl rfl ?_
          refine qv (fun w' x_ => xmove rfl) rfl rfl rfl ?_
          refine qv (fun w' x_ => xadd rfl rfl (by unfold I64; omega)) rfl rfl rfl ?_
          refine qv (fun w' x_ => xsliceSl Tryd.underlying9 rfl rfl (by omega) (by omega)) rfl rfl rfl ?_
          refine qv (fun w' x_ => xsadd rfl rfl (by have hx_ := ext_size4 t 0 (Int.toNat r10_0); have hy_ := ext_size4 t (Int.toNat (r10_0 + 1)) (ByteArray.size t); omega)) rfl rfl rfl ?_
          refine qv (fun w' x_ => xassign rfl) rfl rfl rfl ?_
          refine q_nil ?_
          intro w3 e3
          have z3 := e3.size
          have E := E.trans (Mk.ofExt e3)
          replace S := S.ext e3
          refine run_ret Tryd.func31 (res1 rfl rfl) ?_
          exact ⟨_, rfl, _, rfl, by (first | omega | (simp only [ByteArray.size_append, ByteArray.size_extract]; omega)), E, S⟩
        ·
          refine ops_nil ?_
          refine run_cond_f rfl ?_
          refine run_skip ?_
          refine run_inBlock ?_
          refine run_seq ?_
          refine run_region ?_
          refine ov (xmove rfl) rfl rfl rfl ?_
          refine ov (xassign rfl) rfl rfl rfl ?_
          refine ops_nil ?_
          refine run_ret Tryd.func31 (res1 rfl rfl) ?_
          exact ⟨_, rfl, _, rfl, by (first | omega | (simp only [ByteArray.size_append, ByteArray.size_extract]; omega)), E, S⟩
      ·
        refine ov (xassign rfl) rfl rfl rfl ?_
        refine ops_nil ?_
        refine run_cond_f rfl ?_
        refine run_skip ?_
        refine run_inBlock ?_
        refine run_seq ?_
        refine run_region ?_
        refine ov (xmove rfl) rfl rfl rfl ?_
        refine ov (xassign rfl) rfl rfl rfl ?_
        refine ops_nil ?_
        refine run_ret Tryd.func31 (res1 rfl rfl) ?_
        exact ⟨_, rfl, _, rfl, by (first | omega | (simp only [ByteArray.size_append, ByteArray.size_extract]; omega)), E, S⟩

set_option maxHeartbeats 2000000 in
theorem DrawRulingText_ok (p : Option Addr) (n c : Nat) (bs : List Int) (w : World) (H : Sl u8c 1 w p n c bs) (hbs : ∀ x ∈ bs, 0 ≤ x ∧ x ≤ 255) : Ret Tryd.prog 14 [.slice p n c] w (fun v w' => Ext w w' ∧ ∃ x : Ruling, v = .agg #[.int .i64 x.Day, .string x.Code, .int .i64 x.Kind] ∧ x.Code.size ≤ 100) := by
  refine ret_of_run (N := 22) Tryd.func14 rfl rfl rfl ?_
  have hfar := H.blk (fun x => by simp [u8c])
  have E : Ext w w := Ext.refl w
  refine run_seq ?_
  refine run_region ?_
  refine oalloc Tryd.zeroValue27 rfl rfl ?_
  intro b1 w1 e1 hb1 hz1 O1
  have E := E.trans e1
  replace O1 : Own w1 b1 [.int .i64 0, .string ⟨#[]⟩, .int .i64 0] 27 := O1
  refine ops_nil ?_
  refine run_seq ?_
  refine run_region ?_
  refine ov (xmove rfl) rfl rfl rfl ?_
  refine oc (xcall Tryd.call26 rfl) rfl rfl rfl (l01From_ok _ _ _ _ _ (H.ext E) (by assumption) w.heap.size hfar (by omega)) ?_
  rintro _ w2 ⟨e2, b6_, rfl, hcb6, S⟩
  have z2 := e2.size
  have E := E.trans e2
  replace O1 := O1.ext e2
  have hcc6 := S.cb
  have hbl6 := S.lt
  refine ov (xassign rfl) rfl rfl rfl ?_
  refine ops_nil ?_
  refine run_seq ?_
  refine run_region ?_
  refine ov (xmove rfl) rfl rfl rfl ?_
  refine oc (xcall Tryd.call27 rfl) rfl rfl rfl (l25Good_ok b6_ w.heap.size (120) _ S) ?_
  rintro _ w3 ⟨r8_0, rfl, h8_0, m3, S3⟩
  have z3 := m3.size
  have E := m3.toExt E (by omega)
  replace O1 := m3.own O1 (by omega)
  replace S := S3
  refine oalloc Tryd.zeroValue27 rfl rfl ?_
  intro b4 w4 e4 hb4 hz4 O4
  have E := E.trans e4
  replace S := S.ext e4
  replace O1 := O1.ext e4
  replace O4 : Own w4 b4 [.int .i64 0, .string ⟨#[]⟩, .int .i64 0] 27 := O4
  refine ostoreN (vs := _) Tryd.sizeOf27 rfl rfl O4 rfl (by simp) (by simp [Value.oneCell']) rfl ?_
  intro w5 on5 O5
  have hz5 := on5.size
  have E := on5.ext E (by omega)
  replace S := S.off (Mk.ofOnly on5 (Nat.le_refl _) (Nat.lt_succ_self _)) (by omega)
  replace O1 := on5.own O1 (by omega)
  replace O5 : Own w5 b4 [.int .i64 (r8_0).Day, .string (r8_0).Code, .int .i64 (r8_0).Kind] 27 := O5
  refine ops_nil ?_
  refine run_seq ?_
  refine run_seq ?_
  refine run_region ?_
  refine ov (xmove rfl) rfl rfl rfl ?_
  refine oc (xcall Tryd.call28 rfl) rfl rfl rfl (l01Next_ok b6_ w.heap.size (8) _ S) ?_
  rintro _ w6 ⟨r10_0, rfl, h10_0, h10_1, m6, S6⟩
  have z6 := m6.size
  have E := m6.toExt E (by omega)
  replace O1 := m6.own O1 (by omega)
  replace O5 := m6.own O5 (by omega)
  replace S := S6
  refine ov (xeql rfl rfl _ rfl) rfl rfl rfl ?_
  refine ods (fun c11 => ?_) (fun c11 => ?_)
  ·
    refine ops_nil ?_
    refine run_cond_t rfl ?_
    refine run_seq ?_
    refine run_region ?_
    refine ov (xmove rfl) rfl rfl rfl ?_
    refine obuild (cs := [.int .i64 20000, .int .i64 20001]) (sz := 1) Tryd.underlying64 inf2 rfl rfl (by decide) rfl rfl (by simp [Value.cells]) rfl rfl rfl ?_
    intro b7 w7 e7 hb7 hz7 O7
    have E := E.trans e7
    replace S := S.ext e7
    replace O1 := O1.ext e7
    replace O5 := O5.ext e7
    have G7 : Ow i64c 1 2 w7 b7 (b7 + 1) (some ⟨b7, 0, none⟩) 2 2 ([20000, 20001] : List Int) := Own.ow (by simpa [Ruling.cells, strc, i64c] using O7) rfl (by omega) (Nat.le_refl _) (by omega) (by intro x hx; rfl)
    refine oc (xcall Tryd.call29 rfl) rfl rfl rfl (l01Pick_ok b6_ w.heap.size _ _ _ [20000, 20001] 20001 _ S (G7.sl) (by intro x hx; simp only [List.mem_cons, List.not_mem_nil, or_false] at hx; omega) (by omega) (by simp only [pb, Option.getD_some]; omega)) ?_
    rintro _ w8 ⟨r14_0, rfl, h14_0, m8, S8⟩
    have z8 := m8.size
    have E := m8.toExt E (by omega)
    replace G7 := G7.off m8 (by omega)
    replace O1 := m8.own O1 (by omega)
    replace O5 := m8.own O5 (by omega)
    replace S := S8
    refine ov (xmove rfl) rfl rfl rfl ?_
    refine oc (xcall Tryd.call30 rfl) rfl rfl rfl (l01DrawWord_ok b6_ w.heap.size _ S) ?_
    rintro _ w9 ⟨r16_0, rfl, h16_0, m9, S9⟩
    have z9 := m9.size
    have E := m9.toExt E (by omega)
    replace G7 := G7.off m9 (by omega)
    replace O1 := m9.own O1 (by omega)
    replace O5 := m9.own O5 (by omega)
    replace S := S9
    refine ov (xmove rfl) rfl rfl rfl ?_
    refine oc (xcall Tryd.call28 rfl) rfl rfl rfl (l01Next_ok b6_ w.heap.size (6) _ S) ?_
    rintro _ w10 ⟨r18_0, rfl, h18_0, h18_1, m10, S10⟩
    have z10 := m10.size
    have E := m10.toExt E (by omega)
    replace G7 := G7.off m10 (by omega)
    replace O1 := m10.own O1 (by omega)
    replace O5 := m10.own O5 (by omega)
    replace S := S10
    refine ov (xsub rfl rfl (by unfold I64; omega)) rfl rfl rfl ?_
    refine ov (xbuild (vs := [.int .i64 r14_0, .string r16_0, .int .i64 (r18_0 - 1)]) (cells := #[.int .i64 r14_0, .string r16_0, .int .i64 (r18_0 - 1)]) rfl (by kernel_rfl)) rfl rfl rfl ?_
    refine ostoreN (vs := _) Tryd.sizeOf27 rfl rfl O1 rfl (by simp) (by simp [Value.oneCell']) rfl ?_
    intro w11 on11 O11
    have hz11 := on11.size
    have E := on11.ext E (by omega)
    replace S := S.off (Mk.ofOnly on11 (Nat.le_refl _) (Nat.lt_succ_self _)) (by omega)
    replace G7 := G7.only on11 (by omega)
    replace O5 := on11.own O5 (by omega)
    replace O11 : Own w11 b1 [.int .i64 r14_0, .string r16_0, .int .i64 (r18_0 - 1)] 27 := O11
    refine ops_nil ?_
    refine run_ret Tryd.func14 (resc1 rfl rfl (run_loadVar_cells Tryd.isAgg27 Tryd.sizeOf27 O11.cells rfl)) ?_
    exact ⟨_, rfl, E, ⟨_, _, _⟩, rfl, by dsimp only; omega⟩
  ·
    refine ops_nil ?_
    refine run_cond_f rfl ?_
    refine run_skip ?_
    refine run_seq ?_
    refine run_region ?_
    refine ov (v := .agg #[.int .i64 (r8_0).Day, .string (r8_0).Code, .int .i64 (r8_0).Kind]) (xloadN Tryd.isAgg27 Tryd.sizeOf27 rfl (O5.cells) rfl) rfl rfl rfl ?_
    refine ostoreN (vs := _) Tryd.sizeOf27 rfl rfl O1 rfl (by simp) (by simp [Value.oneCell']) rfl ?_
    intro w7 on7 O7
    have hz7 := on7.size
    have E := on7.ext E (by omega)
    replace S := S.off (Mk.ofOnly on7 (Nat.le_refl _) (Nat.lt_succ_self _)) (by omega)
    replace O5 := on7.own O5 (by omega)
    replace O7 : Own w7 b1 [.int .i64 (r8_0).Day, .string (r8_0).Code, .int .i64 (r8_0).Kind] 27 := O7
    refine ops_nil ?_
    refine run_ret Tryd.func14 (resc1 rfl rfl (run_loadVar_cells Tryd.isAgg27 Tryd.sizeOf27 O7.cells rfl)) ?_
    exact ⟨_, rfl, E, ⟨_, _, _⟩, rfl, by dsimp only; omega⟩

set_option maxHeartbeats 2000000 in
theorem DrawReadRuling_ok (p : Option Addr) (n c : Nat) (bs : List Int) (w : World) (H : Sl u8c 1 w p n c bs) (hbs : ∀ x ∈ bs, 0 ≤ x ∧ x ≤ 255) : Ret Tryd.prog 15 [.slice p n c] w (fun v w' => Ext w w' ∧ ∃ s : ByteArray, v = .string s ∧ s.size ≤ 2010) := by
  refine ret_of_run (N := 17) Tryd.func15 rfl rfl rfl ?_
  have hfar := H.blk (fun x => by simp [u8c])
  have E : Ext w w := Ext.refl w
  refine run_seq ?_
  refine run_region ?_
  refine ov (xassign rfl) rfl rfl rfl ?_
  refine ops_nil ?_
  refine run_seq ?_
  refine run_region ?_
  refine ov (xmove rfl) rfl rfl rfl ?_
  refine oc (xcall Tryd.call26 rfl) rfl rfl rfl (l01From_ok _ _ _ _ _ (H.ext E) (by assumption) w.heap.size hfar (by omega)) ?_
  rintro _ w1 ⟨e1, b6_, rfl, hcb6, S⟩
  have z1 := e1.size
  have E := E.trans e1
  have hcc6 := S.cb
  have hbl6 := S.lt
  refine ov (xassign rfl) rfl rfl rfl ?_
  refine ops_nil ?_
  refine run_seq ?_
  refine run_region ?_
  refine ov (xmove rfl) rfl rfl rfl ?_
  refine oc (xcall Tryd.call27 rfl) rfl rfl rfl (l25Good_ok b6_ w.heap.size (120) _ S) ?_
  rintro _ w2 ⟨r8_0, rfl, h8_0, m2, S2⟩
  have z2 := m2.size
  have E := m2.toExt E (by omega)
  replace S := S2
  refine oc (xcall Tryd.call17 rfl) rfl rfl rfl (l25Text_ok r8_0 _ (by omega) (by omega) (by omega) (by omega) (by omega)) ?_
  rintro _ w3 ⟨rfl, e3⟩
  have z3 := e3.size
  have E := E.trans e3
  replace S := S.ext e3
  refine ov (xassign rfl) rfl rfl rfl ?_
  refine ops_nil ?_
  refine run_seq ?_
  refine run_seq ?_
  refine run_region ?_
  refine ov (xmove rfl) rfl rfl rfl ?_
  refine oc (xcall Tryd.call28 rfl) rfl rfl rfl (l01Next_ok b6_ w.heap.size (3) _ S) ?_
  rintro _ w4 ⟨r11_0, rfl, h11_0, h11_1, m4, S4⟩
  have z4 := m4.size
  have E := m4.toExt E (by omega)
  replace S := S4
  refine ov (xeql rfl rfl _ rfl) rfl rfl rfl ?_
  refine ods (fun c12 => ?_) (fun c12 => ?_)
  ·
    refine ops_nil ?_
    refine run_cond_t rfl ?_
    refine run_seq ?_
    refine run_region ?_
    refine ov (xmove rfl) rfl rfl rfl ?_
    refine ov (xmove rfl) rfl rfl rfl ?_
    refine oc (xcall Tryd.call31 rfl) rfl rfl rfl (l01Damage_ok b6_ w.heap.size (rulText r8_0) _ S (by have := rulText_size (r := r8_0) (by omega) (by omega); omega)) ?_
    rintro _ w5 ⟨r15_0, rfl, h15_0, m5, S5⟩
    have z5 := m5.size
    have E := m5.toExt E (by omega)
    replace S := S5
    refine ov (xassign rfl) rfl rfl rfl ?_
    refine ops_nil ?_
    refine run_ret Tryd.func15 (res1 rfl rfl) ?_
    have hrs := rulText_size (r := r8_0) (by omega) (by omega)
    exact ⟨_, rfl, E, _, rfl, by omega⟩
  ·
    refine ops_nil ?_
    refine run_cond_f rfl ?_
    refine run_skip ?_
    refine run_seq ?_
    refine run_region ?_
    refine ov (xmove rfl) rfl rfl rfl ?_
    refine ov (xassign rfl) rfl rfl rfl ?_
    refine ops_nil ?_
    refine run_ret Tryd.func15 (res1 rfl rfl) ?_
    have hrs := rulText_size (r := r8_0) (by omega) (by omega)
    exact ⟨_, rfl, E, _, rfl, by omega⟩
end Go.Proofs.YtnjohcbamblilaaDoor
