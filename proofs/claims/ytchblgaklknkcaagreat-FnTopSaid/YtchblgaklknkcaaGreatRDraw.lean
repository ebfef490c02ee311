/-
  Draws of words, states and records. No condition beyond those written in each theorem.
-/
import Derived.Test.YtchblgaklknkcaaGreatRep12b
import Derived.Test.YtchblgaklknkcaaGreatRg2
import Derived.Test.YtchblgaklknkcaaGreatDraw
namespace Go.Proofs.YtchblgaklknkcaaGreat
open Go.RowKit
set_option linter.unusedVariables false
set_option linter.unusedSimpArgs false
set_option linter.unusedSectionVars false
set_option maxRecDepth 4000
theorem ok_app3 {α : Type} {q : α → Prop} {xs : List α} {y : α} (h : ∀ x ∈ xs, q x) (hy : q y) : ∀ x ∈ xs ++ [y], q x := fun x m => by
  rcases List.mem_append.1 m with m | m
  · exact h x m
  · rw [List.mem_singleton] at m; subst m; exact hy
theorem Ow.pb_lt {α : Type} {enc : α → List Value} {sz lo hi n c : Nat} {T : TypeId} {w : World} {p : Option Addr} {xs : List α} (h : Ow enc sz T w lo hi p n c xs) (h0 : 0 < w.heap.size) : pb p < w.heap.size := by
 rcases h.row with ⟨rfl, _⟩ | ⟨b, s, rfl, _, _, h4, _⟩
 · exact h0
 · exact h4.lt
theorem SlF.take {α : Type} {enc : α → List Value} {sz lo hi : Nat} {w : World} {p : Option Addr} {n c k : Nat} {xs : List α} (h : SlF enc sz w lo hi p n c xs) (hk : k ≤ n) : SlF enc sz w lo hi p k c (xs.take k) :=
  ⟨h.sl.take hk, h.far.imp (fun h0 => by omega) id⟩
set_option maxHeartbeats 400000 in
theorem l01Good_ok (b cb : Nat) (w : World) (S : Src w b cb) : Ret Tryz.prog 114 [.pointer (some ⟨b, 0, none⟩)] w (fun v w' => ∃ s : ByteArray, v = .string s ∧ s.size ≤ 100 ∧ Mk b (b + 1) w w' ∧ Src w' b cb) := by
 refine ret_of_run (N := 8) Tryz.func114 rfl rfl rfl ?_
 have hbl := S.lt
 have hcb := S.cb
 have E : Mk b (b + 1) w w := Mk.refl _ _ _
 refine sr_ ?_
 refine vn_ rfl rfl rfl ?_
 refine sr_ ?_
 refine obuild (cs := [.string ⟨#[97, 100, 97]⟩, .string ⟨#[98, 114, 117, 110, 111]⟩, .string ⟨#[99, 108, 97, 114, 97]⟩, .string ⟨#[100, 111, 114, 97]⟩, .string ⟨#[101, 109, 105, 108]⟩, .string ⟨#[102, 114, 105, 100, 97]⟩, .string ⟨#[103, 117, 115, 116, 97, 118]⟩, .string ⟨#[104, 97, 110, 110, 97]⟩, .string ⟨#[105, 118, 97, 110]⟩, .string ⟨#[106, 97, 110, 97]⟩, .string ⟨#[107, 97, 114, 108]⟩, .string ⟨#[108, 101, 110, 97]⟩]) (sz := 1) Tryz.underlying28 inf9 rfl rfl (by decide) rfl rfl (by simp [Value.cells]) rfl rfl rfl ?_
 intro b1 w1 e1 hb1 hz1 O1
 have E := E.trans (Mk.ofExt e1)
 replace S := S.ext e1
 have G1 : Ow strc 1 9 w1 b1 (b1 + 1) (some ⟨b1, 0, none⟩) 12 12 ([⟨#[97, 100, 97]⟩, ⟨#[98, 114, 117, 110, 111]⟩, ⟨#[99, 108, 97, 114, 97]⟩, ⟨#[100, 111, 114, 97]⟩, ⟨#[101, 109, 105, 108]⟩, ⟨#[102, 114, 105, 100, 97]⟩, ⟨#[103, 117, 115, 116, 97, 118]⟩, ⟨#[104, 97, 110, 110, 97]⟩, ⟨#[105, 118, 97, 110]⟩, ⟨#[106, 97, 110, 97]⟩, ⟨#[107, 97, 114, 108]⟩, ⟨#[108, 101, 110, 97]⟩] : List ByteArray) := Own.ow (by simpa [strc] using O1) rfl (by omega) (Nat.le_refl _) (by omega) (by intro x hx; rfl)
 refine vm_ rfl rfl rfl ?_
 refine oc (xcall Tryz.call60 rfl) rfl rfl rfl (l01Next_ok b cb (12) _ S) ?_
 rintro _ w2 ⟨r5_0, rfl, h5_0, h5_1, m2, S2⟩
 have z2 := m2.size
 have E := E.trans m2
 replace G1 := G1.off m2 (by omega)
 replace S := S2
 have h6 := (G1.sl).at (i := r5_0.toNat) (by show r5_0.toNat < 12; omega)
 refine oz_ (xindexN (i := r5_0.toNat) Tryz.underlying28 Tryz.sizeOf9 rfl rfl (by omega) ((G1.sl).p (i := r5_0.toNat) (by show r5_0.toNat < 12; omega)) (by have := (G1.sl).len; omega)) rfl rfl ?_
 refine oz_ (v := .string (([⟨#[97, 100, 97]⟩, ⟨#[98, 114, 117, 110, 111]⟩, ⟨#[99, 108, 97, 114, 97]⟩, ⟨#[100, 111, 114, 97]⟩, ⟨#[101, 109, 105, 108]⟩, ⟨#[102, 114, 105, 100, 97]⟩, ⟨#[103, 117, 115, 116, 97, 118]⟩, ⟨#[104, 97, 110, 110, 97]⟩, ⟨#[105, 118, 97, 110]⟩, ⟨#[106, 97, 110, 97]⟩, ⟨#[107, 97, 114, 108]⟩, ⟨#[108, 101, 110, 97]⟩] : List ByteArray)[r5_0.toNat]'(by show r5_0.toNat < 12; omega))) (xloadz Tryz.isAgg9 rfl (h6) rfl) rfl rfl ?_
 refine vn_ rfl rfl rfl ?_
 refine run_ret Tryz.func114 (res1 rfl rfl) ?_
 exact ⟨_, rfl, _, rfl, (by decide : ∀ x ∈ ([⟨#[97, 100, 97]⟩, ⟨#[98, 114, 117, 110, 111]⟩, ⟨#[99, 108, 97, 114, 97]⟩, ⟨#[100, 111, 114, 97]⟩, ⟨#[101, 109, 105, 108]⟩, ⟨#[102, 114, 105, 100, 97]⟩, ⟨#[103, 117, 115, 116, 97, 118]⟩, ⟨#[104, 97, 110, 110, 97]⟩, ⟨#[105, 118, 97, 110]⟩, ⟨#[106, 97, 110, 97]⟩, ⟨#[107, 97, 114, 108]⟩, ⟨#[108, 101, 110, 97]⟩] : List ByteArray), x.size ≤ 100) _ (List.getElem_mem _), E, S⟩
set_option maxHeartbeats 400000 in
theorem l01DrawWord_ok (b cb : Nat) (w : World) (S : Src w b cb) : Ret Tryz.prog 91 [.pointer (some ⟨b, 0, none⟩)] w (fun v w' => ∃ s : ByteArray, v = .string s ∧ s.size ≤ 100 ∧ Mk b (b + 1) w w' ∧ Src w' b cb) := by
 refine ret_of_run (N := 13) Tryz.func91 rfl rfl rfl ?_
 have hbl := S.lt
 have hcb := S.cb
 have E : Mk b (b + 1) w w := Mk.refl _ _ _
 refine sr_ ?_
 refine vn_ rfl rfl rfl ?_
 refine run_seq ?_
 refine sr_ ?_
 refine vm_ rfl rfl rfl ?_
 refine oc (xcall Tryz.call60 rfl) rfl rfl rfl (l01Next_ok b cb (24) _ S) ?_
 rintro _ w1 ⟨r4_0, rfl, h4_0, h4_1, m1, S1⟩
 have z1 := m1.size
 have E := E.trans m1
 replace S := S1
 refine oz_ (xeql rfl rfl _ rfl) rfl rfl ?_
 refine ods (fun c5 => ?_) (fun c5 => ?_)
 rotate_left
 ·
  refine cf_ rfl ?_
  refine sr_ ?_
  refine vm_ rfl rfl rfl ?_
  refine oc (xcall Tryz.call114 rfl) rfl rfl rfl (l01Good_ok b cb _ S) ?_
  rintro _ w2 ⟨r12_0, rfl, h12_0, m2, S2⟩
  have z2 := m2.size
  have E := E.trans m2
  replace S := S2
  refine vn_ rfl rfl rfl ?_
  refine run_ret Tryz.func91 (res1 rfl rfl) ?_
  exact ⟨_, rfl, _, rfl, by omega, E, S⟩
 refine ct_ rfl ?_
 refine sr_ ?_
 refine obuild (cs := [.string ⟨#[]⟩, .string ⟨#[65, 100, 97]⟩, .string ⟨#[97, 49]⟩, .string ⟨#[97, 98, 99, 100, 101, 102, 103, 104, 105, 106, 107, 108, 109, 110, 111, 112]⟩, .string ⟨#[97, 98, 99, 100, 101, 102, 103, 104, 105, 106, 107, 108, 109, 110, 111, 112, 113]⟩, .string ⟨#[97, 32, 98]⟩]) (sz := 1) Tryz.underlying28 inf9 rfl rfl (by decide) rfl rfl (by simp [Value.cells]) rfl rfl rfl ?_
 intro b2 w2 e2 hb2 hz2 O2
 have E := E.trans (Mk.ofExt e2)
 replace S := S.ext e2
 have G2 : Ow strc 1 9 w2 b2 (b2 + 1) (some ⟨b2, 0, none⟩) 6 6 ([⟨#[]⟩, ⟨#[65, 100, 97]⟩, ⟨#[97, 49]⟩, ⟨#[97, 98, 99, 100, 101, 102, 103, 104, 105, 106, 107, 108, 109, 110, 111, 112]⟩, ⟨#[97, 98, 99, 100, 101, 102, 103, 104, 105, 106, 107, 108, 109, 110, 111, 112, 113]⟩, ⟨#[97, 32, 98]⟩] : List ByteArray) := Own.ow (by simpa [strc] using O2) rfl (by omega) (Nat.le_refl _) (by omega) (by intro x hx; rfl)
 refine vm_ rfl rfl rfl ?_
 refine oc (xcall Tryz.call60 rfl) rfl rfl rfl (l01Next_ok b cb (6) _ S) ?_
 rintro _ w3 ⟨r8_0, rfl, h8_0, h8_1, m3, S3⟩
 have z3 := m3.size
 have E := E.trans m3
 replace G2 := G2.off m3 (by omega)
 replace S := S3
 have h9 := (G2.sl).at (i := r8_0.toNat) (by show r8_0.toNat < 6; omega)
 refine oz_ (xindexN (i := r8_0.toNat) Tryz.underlying28 Tryz.sizeOf9 rfl rfl (by omega) ((G2.sl).p (i := r8_0.toNat) (by show r8_0.toNat < 6; omega)) (by have := (G2.sl).len; omega)) rfl rfl ?_
 refine oz_ (v := .string (([⟨#[]⟩, ⟨#[65, 100, 97]⟩, ⟨#[97, 49]⟩, ⟨#[97, 98, 99, 100, 101, 102, 103, 104, 105, 106, 107, 108, 109, 110, 111, 112]⟩, ⟨#[97, 98, 99, 100, 101, 102, 103, 104, 105, 106, 107, 108, 109, 110, 111, 112, 113]⟩, ⟨#[97, 32, 98]⟩] : List ByteArray)[r8_0.toNat]'(by show r8_0.toNat < 6; omega))) (xloadz Tryz.isAgg9 rfl (h9) rfl) rfl rfl ?_
 refine vn_ rfl rfl rfl ?_
 refine run_ret Tryz.func91 (res1 rfl rfl) ?_
 exact ⟨_, rfl, _, rfl, (by decide : ∀ x ∈ ([⟨#[]⟩, ⟨#[65, 100, 97]⟩, ⟨#[97, 49]⟩, ⟨#[97, 98, 99, 100, 101, 102, 103, 104, 105, 106, 107, 108, 109, 110, 111, 112]⟩, ⟨#[97, 98, 99, 100, 101, 102, 103, 104, 105, 106, 107, 108, 109, 110, 111, 112, 113]⟩, ⟨#[97, 32, 98]⟩] : List ByteArray), x.size ≤ 100) _ (List.getElem_mem _), E, S⟩
set_option maxHeartbeats 1000000 in
theorem l03State_ok (b cb : Nat) (w : World) (S : Src w b cb) : Ret Tryz.prog 88 [.pointer (some ⟨b, 0, none⟩)] w (fun v w' => ∃ r : Int, v = .int .i64 r ∧ Mk b (b + 1) w w' ∧ Src w' b cb) := by
 refine ret_of_run (N := 25) Tryz.func88 rfl rfl rfl ?_
 have hbl := S.lt
 have hcb := S.cb
 have E : Mk b (b + 1) w w := Mk.refl _ _ _
 refine sr_ ?_
 refine vn_ rfl rfl rfl ?_
 refine sr_ ?_
 refine vm_ rfl rfl rfl ?_
 refine vm_ rfl rfl rfl ?_
 refine oc (xcall Tryz.call60 rfl) rfl rfl rfl (l01Next_ok b cb (2000000000) _ S) ?_
 rintro _ w1 ⟨r5_0, rfl, h5_0, h5_1, m1, S1⟩
 have z1 := m1.size
 have E := E.trans m1
 replace S := S1
 refine oz_ (xadd rfl rfl (by unfold I64; omega)) rfl rfl ?_
 refine vm_ rfl rfl rfl ?_
 refine oc (xcall Tryz.call60 rfl) rfl rfl rfl (l01Next_ok b cb (2000000000) _ S) ?_
 rintro _ w2 ⟨r8_0, rfl, h8_0, h8_1, m2, S2⟩
 have z2 := m2.size
 have E := E.trans m2
 replace S := S2
 refine oz_ (xadd rfl rfl (by unfold I64; omega)) rfl rfl ?_
 refine vm_ rfl rfl rfl ?_
 refine oc (xcall Tryz.call60 rfl) rfl rfl rfl (l01Next_ok b cb (1000) _ S) ?_
 rintro _ w3 ⟨r11_0, rfl, h11_0, h11_1, m3, S3⟩
 have z3 := m3.size
 have E := E.trans m3
 replace S := S3
 refine oz_ (xadd rfl rfl (by unfold I64; omega)) rfl rfl ?_
 refine vm_ rfl rfl rfl ?_
 refine oc (xcall Tryz.call60 rfl) rfl rfl rfl (l01Next_ok b cb (20) _ S) ?_
 rintro _ w4 ⟨r14_0, rfl, h14_0, h14_1, m4, S4⟩
 have z4 := m4.size
 have E := E.trans m4
 replace S := S4
 refine oz_ (xquo rfl rfl (by omega) (by omega) (by unfold I64; omega)) rfl rfl ?_
 refine oz_ (xsub rfl rfl (by unfold I64; omega)) rfl rfl ?_
 refine vm_ rfl rfl rfl ?_
 refine obuild (cs := [.int .i64 1, .int .i64 2, .int .i64 0, .int .i64 2147483647, .int .i64 (-1)]) (sz := 1) Tryz.underlying24 inf2 rfl rfl (by decide) rfl rfl (by simp [Value.cells]) rfl rfl rfl ?_
 intro b5 w5 e5 hb5 hz5 O5
 have E := E.trans (Mk.ofExt e5)
 replace S := S.ext e5
 have G5 : Ow i64c 1 2 w5 b5 (b5 + 1) (some ⟨b5, 0, none⟩) 5 5 ([1, 2, 0, 2147483647, (-1)] : List Int) := Own.ow (by simpa [i64c] using O5) rfl (by omega) (Nat.le_refl _) (by omega) (by intro x hx; rfl)
 refine oc (xcall Tryz.call61 rfl) rfl rfl rfl (l01Pick_ok b cb _ _ _ ([1, 2, 0, 2147483647, (-1)] : List Int) 2147483647 _ S (G5.sl) (by decide) (by omega) (by simp only [pb, Option.getD_some]; omega)) ?_
 rintro _ w6 ⟨r19_0, rfl, h19_0, m6, S6⟩
 have z6 := m6.size
 have E := E.trans m6
 replace S := S6
 refine vm_ rfl rfl rfl ?_
 refine oc (xcall Tryz.call60 rfl) rfl rfl rfl (l01Next_ok b cb (2000000000) _ S) ?_
 rintro _ w7 ⟨r21_0, rfl, h21_0, h21_1, m7, S7⟩
 have z7 := m7.size
 have E := E.trans m7
 replace S := S7
 refine oz_ (xadd rfl rfl (by unfold I64; omega)) rfl rfl ?_
 refine obuild (cs := [.int .i64 (1 + r5_0), .int .i64 (1 + r8_0), .int .i64 (1 + r11_0), .int .i64 (2147483646 - (r14_0 / 19)), .int .i64 r19_0, .int .i64 (1 + r21_0)]) (sz := 1) Tryz.underlying24 inf2 rfl rfl (by decide) rfl rfl (by simp [Value.cells]) rfl rfl rfl ?_
 intro b8 w8 e8 hb8 hz8 O8
 have E := E.trans (Mk.ofExt e8)
 replace S := S.ext e8
 have G8 : Ow i64c 1 2 w8 b8 (b8 + 1) (some ⟨b8, 0, none⟩) 6 6 ([(1 + r5_0), (1 + r8_0), (1 + r11_0), (2147483646 - r14_0 / 19), r19_0, (1 + r21_0)] : List Int) := Own.ow (by simpa [i64c] using O8) rfl (by omega) (Nat.le_refl _) (by omega) (by intro x hx; rfl)
 refine oc (xcall Tryz.call61 rfl) rfl rfl rfl (l01Pick_ok b cb _ _ _ [(1 + r5_0), (1 + r8_0), (1 + r11_0), (2147483646 - r14_0 / 19), r19_0, (1 + r21_0)] 3000000000 _ S (G8.sl) (by intro x hx; simp only [List.mem_cons, List.not_mem_nil, or_false] at hx; omega) (by omega) (by simp only [pb, Option.getD_some]; omega)) ?_
 rintro _ w9 ⟨r24_0, rfl, h24_0, m9, S9⟩
 have z9 := m9.size
 have E := E.trans m9
 replace S := S9
 refine vn_ rfl rfl rfl ?_
 refine run_ret Tryz.func88 (res1 rfl rfl) ?_
 exact ⟨_, rfl, _, rfl, E, S⟩
set_option maxHeartbeats 8000000 in
theorem l16Good_ok (b cb : Nat) (w : World) (S : Src w b cb) : Ret Tryz.prog 87 [.pointer (some ⟨b, 0, none⟩)] w (fun v w' => ∃ (r : Rec) (q1 : Option Addr) (m1 d1 : Nat) (q2 : Option Addr) (m2 d2 : Nat) (q3 : Option Addr) (m3 d3 : Nat), v = .agg #[.int .i64 r.C, .int .i64 r.St, .int .i64 r.Sa, .slice q1 m1 d1, .int .i64 r.Se, .slice q2 m2 d2, .slice q3 m3 d3, .int .i64 r.Me, .int .i64 r.Al] ∧ SlF i64c 1 w' w.heap.size w'.heap.size q1 m1 d1 (r.N) ∧ SlF i64c 1 w' w.heap.size w'.heap.size q2 m2 d2 (r.Sk) ∧ SlF i64c 1 w' w.heap.size w'.heap.size q3 m3 d3 (r.Mv) ∧ Mk b (b + 1) w w' ∧ Src w' b cb) := by
 refine ret_of_run (N := 79) Tryz.func87 rfl rfl rfl ?_
 have hbl := S.lt
 have hcb := S.cb
 have E : Mk b (b + 1) w w := Mk.refl _ _ _
 refine sr_ ?_
 refine oalloc Tryz.zeroValue26 rfl rfl ?_
 intro b1 w1 e1 hb1 hz1 O1
 have E := E.trans (Mk.ofExt e1)
 replace S := S.ext e1
 replace O1 : Own w1 b1 [.int .i64 0, .int .i64 0, .int .i64 0, .slice none 0 0, .int .i64 0, .slice none 0 0, .slice none 0 0, .int .i64 0, .int .i64 0] 26 := O1
 refine ops_nil ?_
 refine sr_ ?_
 refine vm_ rfl rfl rfl ?_
 refine oc (xcall Tryz.call60 rfl) rfl rfl rfl (l01Next_ok b cb (2000000000) _ S) ?_
 rintro _ w2 ⟨r8_0, rfl, h8_0, h8_1, m2, S2⟩
 have z2 := m2.size
 have E := E.trans m2
 replace O1 := m2.own O1 (by omega)
 replace S := S2
 refine oz_ (xadd rfl rfl (by unfold I64; omega)) rfl rfl ?_
 refine vm_ rfl rfl rfl ?_
 refine oc (xcall Tryz.call60 rfl) rfl rfl rfl (l01Next_ok b cb (2000000000) _ S) ?_
 rintro _ w3 ⟨r11_0, rfl, h11_0, h11_1, m3, S3⟩
 have z3 := m3.size
 have E := E.trans m3
 replace O1 := m3.own O1 (by omega)
 replace S := S3
 refine obuild (cs := []) (sz := 1) Tryz.underlying24 inf2 rfl rfl (by decide) rfl rfl (by simp [Value.cells]) rfl rfl rfl ?_
 intro b4 w4 e4 hb4 hz4 O4
 have E := E.trans (Mk.ofExt e4)
 replace S := S.ext e4
 replace O1 := O1.ext e4
 have G4 : Ow i64c 1 2 w4 b4 (b4 + 1) (some ⟨b4, 0, none⟩) 0 0 ([] : List Int) := Own.ow (by simpa [i64c] using O4) rfl (by omega) (Nat.le_refl _) (by omega) (by intro x hx; rfl)
 refine vm_ rfl rfl rfl ?_
 refine oc (xcall Tryz.call60 rfl) rfl rfl rfl (l01Next_ok b cb (5) _ S) ?_
 rintro _ w5 ⟨r14_0, rfl, h14_0, h14_1, m5, S5⟩
 have z5 := m5.size
 have E := E.trans m5
 replace G4 := G4.off m5 (by omega)
 replace O1 := m5.own O1 (by omega)
 replace S := S5
 refine oz_ (xadd rfl rfl (by unfold I64; omega)) rfl rfl ?_
 refine vm_ rfl rfl rfl ?_
 refine oc (xcall Tryz.call60 rfl) rfl rfl rfl (l01Next_ok b cb (4) _ S) ?_
 rintro _ w6 ⟨r17_0, rfl, h17_0, h17_1, m6, S6⟩
 have z6 := m6.size
 have E := E.trans m6
 replace G4 := G4.off m6 (by omega)
 replace O1 := m6.own O1 (by omega)
 replace S := S6
 refine vm_ rfl rfl rfl ?_
 refine oc (xcall Tryz.call60 rfl) rfl rfl rfl (l01Next_ok b cb (4) _ S) ?_
 rintro _ w7 ⟨r19_0, rfl, h19_0, h19_1, m7, S7⟩
 have z7 := m7.size
 have E := E.trans m7
 replace G4 := G4.off m7 (by omega)
 replace O1 := m7.own O1 (by omega)
 replace S := S7
 refine obuild (cs := [.int .i64 r17_0, .int .i64 r19_0]) (sz := 1) Tryz.underlying24 inf2 rfl rfl (by decide) rfl rfl (by simp [Value.cells]) rfl rfl rfl ?_
 intro b8 w8 e8 hb8 hz8 O8
 have E := E.trans (Mk.ofExt e8)
 replace S := S.ext e8
 replace G4 := G4.ext e8
 replace O1 := O1.ext e8
 have G8 : Ow i64c 1 2 w8 b8 (b8 + 1) (some ⟨b8, 0, none⟩) 2 2 [r17_0, r19_0] := Own.ow (by simpa [i64c] using O8) rfl (by omega) (Nat.le_refl _) (by omega) (by intro x hx; rfl)
 refine obuild (cs := []) (sz := 1) Tryz.underlying24 inf2 rfl rfl (by decide) rfl rfl (by simp [Value.cells]) rfl rfl rfl ?_
 intro b9 w9 e9 hb9 hz9 O9
 have E := E.trans (Mk.ofExt e9)
 replace S := S.ext e9
 replace G4 := G4.ext e9
 replace G8 := G8.ext e9
 replace O1 := O1.ext e9
 have G9 : Ow i64c 1 2 w9 b9 (b9 + 1) (some ⟨b9, 0, none⟩) 0 0 ([] : List Int) := Own.ow (by simpa [i64c] using O9) rfl (by omega) (Nat.le_refl _) (by omega) (by intro x hx; rfl)
 refine vm_ rfl rfl rfl ?_
 refine oc (xcall Tryz.call60 rfl) rfl rfl rfl (l01Next_ok b cb (4) _ S) ?_
 rintro _ w10 ⟨r23_0, rfl, h23_0, h23_1, m10, S10⟩
 have z10 := m10.size
 have E := E.trans m10
 replace G4 := G4.off m10 (by omega)
 replace G8 := G8.off m10 (by omega)
 replace G9 := G9.off m10 (by omega)
 replace O1 := m10.own O1 (by omega)
 replace S := S10
 refine oz_ (xadd rfl rfl (by unfold I64; omega)) rfl rfl ?_
 refine vm_ rfl rfl rfl ?_
 refine oc (xcall Tryz.call60 rfl) rfl rfl rfl (l01Next_ok b cb (2) _ S) ?_
 rintro _ w11 ⟨r26_0, rfl, h26_0, h26_1, m11, S11⟩
 have z11 := m11.size
 have E := E.trans m11
 replace G4 := G4.off m11 (by omega)
 replace G8 := G8.off m11 (by omega)
 replace G9 := G9.off m11 (by omega)
 replace O1 := m11.own O1 (by omega)
 replace S := S11
 refine oz_ (xbuild (vs := [.int .i64 (1 + r8_0), .int .i64 r11_0, .slice (some ⟨b4, 0, none⟩) 0 0, .int .i64 (2 + r14_0), .slice (some ⟨b8, 0, none⟩) 2 2, .slice (some ⟨b9, 0, none⟩) 0 0, .int .i64 (1 + r23_0), .int .i64 r26_0]) (cells := #[.int .i64 0, .int .i64 (1 + r8_0), .int .i64 r11_0, .slice (some ⟨b4, 0, none⟩) 0 0, .int .i64 (2 + r14_0), .slice (some ⟨b8, 0, none⟩) 2 2, .slice (some ⟨b9, 0, none⟩) 0 0, .int .i64 (1 + r23_0), .int .i64 r26_0]) rfl (by kernel_rfl)) rfl rfl ?_
 refine oalloc Tryz.zeroValue26 rfl rfl ?_
 intro b12 w12 e12 hb12 hz12 O12
 have E := E.trans (Mk.ofExt e12)
 replace S := S.ext e12
 replace G4 := G4.ext e12
 replace G8 := G8.ext e12
 replace G9 := G9.ext e12
 replace O1 := O1.ext e12
 replace O12 : Own w12 b12 [.int .i64 0, .int .i64 0, .int .i64 0, .slice none 0 0, .int .i64 0, .slice none 0 0, .slice none 0 0, .int .i64 0, .int .i64 0] 26 := O12
 refine ostoreN (vs := _) Tryz.sizeOf26 rfl rfl O12 rfl (by simp) (by simp [Value.oneCell']) rfl ?_
 intro w13 on13 O13
 have hz13 := on13.size
 have E : Mk b (b + 1) w w13 := by first | exact E.trans (Mk.ofOnly on13 (by omega) (by omega)) | exact E.young (Mk.ofOnly on13 (Nat.le_refl _) (Nat.lt_succ_self _)) (by omega)
 replace S := S.off (Mk.ofOnly on13 (Nat.le_refl _) (Nat.lt_succ_self _)) (by omega)
 replace G4 := G4.onlyT O12 (by decide) on13
 replace G8 := G8.onlyT O12 (by decide) on13
 replace G9 := G9.onlyT O12 (by decide) on13
 replace O1 := on13.own O1 (by omega)
 replace O13 : Own w13 b12 [.int .i64 0, .int .i64 (1 + r8_0), .int .i64 r11_0, .slice (some ⟨b4, 0, none⟩) 0 0, .int .i64 (2 + r14_0), .slice (some ⟨b8, 0, none⟩) 2 2, .slice (some ⟨b9, 0, none⟩) 0 0, .int .i64 (1 + r23_0), .int .i64 r26_0] 26 := O13
 refine ops_nil ?_
 refine sr_ ?_
 refine oz_ (xfieldAddr fo26f1 rfl) rfl rfl ?_
 refine oz_ (v := .int .i64 (1 + r8_0)) (xload1 Tryz.isAgg2 rfl (O13.cells) rfl) rfl rfl ?_
 refine oz_ (xfieldAddr fo26f2 rfl) rfl rfl ?_
 refine oz_ (v := .int .i64 r11_0) (xload1 Tryz.isAgg2 rfl (O13.cells) rfl) rfl rfl ?_
 refine oc (xcall Tryz.call113 rfl) rfl rfl rfl (l03Commit_ok ((1 + r8_0)) (r11_0) _ (by omega) (by omega) (by omega) (by omega)) ?_
 rintro _ w_ ⟨rfl, hw_⟩
 replace hw_ := hw_.symm
 subst hw_
 refine oz_ (xfieldAddr fo26f0 rfl) rfl rfl ?_
 refine ostore1 Tryz.sizeOf2 rfl rfl O13 (by simp) rfl rfl ?_
 intro w14 on14 O14
 have hz14 := on14.size
 have E : Mk b (b + 1) w w14 := by first | exact E.trans (Mk.ofOnly on14 (by omega) (by omega)) | exact E.young (Mk.ofOnly on14 (Nat.le_refl _) (Nat.lt_succ_self _)) (by omega)
 replace S := S.off (Mk.ofOnly on14 (Nat.le_refl _) (Nat.lt_succ_self _)) (by omega)
 replace G4 := G4.onlyT O13 (by decide) on14
 replace G8 := G8.onlyT O13 (by decide) on14
 replace G9 := G9.onlyT O13 (by decide) on14
 replace O1 := on14.own O1 (by omega)
 replace O14 : Own w14 b12 [.int .i64 (commit (1 + r8_0) r11_0), .int .i64 (1 + r8_0), .int .i64 r11_0, .slice (some ⟨b4, 0, none⟩) 0 0, .int .i64 (2 + r14_0), .slice (some ⟨b8, 0, none⟩) 2 2, .slice (some ⟨b9, 0, none⟩) 0 0, .int .i64 (1 + r23_0), .int .i64 r26_0] 26 := O14
 refine ops_nil ?_
 refine run_seq ?_
 refine sr_ ?_
 refine vm_ rfl rfl rfl ?_
 refine oc (xcall Tryz.call60 rfl) rfl rfl rfl (l01Next_ok b cb (8) _ S) ?_
 rintro _ w15 ⟨r35_0, rfl, h35_0, h35_1, m15, S15⟩
 have z15 := m15.size
 have E := E.trans m15
 replace G4 := G4.off m15 (by omega)
 replace G8 := G8.off m15 (by omega)
 replace G9 := G9.off m15 (by omega)
 replace O1 := m15.own O1 (by omega)
 replace O14 := m15.own O14 (by omega)
 replace S := S15
 refine oz_ (xeql rfl rfl _ rfl) rfl rfl ?_
 refine ods (fun c36 => ?_) (fun c36 => ?_)
 rotate_left
 ·
  refine cf_ rfl ?_
  refine sr_ ?_
  refine vm_ rfl rfl rfl ?_
  refine oc (xcall Tryz.call60 rfl) rfl rfl rfl (l01Next_ok b cb (2) _ S) ?_
  rintro _ w16 ⟨r41_0, rfl, h41_0, h41_1, m16, S16⟩
  have z16 := m16.size
  have E := E.trans m16
  replace G4 := G4.off m16 (by omega)
  replace G8 := G8.off m16 (by omega)
  replace G9 := G9.off m16 (by omega)
  replace O1 := m16.own O1 (by omega)
  replace O14 := m16.own O14 (by omega)
  replace S := S16
  refine oz_ (xadd rfl rfl (by unfold I64; omega)) rfl rfl ?_
  refine vn_ rfl rfl rfl ?_
  refine run_seq ?_
  refine sr_ ?_
  refine vm_ rfl rfl rfl ?_
  refine oc (xcall Tryz.call60 rfl) rfl rfl rfl (l01Next_ok b cb (14) _ S) ?_
  rintro _ w17 ⟨r44_0, rfl, h44_0, h44_1, m17, S17⟩
  have z17 := m17.size
  have E := E.trans m17
  replace G4 := G4.off m17 (by omega)
  replace G8 := G8.off m17 (by omega)
  replace G9 := G9.off m17 (by omega)
  replace O1 := m17.own O1 (by omega)
  replace O14 := m17.own O14 (by omega)
  replace S := S17
  refine vn_ rfl rfl rfl ?_
  refine run_block ?_
  refine run_loop (ι := Nat × Int × Int × Int × Option Addr × Nat × Nat × List Int × World) (fun x_ => match x_ with | (j, nn, xx, cc, qn, mn, dn, zn, wr) => (Mk b (b + 1) w wr) ∧ (Own wr b1 ([.int .i64 0, .int .i64 0, .int .i64 0, .slice none 0 0, .int .i64 0, .slice none 0 0, .slice none 0 0, .int .i64 0, .int .i64 0]) 26) ∧ (Own wr b12 ([.int .i64 cc, .int .i64 (1 + r8_0), .int .i64 r11_0, .slice qn mn dn, .int .i64 (2 + r14_0), .slice (some ⟨b8, 0, none⟩) 2 2, .slice (some ⟨b9, 0, none⟩) 0 0, .int .i64 (1 + r23_0), .int .i64 r26_0]) 26) ∧ (Src wr b cb) ∧ (Ow i64c 1 2 wr (pb qn) (hend qn) qn mn dn zn) ∧ (Ow i64c 1 2 wr b8 (b8 + 1) (some ⟨b8, 0, none⟩) 2 2 [r17_0, r19_0]) ∧ (Ow i64c 1 2 wr b9 (b9 + 1) (some ⟨b9, 0, none⟩) 0 0 []) ∧ (w17.heap.size ≤ wr.heap.size) ∧ ((j : Int) + nn ≤ 14) ∧ (0 ≤ nn) ∧ (1 ≤ xx ∧ xx ≤ 3 + 2 * j) ∧ (mn ≤ j) ∧ (pb qn < b8 ∨ b12 < pb qn) ∧ (w1.heap.size ≤ pb qn) ∧ (pb qn < wr.heap.size)) (fun x_ => match x_ with | (j, nn, xx, cc, qn, mn, dn, zn, wr) => [(0, .pointer (some ⟨b, 0, none⟩)), (2, .pointer (some ⟨b1, 0, none⟩)), (3, .pointer (some ⟨b12, 0, none⟩)), (4, .int .i64 xx), (5, .int .i64 nn)]) (fun x_ => match x_ with | (j, nn, xx, cc, qn, mn, dn, zn, wr) => wr) (fun x_ => match x_ with | (j, nn, xx, cc, qn, mn, dn, zn, wr) => nn.toNat) ?_ (0, r44_0, (1 + r41_0), ((commit (1 + r8_0) r11_0)), (some ⟨b4, 0, none⟩), 0, 0, [], w17) (⟨E, O1, O14, S, G4.narrow, G8, G9, Nat.le_refl _, by omega, by omega, by omega, Nat.le_refl _, by simp only [pb, Option.getD_some]; omega, by simp only [pb, Option.getD_some]; omega, by simp only [pb, Option.getD_some]; omega⟩) ⟨rfl, rfl, rfl, rfl, rfl, trivial⟩ rfl
  intro i_ hI_ hback7
  obtain ⟨j, nn, xx, cc, qn, mn, dn, zn, wr⟩ := i_
  obtain ⟨E, O_b1, O_b12, S, GN, G8, G9, lz_wr, hj, hn0, hx, hmj, hsep, hlo, hhw⟩ := hI_
  try dsimp only
  have zr := E.size
  have lt_b1 := O_b1.lt
  have lt_b12 := O_b12.lt
  have hhn := hend_le qn
  refine run_seq ?_
  refine sr_ ?_
  refine vm_ rfl rfl rfl ?_
  refine oz_ (xgtr rfl rfl _ rfl) rfl rfl ?_
  refine ods (fun c46 => ?_) (fun c46 => ?_)
  ·
   refine ct_ rfl ?_
   refine run_skip ?_
   refine run_seq ?_
   refine run_block ?_
   refine sr_ ?_
   refine oz_ (xfieldAddr fo26f3 rfl) rfl rfl ?_
   refine oz_ (v := .slice qn mn dn) (xload1 Tryz.isAgg24 rfl (O_b12.cells) rfl) rfl rfl ?_
   refine vm_ rfl rfl rfl ?_
   refine obuild (cs := [.int .i64 xx]) (sz := 1) Tryz.underlying24 inf2 rfl rfl (by decide) rfl rfl (by simp [Value.cells]) rfl rfl rfl ?_
   intro b18 w18 e18 hb18 hz18 O18
   have E := E.trans (Mk.ofExt e18)
   replace S := S.ext e18
   replace GN := GN.ext e18
   replace G8 := G8.ext e18
   replace G9 := G9.ext e18
   replace O_b1 := O_b1.ext e18
   replace O_b12 := O_b12.ext e18
   refine oapp2 (bytes := 8) (nm := (mn + 1)) GN rfl rfl elem2 (Own.sl1 (y := xx) O18) (by intro h; cases h) (by intro y hy; rfl) (by intro y hy u hu; rw [List.mem_singleton] at hy; subst hy; revert u; simp [Value.oneCell', i64c]) (by omega) (by omega) (by omega) (by omega) rfl rfl ?_
   intro p19 c19_ w19 m19 k19 hat53 G19
   have hh19 := hend_le qn
   have hz19 := m19.size
   have E := E.young m19 (by omega)
   replace S := (by first | exact S.off m19 (by omega) | exact S.off k19 (by omega))
   replace G8 := (by first | exact G8.off m19 (by omega) | exact G8.off k19 (by omega))
   replace G9 := (by first | exact G9.off m19 (by omega) | exact G9.off k19 (by omega))
   try replace O_b1 := m19.own O_b1 (by omega)
   try replace O_b12 := m19.own O_b12 (by omega)
   refine oz_ (xfieldAddr fo26f3 rfl) rfl rfl ?_
   refine ostore1 Tryz.sizeOf24 rfl rfl O_b12 (by simp) rfl rfl ?_
   intro w20 on20 O20
   have hz20 := on20.size
   have E : Mk b (b + 1) w w20 := by first | exact E.trans (Mk.ofOnly on20 (by omega) (by omega)) | exact E.young (Mk.ofOnly on20 (Nat.le_refl _) (Nat.lt_succ_self _)) (by omega)
   replace S := S.off (Mk.ofOnly on20 (Nat.le_refl _) (Nat.lt_succ_self _)) (by omega)
   replace G8 := G8.onlyT O_b12 (by decide) on20
   replace G9 := G9.onlyT O_b12 (by decide) on20
   replace G19 := G19.onlyT O_b12 (by decide) on20
   replace O_b1 := on20.own O_b1 (by omega)
   replace O20 : Own w20 b12 [.int .i64 cc, .int .i64 (1 + r8_0), .int .i64 r11_0, .slice p19 (mn + 1) c19_, .int .i64 (2 + r14_0), .slice (some ⟨b8, 0, none⟩) 2 2, .slice (some ⟨b9, 0, none⟩) 0 0, .int .i64 (1 + r23_0), .int .i64 r26_0] 26 := O20
   refine ops_nil ?_
   refine run_region ?_
   refine vm_ rfl rfl rfl ?_
   refine oz_ (xadd rfl rfl (by unfold I64; omega)) rfl rfl ?_
   refine vm_ rfl rfl rfl ?_
   refine oc (xcall Tryz.call60 rfl) rfl rfl rfl (l01Next_ok b cb (2) _ S) ?_
   rintro _ w21 ⟨r58_0, rfl, h58_0, h58_1, m21, S21⟩
   have z21 := m21.size
   have E := E.trans m21
   replace G8 := G8.off m21 (by omega)
   replace G9 := G9.off m21 (by omega)
   replace G19 := G19.off m21 (by omega)
   replace O_b1 := m21.own O_b1 (by omega)
   replace O20 := m21.own O20 (by omega)
   replace S := S21
   refine oz_ (xadd rfl rfl (by unfold I64; omega)) rfl rfl ?_
   refine vn_ rfl rfl rfl ?_
   refine run_inBlock ?_
   refine run_region ?_
   refine vm_ rfl rfl rfl ?_
   refine oz_ (xsub rfl rfl (by unfold I64; omega)) rfl rfl ?_
   refine vn_ rfl rfl rfl ?_
   refine run_sub ?_ (hback7 (j + 1, nn - 1, (((xx + 1) + r58_0)), cc, p19, (mn + 1), c19_, _, w21) (⟨E, O_b1, O20, S, G19.narrow, G8, G9, by omega, by omega, by omega, by omega, by omega, hat53.elim (fun h => by rw [h]; exact hsep) (fun h => by omega), hat53.elim (fun h => by rw [h]; exact hlo) (fun h => by omega), by have := G19.pb_lt (by omega); omega⟩) (by first | omega | (dsimp only; omega)))
   exact ⟨rfl, rfl, rfl, rfl, rfl, trivial⟩
  refine cg_ rfl ?_
  refine run_exit rfl ?_
  refine run_seq ?_
  refine sr_ ?_
  refine vm_ rfl rfl rfl ?_
  refine oc (xcall Tryz.call60 rfl) rfl rfl rfl (l01Next_ok b cb (6) _ S) ?_
  rintro _ w18 ⟨r61_0, rfl, h61_0, h61_1, m18, S18⟩
  have z18 := m18.size
  have E := E.trans m18
  replace GN := GN.off m18 (by omega)
  replace G8 := G8.off m18 (by omega)
  replace G9 := G9.off m18 (by omega)
  replace O_b1 := m18.own O_b1 (by omega)
  replace O_b12 := m18.own O_b12 (by omega)
  replace S := S18
  refine vn_ rfl rfl rfl ?_
  refine run_block ?_
  refine run_loop (ι := Nat × Int × Option Addr × Nat × Nat × List Int × World) (fun x_ => match x_ with | (j2, nn2, qm, mm, dm, zm, wr2) => (Mk b (b + 1) w wr2) ∧ (Own wr2 b1 ([.int .i64 0, .int .i64 0, .int .i64 0, .slice none 0 0, .int .i64 0, .slice none 0 0, .slice none 0 0, .int .i64 0, .int .i64 0]) 26) ∧ (Own wr2 b12 ([.int .i64 cc, .int .i64 (1 + r8_0), .int .i64 r11_0, .slice qn mn dn, .int .i64 (2 + r14_0), .slice (some ⟨b8, 0, none⟩) 2 2, .slice qm mm dm, .int .i64 (1 + r23_0), .int .i64 r26_0]) 26) ∧ (Src wr2 b cb) ∧ (Ow i64c 1 2 wr2 (pb qn) (hend qn) qn mn dn zn) ∧ (Ow i64c 1 2 wr2 b8 (b8 + 1) (some ⟨b8, 0, none⟩) 2 2 [r17_0, r19_0]) ∧ (Ow i64c 1 2 wr2 (pb qm) (hend qm) qm mm dm zm) ∧ (w18.heap.size ≤ wr2.heap.size) ∧ ((j2 : Int) + nn2 ≤ 6) ∧ (0 ≤ nn2) ∧ (mm ≤ j2) ∧ (pb qm ≠ pb qn ∧ (pb qm = b9 ∨ b12 < pb qm)) ∧ (pb qm < wr2.heap.size)) (fun x_ => match x_ with | (j2, nn2, qm, mm, dm, zm, wr2) => [(0, .pointer (some ⟨b, 0, none⟩)), (2, .pointer (some ⟨b1, 0, none⟩)), (3, .pointer (some ⟨b12, 0, none⟩)), (6, .int .i64 nn2)]) (fun x_ => match x_ with | (j2, nn2, qm, mm, dm, zm, wr2) => wr2) (fun x_ => match x_ with | (j2, nn2, qm, mm, dm, zm, wr2) => nn2.toNat) ?_ (0, r61_0, (some ⟨b9, 0, none⟩), 0, 0, [], w18) (⟨E, O_b1, O_b12, S, GN, G8, G9.narrow, Nat.le_refl _, by omega, by omega, Nat.le_refl _, (by show b9 ≠ pb qn ∧ (b9 = b9 ∨ b12 < b9); omega), by simp only [pb, Option.getD_some]; omega⟩) ⟨rfl, rfl, rfl, rfl, trivial⟩ rfl
  intro i_ hI_ hback12
  obtain ⟨j2, nn2, qm, mm, dm, zm, wr2⟩ := i_
  obtain ⟨E, O_b1, O_b12, S, GN, G8, GM, lz_wr2, hj2, hn02, hmj2, hsep2, hhw2⟩ := hI_
  try dsimp only
  have zr := E.size
  have lt_b1 := O_b1.lt
  have lt_b12 := O_b12.lt
  have hhn := hend_le qn
  have hhm := hend_le qm
  have hpn := GN.pb_lt (by omega)
  refine run_seq ?_
  refine sr_ ?_
  refine vm_ rfl rfl rfl ?_
  refine oz_ (xgtr rfl rfl _ rfl) rfl rfl ?_
  refine ods (fun c63 => ?_) (fun c63 => ?_)
  rotate_left
  ·
   refine cg_ rfl ?_
   refine run_exit rfl ?_
   refine sr_ ?_
   refine oz_ (v := .agg #[.int .i64 cc, .int .i64 (1 + r8_0), .int .i64 r11_0, .slice qn mn dn, .int .i64 (2 + r14_0), .slice (some ⟨b8, 0, none⟩) 2 2, .slice qm mm dm, .int .i64 (1 + r23_0), .int .i64 r26_0]) (xloadN Tryz.isAgg26 Tryz.sizeOf26 rfl (O_b12.cells) rfl) rfl rfl ?_
   refine ostoreN (vs := _) Tryz.sizeOf26 rfl rfl O_b1 rfl (by simp) (by simp [Value.oneCell']) rfl ?_
   intro w19 on19 O19
   have hz19 := on19.size
   have E : Mk b (b + 1) w w19 := by first | exact E.trans (Mk.ofOnly on19 (by omega) (by omega)) | exact E.young (Mk.ofOnly on19 (Nat.le_refl _) (Nat.lt_succ_self _)) (by omega)
   replace S := S.off (Mk.ofOnly on19 (Nat.le_refl _) (Nat.lt_succ_self _)) (by omega)
   replace GN := GN.onlyT O_b1 (by decide) on19
   replace G8 := G8.onlyT O_b1 (by decide) on19
   replace GM := GM.onlyT O_b1 (by decide) on19
   replace O19 : Own w19 b1 [.int .i64 cc, .int .i64 (1 + r8_0), .int .i64 r11_0, .slice qn mn dn, .int .i64 (2 + r14_0), .slice (some ⟨b8, 0, none⟩) 2 2, .slice qm mm dm, .int .i64 (1 + r23_0), .int .i64 r26_0] 26 := O19
   refine ops_nil ?_
   refine run_ret Tryz.func87 (resc1 rfl rfl (run_loadVar_cells Tryz.isAgg26 Tryz.sizeOf26 O19.cells rfl)) ?_
   exact ⟨_, rfl, ⟨(cc), ((1 + r8_0)), (r11_0), zn, ((2 + r14_0)), _, zm, ((1 + r23_0)), (r26_0)⟩, _, _, _, _, _, _, _, _, _, rfl, (GN.slF (by omega) (by omega)), (G8.slF (by omega) (by omega)), (GM.slF (by omega) (by omega)), E, S⟩
  refine ct_ rfl ?_
  refine run_skip ?_
  refine run_seq ?_
  refine run_block ?_
  refine run_rg (τ := [(0, .pointer (some ⟨b, 0, none⟩)), (2, .pointer (some ⟨b1, 0, none⟩)), (3, .pointer (some ⟨b12, 0, none⟩)), (6, .int .i64 nn2)]) 10 [66, 67, 68, 69, 70, 71, 72, 73, 74, 75] (fun u_ => Mk b (b + 1) wr2 u_ ∧ Src u_ b cb) (fun i_ => Mk b (b + 1)) (fun i_ v_ u_ => match i_ with | 0 => v_ = .pointer (some ⟨b12, 0 + 6, none⟩) | 1 => v_ = .slice qm mm dm | 2 => v_ = .pointer (some ⟨b, 0, none⟩) | 3 => v_ = .pointer (some ⟨b, 0, none⟩) | 4 => ∃ (y0_ : Int), v_ = .int .i64 y0_ ∧ (0 ≤ y0_) ∧ ((y0_ < 4 ∨ y0_ = 0)) | 5 => v_ = .pointer (some ⟨b, 0, none⟩) | 6 => ∃ (y0_ : Int), v_ = .int .i64 y0_ ∧ (0 ≤ y0_) ∧ ((y0_ < 4 ∨ y0_ = 0)) | 7 => ∃ (y0_ : Nat) (y1_ : Int) (y2_ : Int), v_ = .slice (some ⟨y0_, 0, none⟩) 3 3 ∧ (wr2.heap.size ≤ y0_) ∧ (Sl i64c 1 u_ (some ⟨y0_, 0, none⟩) 3 3 [y1_, y2_, (-1)]) ∧ (0 ≤ y1_) ∧ ((y1_ < 4 ∨ y1_ = 0)) ∧ (0 ≤ y2_) ∧ ((y2_ < 4 ∨ y2_ = 0)) | 8 => ∃ (y0_ : Int), v_ = .int .i64 y0_ ∧ (-100 ≤ y0_ ∧ y0_ ≤ 100) | 9 => ∃ (y0_ : Nat) (y1_ : Int), v_ = .slice (some ⟨y0_, 0, none⟩) 1 1 ∧ (wr2.heap.size ≤ y0_) ∧ (Sl i64c 1 u_ (some ⟨y0_, 0, none⟩) 1 1 [y1_]) ∧ (-100 ≤ y1_ ∧ y1_ ≤ 100) | _ => True) [(1, some 67), (9, some 75)] (by kernel_rfl) (by kernel_rfl) (by kernel_rfl) (by kernel_rfl) (by kernel_rfl) (by kernel_rfl) ⟨rfl, rfl, rfl, rfl, trivial⟩ rfl (fun u_ e_ z_ => ⟨Mk.ofExt e_, S.ext e_⟩) ?_ ?_ ?_
  ·
   intro i_ j_ hi_ hj_ hij_ v_ u_ u2_ I_ I2_ r_ g_
   have zu_ := I_.1.size
   clear hi_
   rcases (by omega : j_ = 0 ∨ j_ = 1 ∨ j_ = 2 ∨ j_ = 3 ∨ j_ = 4 ∨ j_ = 5 ∨ j_ = 6 ∨ j_ = 7 ∨ j_ = 8 ∨ j_ = 9) with rfl | rfl | rfl | rfl | rfl | rfl | rfl | rfl | rfl | rfl
   ·
    exact g_
   ·
    exact g_
   ·
    exact g_
   ·
    exact g_
   ·
    exact g_
   ·
    exact g_
   ·
    exact g_
   ·
    obtain ⟨g73_0, g73_1, g73_2, rfl, f73_0, f73_1, f73_2, f73_3, f73_4, f73_5⟩ := g_
    exact ⟨g73_0, g73_1, g73_2, rfl, f73_0, f73_1.off r_ (by simp only [pb, Option.getD_some]; omega), f73_2, f73_3, f73_4, f73_5⟩
   ·
    exact g_
   obtain ⟨g75_0, g75_1, rfl, f75_0, f75_1, f75_2⟩ := g_
   exact ⟨g75_0, g75_1, rfl, f75_0, f75_1.off r_ (by simp only [pb, Option.getD_some]; omega), f75_2⟩
  ·
   refine rga [] (by kernel_rfl) ?_ ?_
   ·
    intro u_ I_
    have zu_ := I_.1.size
    refine rg_val (xfieldAddr fo26f6 rfl) rfl I_ (Mk.refl _ _ _) rfl
   refine rga [(0, some 66)] (by kernel_rfl) ?_ ?_
   ·
    rintro u_ I_ _ rfl
    have zu_ := I_.1.size
    have OB_ := I_.1.own O_b12 (by omega)
    refine rg_val (xload1 Tryz.isAgg24 rfl (OB_.cells) rfl) rfl I_ (Mk.refl _ _ _) rfl
   refine rga [] (by kernel_rfl) ?_ ?_
   ·
    intro u_ I_
    have zu_ := I_.1.size
    refine rg_val (xmove rfl) rfl I_ (Mk.refl _ _ _) rfl
   refine rga [] (by kernel_rfl) ?_ ?_
   ·
    intro u_ I_
    have zu_ := I_.1.size
    refine rg_val (xmove rfl) rfl I_ (Mk.refl _ _ _) rfl
   refine rga [(3, some 69)] (by kernel_rfl) ?_ ?_
   ·
    rintro u_ I_ _ rfl
    have zu_ := I_.1.size
    refine rg_call (xcall Tryz.call60 rfl) rfl (l01Next_ok b cb (4) _ I_.2) ?_
    rintro _ w_ ⟨r_0, rfl, h_0, h_1, m_, S_⟩
    exact ⟨⟨I_.1.trans m_, S_⟩, m_, ⟨r_0, rfl, h_0, h_1⟩⟩
   refine rga [] (by kernel_rfl) ?_ ?_
   ·
    intro u_ I_
    have zu_ := I_.1.size
    refine rg_val (xmove rfl) rfl I_ (Mk.refl _ _ _) rfl
   refine rga [(5, some 71)] (by kernel_rfl) ?_ ?_
   ·
    rintro u_ I_ _ rfl
    have zu_ := I_.1.size
    refine rg_call (xcall Tryz.call60 rfl) rfl (l01Next_ok b cb (4) _ I_.2) ?_
    rintro _ w_ ⟨r_0, rfl, h_0, h_1, m_, S_⟩
    exact ⟨⟨I_.1.trans m_, S_⟩, m_, ⟨r_0, rfl, h_0, h_1⟩⟩
   refine rga [(4, some 70), (6, some 72)] (by kernel_rfl) ?_ ?_
   ·
    rintro u_ I_ _ ⟨g70_0, rfl, f70_0, f70_1⟩ _ ⟨g72_0, rfl, f72_0, f72_1⟩
    have zu_ := I_.1.size
    refine rg_build (len := 3) (vs := [.int .i64 g70_0, .int .i64 g72_0, .int .i64 (-1)]) (cs := [.int .i64 g70_0, .int .i64 g72_0, .int .i64 (-1)]) (sz := 1) Tryz.underlying24 inf2 rfl rfl (by decide) (by rfl) (by rfl) (by simp [Value.cells]) rfl rfl ?_
    intro b_ w_ e_ hb_ O_
    refine ⟨⟨I_.1.trans (Mk.ofExt e_), I_.2.ext e_⟩, Mk.ofExt e_, ⟨b_, g70_0, g72_0, rfl, (by omega), (Own.ow (lo := b_) (hi := b_ + 1) (enc := i64c) (sz := 1) (xs := [g70_0, g72_0, (-1)]) (n := 3) (by simpa [i64c] using O_) rfl (by omega) (Nat.le_refl _) (by omega) (by intro x hx; rfl)).sl, f70_0, f70_1, f72_0, f72_1⟩⟩
   refine rga [(2, some 68), (7, some 73)] (by kernel_rfl) ?_ ?_
   ·
    rintro u_ I_ _ rfl _ ⟨g73_0, g73_1, g73_2, rfl, f73_0, f73_1, f73_2, f73_3, f73_4, f73_5⟩
    have zu_ := I_.1.size
    refine rg_call (xcall Tryz.call61 rfl) rfl (l01Pick_ok b cb _ _ _ [g73_1, g73_2, (-1)] 100 _ I_.2 f73_1 (by intro x hx; simp only [List.mem_cons, List.not_mem_nil, or_false] at hx; omega) (by omega) (by simp only [pb, Option.getD_some]; omega)) ?_
    rintro _ w_ ⟨r_0, rfl, h_0, m_, S_⟩
    exact ⟨⟨I_.1.trans m_, S_⟩, m_, ⟨r_0, rfl, h_0⟩⟩
   refine rga [(8, some 74)] (by kernel_rfl) ?_ ?_
   ·
    rintro u_ I_ _ ⟨g74_0, rfl, f74_0⟩
    have zu_ := I_.1.size
    refine rg_build (len := 1) (vs := [.int .i64 g74_0]) (cs := [.int .i64 g74_0]) (sz := 1) Tryz.underlying24 inf2 rfl rfl (by decide) (by rfl) (by rfl) (by simp [Value.cells]) rfl rfl ?_
    intro b_ w_ e_ hb_ O_
    refine ⟨⟨I_.1.trans (Mk.ofExt e_), I_.2.ext e_⟩, Mk.ofExt e_, ⟨b_, g74_0, rfl, (by omega), (Own.sl1 (y := g74_0) (enc := i64c) O_), f74_0⟩⟩
   exact rga_nil
  rintro w19 I_ _ rfl _ ⟨g75_0, g75_1, rfl, f75_0, f75_1, f75_2⟩
  have m19 := I_.1
  have z19 := m19.size
  have E := E.trans m19
  replace S := I_.2
  replace GN := GN.off m19 (by omega)
  replace G8 := G8.off m19 (by omega)
  replace GM := GM.off m19 (by omega)
  replace O_b1 := m19.own O_b1 (by omega)
  replace O_b12 := m19.own O_b12 (by omega)
  refine oapp2 (bytes := 8) (nm := (mm + 1)) GM rfl rfl elem2 (f75_1) (f75_1).nil (by intro y hy; rfl) (by intro y hy u hu; rw [List.mem_singleton] at hy; subst hy; revert u; simp [Value.oneCell', i64c]) (by omega) (by omega) (by omega) (by omega) rfl rfl ?_
  intro p20 c20_ w20 m20 k20 hat76 G20
  have hh20 := hend_le qm
  have hz20 := m20.size
  have E := E.young m20 (by omega)
  replace S := (by first | exact S.off m20 (by omega) | exact S.off k20 (by omega))
  replace GN := (by first | exact GN.off m20 (by omega) | exact GN.off k20 (by omega))
  replace G8 := (by first | exact G8.off m20 (by omega) | exact G8.off k20 (by omega))
  try replace O_b1 := m20.own O_b1 (by omega)
  try replace O_b12 := m20.own O_b12 (by omega)
  refine oz_ (xfieldAddr fo26f6 rfl) rfl rfl ?_
  refine ostore1 Tryz.sizeOf24 rfl rfl O_b12 (by simp) rfl rfl ?_
  intro w21 on21 O21
  have hz21 := on21.size
  have E : Mk b (b + 1) w w21 := by first | exact E.trans (Mk.ofOnly on21 (by omega) (by omega)) | exact E.young (Mk.ofOnly on21 (Nat.le_refl _) (Nat.lt_succ_self _)) (by omega)
  replace S := S.off (Mk.ofOnly on21 (Nat.le_refl _) (Nat.lt_succ_self _)) (by omega)
  replace GN := GN.onlyT O_b12 (by decide) on21
  replace G8 := G8.onlyT O_b12 (by decide) on21
  replace G20 := G20.onlyT O_b12 (by decide) on21
  replace O_b1 := on21.own O_b1 (by omega)
  replace O21 : Own w21 b12 [.int .i64 cc, .int .i64 (1 + r8_0), .int .i64 r11_0, .slice qn mn dn, .int .i64 (2 + r14_0), .slice (some ⟨b8, 0, none⟩) 2 2, .slice p20 (mm + 1) c20_, .int .i64 (1 + r23_0), .int .i64 r26_0] 26 := O21
  refine ops_nil ?_
  refine run_inBlock ?_
  refine run_region ?_
  refine vm_ rfl rfl rfl ?_
  refine oz_ (xsub rfl rfl (by unfold I64; omega)) rfl rfl ?_
  refine vn_ rfl rfl rfl ?_
  refine run_sub ?_ (hback12 (j2 + 1, nn2 - 1, p20, (mm + 1), c20_, _, w21) (⟨E, O_b1, O21, S, GN, G8, G20.narrow, by omega, by omega, by omega, by omega, hat76.elim (fun h => by rw [h]; exact hsep2) (fun h => by omega), by have := G20.pb_lt (by omega); omega⟩) (by first | omega | (dsimp only; omega)))
  exact ⟨rfl, rfl, rfl, rfl, trivial⟩
 refine ct_ rfl ?_
 refine run_region ?_
 refine vm_ rfl rfl rfl ?_
 refine oc (xcall Tryz.call60 rfl) rfl rfl rfl (l01Next_ok b cb (2000000000) _ S) ?_
 rintro _ w16 ⟨r38_0, rfl, h38_0, h38_1, m16, S16⟩
 have z16 := m16.size
 have E := E.trans m16
 replace G4 := G4.off m16 (by omega)
 replace G8 := G8.off m16 (by omega)
 replace G9 := G9.off m16 (by omega)
 replace O1 := m16.own O1 (by omega)
 replace O14 := m16.own O14 (by omega)
 replace S := S16
 refine oz_ (xfieldAddr fo26f0 rfl) rfl rfl ?_
 refine ostore1 Tryz.sizeOf2 rfl rfl O14 (by simp) rfl rfl ?_
 intro w17 on17 O17
 have hz17 := on17.size
 have E : Mk b (b + 1) w w17 := by first | exact E.trans (Mk.ofOnly on17 (by omega) (by omega)) | exact E.young (Mk.ofOnly on17 (Nat.le_refl _) (Nat.lt_succ_self _)) (by omega)
 replace S := S.off (Mk.ofOnly on17 (Nat.le_refl _) (Nat.lt_succ_self _)) (by omega)
 replace G4 := G4.onlyT O14 (by decide) on17
 replace G8 := G8.onlyT O14 (by decide) on17
 replace G9 := G9.onlyT O14 (by decide) on17
 replace O1 := on17.own O1 (by omega)
 replace O17 : Own w17 b12 [.int .i64 r38_0, .int .i64 (1 + r8_0), .int .i64 r11_0, .slice (some ⟨b4, 0, none⟩) 0 0, .int .i64 (2 + r14_0), .slice (some ⟨b8, 0, none⟩) 2 2, .slice (some ⟨b9, 0, none⟩) 0 0, .int .i64 (1 + r23_0), .int .i64 r26_0] 26 := O17
 refine ops_nil ?_
 refine sr_ ?_
 refine vm_ rfl rfl rfl ?_
 refine oc (xcall Tryz.call60 rfl) rfl rfl rfl (l01Next_ok b cb (2) _ S) ?_
 rintro _ w18 ⟨r41_0, rfl, h41_0, h41_1, m18, S18⟩
 have z18 := m18.size
 have E := E.trans m18
 replace G4 := G4.off m18 (by omega)
 replace G8 := G8.off m18 (by omega)
 replace G9 := G9.off m18 (by omega)
 replace O1 := m18.own O1 (by omega)
 replace O17 := m18.own O17 (by omega)
 replace S := S18
 refine oz_ (xadd rfl rfl (by unfold I64; omega)) rfl rfl ?_
 refine vn_ rfl rfl rfl ?_
 refine run_seq ?_
 refine sr_ ?_
 refine vm_ rfl rfl rfl ?_
 refine oc (xcall Tryz.call60 rfl) rfl rfl rfl (l01Next_ok b cb (14) _ S) ?_
 rintro _ w19 ⟨r44_0, rfl, h44_0, h44_1, m19, S19⟩
 have z19 := m19.size
 have E := E.trans m19
 replace G4 := G4.off m19 (by omega)
 replace G8 := G8.off m19 (by omega)
 replace G9 := G9.off m19 (by omega)
 replace O1 := m19.own O1 (by omega)
 replace O17 := m19.own O17 (by omega)
 replace S := S19
 refine vn_ rfl rfl rfl ?_
 refine run_block ?_
 refine run_loop (ι := Nat × Int × Int × Int × Option Addr × Nat × Nat × List Int × World) (fun x_ => match x_ with | (j, nn, xx, cc, qn, mn, dn, zn, wr) => (Mk b (b + 1) w wr) ∧ (Own wr b1 ([.int .i64 0, .int .i64 0, .int .i64 0, .slice none 0 0, .int .i64 0, .slice none 0 0, .slice none 0 0, .int .i64 0, .int .i64 0]) 26) ∧ (Own wr b12 ([.int .i64 cc, .int .i64 (1 + r8_0), .int .i64 r11_0, .slice qn mn dn, .int .i64 (2 + r14_0), .slice (some ⟨b8, 0, none⟩) 2 2, .slice (some ⟨b9, 0, none⟩) 0 0, .int .i64 (1 + r23_0), .int .i64 r26_0]) 26) ∧ (Src wr b cb) ∧ (Ow i64c 1 2 wr (pb qn) (hend qn) qn mn dn zn) ∧ (Ow i64c 1 2 wr b8 (b8 + 1) (some ⟨b8, 0, none⟩) 2 2 [r17_0, r19_0]) ∧ (Ow i64c 1 2 wr b9 (b9 + 1) (some ⟨b9, 0, none⟩) 0 0 []) ∧ (w19.heap.size ≤ wr.heap.size) ∧ ((j : Int) + nn ≤ 14) ∧ (0 ≤ nn) ∧ (1 ≤ xx ∧ xx ≤ 3 + 2 * j) ∧ (mn ≤ j) ∧ (pb qn < b8 ∨ b12 < pb qn) ∧ (w1.heap.size ≤ pb qn) ∧ (pb qn < wr.heap.size)) (fun x_ => match x_ with | (j, nn, xx, cc, qn, mn, dn, zn, wr) => [(0, .pointer (some ⟨b, 0, none⟩)), (2, .pointer (some ⟨b1, 0, none⟩)), (3, .pointer (some ⟨b12, 0, none⟩)), (4, .int .i64 xx), (5, .int .i64 nn)]) (fun x_ => match x_ with | (j, nn, xx, cc, qn, mn, dn, zn, wr) => wr) (fun x_ => match x_ with | (j, nn, xx, cc, qn, mn, dn, zn, wr) => nn.toNat) ?_ (0, r44_0, (1 + r41_0), (r38_0), (some ⟨b4, 0, none⟩), 0, 0, [], w19) (⟨E, O1, O17, S, G4.narrow, G8, G9, Nat.le_refl _, by omega, by omega, by omega, Nat.le_refl _, by simp only [pb, Option.getD_some]; omega, by simp only [pb, Option.getD_some]; omega, by simp only [pb, Option.getD_some]; omega⟩) ⟨rfl, rfl, rfl, rfl, rfl, trivial⟩ rfl
 intro i_ hI_ hback7
 obtain ⟨j, nn, xx, cc, qn, mn, dn, zn, wr⟩ := i_
 obtain ⟨E, O_b1, O_b12, S, GN, G8, G9, lz_wr, hj, hn0, hx, hmj, hsep, hlo, hhw⟩ := hI_
 try dsimp only
 have zr := E.size
 have lt_b1 := O_b1.lt
 have lt_b12 := O_b12.lt
 have hhn := hend_le qn
 refine run_seq ?_
 refine sr_ ?_
 refine vm_ rfl rfl rfl ?_
 refine oz_ (xgtr rfl rfl _ rfl) rfl rfl ?_
 refine ods (fun c46 => ?_) (fun c46 => ?_)
 ·
  refine ct_ rfl ?_
  refine run_skip ?_
  refine run_seq ?_
  refine run_block ?_
  refine sr_ ?_
  refine oz_ (xfieldAddr fo26f3 rfl) rfl rfl ?_
  refine oz_ (v := .slice qn mn dn) (xload1 Tryz.isAgg24 rfl (O_b12.cells) rfl) rfl rfl ?_
  refine vm_ rfl rfl rfl ?_
  refine obuild (cs := [.int .i64 xx]) (sz := 1) Tryz.underlying24 inf2 rfl rfl (by decide) rfl rfl (by simp [Value.cells]) rfl rfl rfl ?_
  intro b20 w20 e20 hb20 hz20 O20
  have E := E.trans (Mk.ofExt e20)
  replace S := S.ext e20
  replace GN := GN.ext e20
  replace G8 := G8.ext e20
  replace G9 := G9.ext e20
  replace O_b1 := O_b1.ext e20
  replace O_b12 := O_b12.ext e20
  refine oapp2 (bytes := 8) (nm := (mn + 1)) GN rfl rfl elem2 (Own.sl1 (y := xx) O20) (by intro h; cases h) (by intro y hy; rfl) (by intro y hy u hu; rw [List.mem_singleton] at hy; subst hy; revert u; simp [Value.oneCell', i64c]) (by omega) (by omega) (by omega) (by omega) rfl rfl ?_
  intro p21 c21_ w21 m21 k21 hat53 G21
  have hh21 := hend_le qn
  have hz21 := m21.size
  have E := E.young m21 (by omega)
  replace S := (by first | exact S.off m21 (by omega) | exact S.off k21 (by omega))
  replace G8 := (by first | exact G8.off m21 (by omega) | exact G8.off k21 (by omega))
  replace G9 := (by first | exact G9.off m21 (by omega) | exact G9.off k21 (by omega))
  try replace O_b1 := m21.own O_b1 (by omega)
  try replace O_b12 := m21.own O_b12 (by omega)
  refine oz_ (xfieldAddr fo26f3 rfl) rfl rfl ?_
  refine ostore1 Tryz.sizeOf24 rfl rfl O_b12 (by simp) rfl rfl ?_
  intro w22 on22 O22
  have hz22 := on22.size
  have E : Mk b (b + 1) w w22 := by first | exact E.trans (Mk.ofOnly on22 (by omega) (by omega)) | exact E.young (Mk.ofOnly on22 (Nat.le_refl _) (Nat.lt_succ_self _)) (by omega)
  replace S := S.off (Mk.ofOnly on22 (Nat.le_refl _) (Nat.lt_succ_self _)) (by omega)
  replace G8 := G8.onlyT O_b12 (by decide) on22
  replace G9 := G9.onlyT O_b12 (by decide) on22
  replace G21 := G21.onlyT O_b12 (by decide) on22
  replace O_b1 := on22.own O_b1 (by omega)
  replace O22 : Own w22 b12 [.int .i64 cc, .int .i64 (1 + r8_0), .int .i64 r11_0, .slice p21 (mn + 1) c21_, .int .i64 (2 + r14_0), .slice (some ⟨b8, 0, none⟩) 2 2, .slice (some ⟨b9, 0, none⟩) 0 0, .int .i64 (1 + r23_0), .int .i64 r26_0] 26 := O22
  refine ops_nil ?_
  refine run_region ?_
  refine vm_ rfl rfl rfl ?_
  refine oz_ (xadd rfl rfl (by unfold I64; omega)) rfl rfl ?_
  refine vm_ rfl rfl rfl ?_
  refine oc (xcall Tryz.call60 rfl) rfl rfl rfl (l01Next_ok b cb (2) _ S) ?_
  rintro _ w23 ⟨r58_0, rfl, h58_0, h58_1, m23, S23⟩
  have z23 := m23.size
  have E := E.trans m23
  replace G8 := G8.off m23 (by omega)
  replace G9 := G9.off m23 (by omega)
  replace G21 := G21.off m23 (by omega)
  replace O_b1 := m23.own O_b1 (by omega)
  replace O22 := m23.own O22 (by omega)
  replace S := S23
  refine oz_ (xadd rfl rfl (by unfold I64; omega)) rfl rfl ?_
  refine vn_ rfl rfl rfl ?_
  refine run_inBlock ?_
  refine run_region ?_
  refine vm_ rfl rfl rfl ?_
  refine oz_ (xsub rfl rfl (by unfold I64; omega)) rfl rfl ?_
  refine vn_ rfl rfl rfl ?_
  refine run_sub ?_ (hback7 (j + 1, nn - 1, (((xx + 1) + r58_0)), cc, p21, (mn + 1), c21_, _, w23) (⟨E, O_b1, O22, S, G21.narrow, G8, G9, by omega, by omega, by omega, by omega, by omega, hat53.elim (fun h => by rw [h]; exact hsep) (fun h => by omega), hat53.elim (fun h => by rw [h]; exact hlo) (fun h => by omega), by have := G21.pb_lt (by omega); omega⟩) (by first | omega | (dsimp only; omega)))
  exact ⟨rfl, rfl, rfl, rfl, rfl, trivial⟩
 refine cg_ rfl ?_
 refine run_exit rfl ?_
 refine run_seq ?_
 refine sr_ ?_
 refine vm_ rfl rfl rfl ?_
 refine oc (xcall Tryz.call60 rfl) rfl rfl rfl (l01Next_ok b cb (6) _ S) ?_
 rintro _ w20 ⟨r61_0, rfl, h61_0, h61_1, m20, S20⟩
 have z20 := m20.size
 have E := E.trans m20
 replace GN := GN.off m20 (by omega)
 replace G8 := G8.off m20 (by omega)
 replace G9 := G9.off m20 (by omega)
 replace O_b1 := m20.own O_b1 (by omega)
 replace O_b12 := m20.own O_b12 (by omega)
 replace S := S20
 refine vn_ rfl rfl rfl ?_
 refine run_block ?_
 refine run_loop (ι := Nat × Int × Option Addr × Nat × Nat × List Int × World) (fun x_ => match x_ with | (j2, nn2, qm, mm, dm, zm, wr2) => (Mk b (b + 1) w wr2) ∧ (Own wr2 b1 ([.int .i64 0, .int .i64 0, .int .i64 0, .slice none 0 0, .int .i64 0, .slice none 0 0, .slice none 0 0, .int .i64 0, .int .i64 0]) 26) ∧ (Own wr2 b12 ([.int .i64 cc, .int .i64 (1 + r8_0), .int .i64 r11_0, .slice qn mn dn, .int .i64 (2 + r14_0), .slice (some ⟨b8, 0, none⟩) 2 2, .slice qm mm dm, .int .i64 (1 + r23_0), .int .i64 r26_0]) 26) ∧ (Src wr2 b cb) ∧ (Ow i64c 1 2 wr2 (pb qn) (hend qn) qn mn dn zn) ∧ (Ow i64c 1 2 wr2 b8 (b8 + 1) (some ⟨b8, 0, none⟩) 2 2 [r17_0, r19_0]) ∧ (Ow i64c 1 2 wr2 (pb qm) (hend qm) qm mm dm zm) ∧ (w20.heap.size ≤ wr2.heap.size) ∧ ((j2 : Int) + nn2 ≤ 6) ∧ (0 ≤ nn2) ∧ (mm ≤ j2) ∧ (pb qm ≠ pb qn ∧ (pb qm = b9 ∨ b12 < pb qm)) ∧ (pb qm < wr2.heap.size)) (fun x_ => match x_ with | (j2, nn2, qm, mm, dm, zm, wr2) => [(0, .pointer (some ⟨b, 0, none⟩)), (2, .pointer (some ⟨b1, 0, none⟩)), (3, .pointer (some ⟨b12, 0, none⟩)), (6, .int .i64 nn2)]) (fun x_ => match x_ with | (j2, nn2, qm, mm, dm, zm, wr2) => wr2) (fun x_ => match x_ with | (j2, nn2, qm, mm, dm, zm, wr2) => nn2.toNat) ?_ (0, r61_0, (some ⟨b9, 0, none⟩), 0, 0, [], w20) (⟨E, O_b1, O_b12, S, GN, G8, G9.narrow, Nat.le_refl _, by omega, by omega, Nat.le_refl _, (by show b9 ≠ pb qn ∧ (b9 = b9 ∨ b12 < b9); omega), by simp only [pb, Option.getD_some]; omega⟩) ⟨rfl, rfl, rfl, rfl, trivial⟩ rfl
 intro i_ hI_ hback12
 obtain ⟨j2, nn2, qm, mm, dm, zm, wr2⟩ := i_
 obtain ⟨E, O_b1, O_b12, S, GN, G8, GM, lz_wr2, hj2, hn02, hmj2, hsep2, hhw2⟩ := hI_
 try dsimp only
 have zr := E.size
 have lt_b1 := O_b1.lt
 have lt_b12 := O_b12.lt
 have hhn := hend_le qn
 have hhm := hend_le qm
 have hpn := GN.pb_lt (by omega)
 refine run_seq ?_
 refine sr_ ?_
 refine vm_ rfl rfl rfl ?_
 refine oz_ (xgtr rfl rfl _ rfl) rfl rfl ?_
 refine ods (fun c63 => ?_) (fun c63 => ?_)
 rotate_left
 ·
  refine cg_ rfl ?_
  refine run_exit rfl ?_
  refine sr_ ?_
  refine oz_ (v := .agg #[.int .i64 cc, .int .i64 (1 + r8_0), .int .i64 r11_0, .slice qn mn dn, .int .i64 (2 + r14_0), .slice (some ⟨b8, 0, none⟩) 2 2, .slice qm mm dm, .int .i64 (1 + r23_0), .int .i64 r26_0]) (xloadN Tryz.isAgg26 Tryz.sizeOf26 rfl (O_b12.cells) rfl) rfl rfl ?_
  refine ostoreN (vs := _) Tryz.sizeOf26 rfl rfl O_b1 rfl (by simp) (by simp [Value.oneCell']) rfl ?_
  intro w21 on21 O21
  have hz21 := on21.size
  have E : Mk b (b + 1) w w21 := by first | exact E.trans (Mk.ofOnly on21 (by omega) (by omega)) | exact E.young (Mk.ofOnly on21 (Nat.le_refl _) (Nat.lt_succ_self _)) (by omega)
  replace S := S.off (Mk.ofOnly on21 (Nat.le_refl _) (Nat.lt_succ_self _)) (by omega)
  replace GN := GN.onlyT O_b1 (by decide) on21
  replace G8 := G8.onlyT O_b1 (by decide) on21
  replace GM := GM.onlyT O_b1 (by decide) on21
  replace O21 : Own w21 b1 [.int .i64 cc, .int .i64 (1 + r8_0), .int .i64 r11_0, .slice qn mn dn, .int .i64 (2 + r14_0), .slice (some ⟨b8, 0, none⟩) 2 2, .slice qm mm dm, .int .i64 (1 + r23_0), .int .i64 r26_0] 26 := O21
  refine ops_nil ?_
  refine run_ret Tryz.func87 (resc1 rfl rfl (run_loadVar_cells Tryz.isAgg26 Tryz.sizeOf26 O21.cells rfl)) ?_
  exact ⟨_, rfl, ⟨(cc), ((1 + r8_0)), (r11_0), zn, ((2 + r14_0)), _, zm, ((1 + r23_0)), (r26_0)⟩, _, _, _, _, _, _, _, _, _, rfl, (GN.slF (by omega) (by omega)), (G8.slF (by omega) (by omega)), (GM.slF (by omega) (by omega)), E, S⟩
 refine ct_ rfl ?_
 refine run_skip ?_
 refine run_seq ?_
 refine run_block ?_
 refine run_rg (τ := [(0, .pointer (some ⟨b, 0, none⟩)), (2, .pointer (some ⟨b1, 0, none⟩)), (3, .pointer (some ⟨b12, 0, none⟩)), (6, .int .i64 nn2)]) 10 [66, 67, 68, 69, 70, 71, 72, 73, 74, 75] (fun u_ => Mk b (b + 1) wr2 u_ ∧ Src u_ b cb) (fun i_ => Mk b (b + 1)) (fun i_ v_ u_ => match i_ with | 0 => v_ = .pointer (some ⟨b12, 0 + 6, none⟩) | 1 => v_ = .slice qm mm dm | 2 => v_ = .pointer (some ⟨b, 0, none⟩) | 3 => v_ = .pointer (some ⟨b, 0, none⟩) | 4 => ∃ (y0_ : Int), v_ = .int .i64 y0_ ∧ (0 ≤ y0_) ∧ ((y0_ < 4 ∨ y0_ = 0)) | 5 => v_ = .pointer (some ⟨b, 0, none⟩) | 6 => ∃ (y0_ : Int), v_ = .int .i64 y0_ ∧ (0 ≤ y0_) ∧ ((y0_ < 4 ∨ y0_ = 0)) | 7 => ∃ (y0_ : Nat) (y1_ : Int) (y2_ : Int), v_ = .slice (some ⟨y0_, 0, none⟩) 3 3 ∧ (wr2.heap.size ≤ y0_) ∧ (Sl i64c 1 u_ (some ⟨y0_, 0, none⟩) 3 3 [y1_, y2_, (-1)]) ∧ (0 ≤ y1_) ∧ ((y1_ < 4 ∨ y1_ = 0)) ∧ (0 ≤ y2_) ∧ ((y2_ < 4 ∨ y2_ = 0)) | 8 => ∃ (y0_ : Int), v_ = .int .i64 y0_ ∧ (-100 ≤ y0_ ∧ y0_ ≤ 100) | 9 => ∃ (y0_ : Nat) (y1_ : Int), v_ = .slice (some ⟨y0_, 0, none⟩) 1 1 ∧ (wr2.heap.size ≤ y0_) ∧ (Sl i64c 1 u_ (some ⟨y0_, 0, none⟩) 1 1 [y1_]) ∧ (-100 ≤ y1_ ∧ y1_ ≤ 100) | _ => True) [(1, some 67), (9, some 75)] (by kernel_rfl) (by kernel_rfl) (by kernel_rfl) (by kernel_rfl) (by kernel_rfl) (by kernel_rfl) ⟨rfl, rfl, rfl, rfl, trivial⟩ rfl (fun u_ e_ z_ => ⟨Mk.ofExt e_, S.ext e_⟩) ?_ ?_ ?_
 ·
  intro i_ j_ hi_ hj_ hij_ v_ u_ u2_ I_ I2_ r_ g_
  have zu_ := I_.1.size
  clear hi_
  rcases (by omega : j_ = 0 ∨ j_ = 1 ∨ j_ = 2 ∨ j_ = 3 ∨ j_ = 4 ∨ j_ = 5 ∨ j_ = 6 ∨ j_ = 7 ∨ j_ = 8 ∨ j_ = 9) with rfl | rfl | rfl | rfl | rfl | rfl | rfl | rfl | rfl | rfl
  ·
   exact g_
  ·
   exact g_
  ·
   exact g_
  ·
   exact g_
  ·
   exact g_
  ·
   exact g_
  ·
   exact g_
  ·
   obtain ⟨g73_0, g73_1, g73_2, rfl, f73_0, f73_1, f73_2, f73_3, f73_4, f73_5⟩ := g_
   exact ⟨g73_0, g73_1, g73_2, rfl, f73_0, f73_1.off r_ (by simp only [pb, Option.getD_some]; omega), f73_2, f73_3, f73_4, f73_5⟩
  ·
   exact g_
  obtain ⟨g75_0, g75_1, rfl, f75_0, f75_1, f75_2⟩ := g_
  exact ⟨g75_0, g75_1, rfl, f75_0, f75_1.off r_ (by simp only [pb, Option.getD_some]; omega), f75_2⟩
 ·
  refine rga [] (by kernel_rfl) ?_ ?_
  ·
   intro u_ I_
   have zu_ := I_.1.size
   refine rg_val (xfieldAddr fo26f6 rfl) rfl I_ (Mk.refl _ _ _) rfl
  refine rga [(0, some 66)] (by kernel_rfl) ?_ ?_
  ·
   rintro u_ I_ _ rfl
   have zu_ := I_.1.size
   have OB_ := I_.1.own O_b12 (by omega)
   refine rg_val (xload1 Tryz.isAgg24 rfl (OB_.cells) rfl) rfl I_ (Mk.refl _ _ _) rfl
  refine rga [] (by kernel_rfl) ?_ ?_
  ·
   intro u_ I_
   have zu_ := I_.1.size
   refine rg_val (xmove rfl) rfl I_ (Mk.refl _ _ _) rfl
  refine rga [] (by kernel_rfl) ?_ ?_
  ·
   intro u_ I_
   have zu_ := I_.1.size
   refine rg_val (xmove rfl) rfl I_ (Mk.refl _ _ _) rfl
  refine rga [(3, some 69)] (by kernel_rfl) ?_ ?_
  ·
   rintro u_ I_ _ rfl
   have zu_ := I_.1.size
   refine rg_call (xcall Tryz.call60 rfl) rfl (l01Next_ok b cb (4) _ I_.2) ?_
   rintro _ w_ ⟨r_0, rfl, h_0, h_1, m_, S_⟩
   exact ⟨⟨I_.1.trans m_, S_⟩, m_, ⟨r_0, rfl, h_0, h_1⟩⟩
  refine rga [] (by kernel_rfl) ?_ ?_
  ·
   intro u_ I_
   have zu_ := I_.1.size
   refine rg_val (xmove rfl) rfl I_ (Mk.refl _ _ _) rfl
  refine rga [(5, some 71)] (by kernel_rfl) ?_ ?_
  ·
   rintro u_ I_ _ rfl
   have zu_ := I_.1.size
   refine rg_call (xcall Tryz.call60 rfl) rfl (l01Next_ok b cb (4) _ I_.2) ?_
   rintro _ w_ ⟨r_0, rfl, h_0, h_1, m_, S_⟩
   exact ⟨⟨I_.1.trans m_, S_⟩, m_, ⟨r_0, rfl, h_0, h_1⟩⟩
  refine rga [(4, some 70), (6, some 72)] (by kernel_rfl) ?_ ?_
  ·
   rintro u_ I_ _ ⟨g70_0, rfl, f70_0, f70_1⟩ _ ⟨g72_0, rfl, f72_0, f72_1⟩
   have zu_ := I_.1.size
   refine rg_build (len := 3) (vs := [.int .i64 g70_0, .int .i64 g72_0, .int .i64 (-1)]) (cs := [.int .i64 g70_0, .int .i64 g72_0, .int .i64 (-1)]) (sz := 1) Tryz.underlying24 inf2 rfl rfl (by decide) (by rfl) (by rfl) (by simp [Value.cells]) rfl rfl ?_
   intro b_ w_ e_ hb_ O_
   refine ⟨⟨I_.1.trans (Mk.ofExt e_), I_.2.ext e_⟩, Mk.ofExt e_, ⟨b_, g70_0, g72_0, rfl, (by omega), (Own.ow (lo := b_) (hi := b_ + 1) (enc := i64c) (sz := 1) (xs := [g70_0, g72_0, (-1)]) (n := 3) (by simpa [i64c] using O_) rfl (by omega) (Nat.le_refl _) (by omega) (by intro x hx; rfl)).sl, f70_0, f70_1, f72_0, f72_1⟩⟩
  refine rga [(2, some 68), (7, some 73)] (by kernel_rfl) ?_ ?_
  ·
   rintro u_ I_ _ rfl _ ⟨g73_0, g73_1, g73_2, rfl, f73_0, f73_1, f73_2, f73_3, f73_4, f73_5⟩
   have zu_ := I_.1.size
   refine rg_call (xcall Tryz.call61 rfl) rfl (l01Pick_ok b cb _ _ _ [g73_1, g73_2, (-1)] 100 _ I_.2 f73_1 (by intro x hx; simp only [List.mem_cons, List.not_mem_nil, or_false] at hx; omega) (by omega) (by simp only [pb, Option.getD_some]; omega)) ?_
   rintro _ w_ ⟨r_0, rfl, h_0, m_, S_⟩
   exact ⟨⟨I_.1.trans m_, S_⟩, m_, ⟨r_0, rfl, h_0⟩⟩
  refine rga [(8, some 74)] (by kernel_rfl) ?_ ?_
  ·
   rintro u_ I_ _ ⟨g74_0, rfl, f74_0⟩
   have zu_ := I_.1.size
   refine rg_build (len := 1) (vs := [.int .i64 g74_0]) (cs := [.int .i64 g74_0]) (sz := 1) Tryz.underlying24 inf2 rfl rfl (by decide) (by rfl) (by rfl) (by simp [Value.cells]) rfl rfl ?_
   intro b_ w_ e_ hb_ O_
   refine ⟨⟨I_.1.trans (Mk.ofExt e_), I_.2.ext e_⟩, Mk.ofExt e_, ⟨b_, g74_0, rfl, (by omega), (Own.sl1 (y := g74_0) (enc := i64c) O_), f74_0⟩⟩
  exact rga_nil
 rintro w21 I_ _ rfl _ ⟨g75_0, g75_1, rfl, f75_0, f75_1, f75_2⟩
 have m21 := I_.1
 have z21 := m21.size
 have E := E.trans m21
 replace S := I_.2
 replace GN := GN.off m21 (by omega)
 replace G8 := G8.off m21 (by omega)
 replace GM := GM.off m21 (by omega)
 replace O_b1 := m21.own O_b1 (by omega)
 replace O_b12 := m21.own O_b12 (by omega)
 refine oapp2 (bytes := 8) (nm := (mm + 1)) GM rfl rfl elem2 (f75_1) (f75_1).nil (by intro y hy; rfl) (by intro y hy u hu; rw [List.mem_singleton] at hy; subst hy; revert u; simp [Value.oneCell', i64c]) (by omega) (by omega) (by omega) (by omega) rfl rfl ?_
 intro p22 c22_ w22 m22 k22 hat76 G22
 have hh22 := hend_le qm
 have hz22 := m22.size
 have E := E.young m22 (by omega)
 replace S := (by first | exact S.off m22 (by omega) | exact S.off k22 (by omega))
 replace GN := (by first | exact GN.off m22 (by omega) | exact GN.off k22 (by omega))
 replace G8 := (by first | exact G8.off m22 (by omega) | exact G8.off k22 (by omega))
 try replace O_b1 := m22.own O_b1 (by omega)
 try replace O_b12 := m22.own O_b12 (by omega)
 refine oz_ (xfieldAddr fo26f6 rfl) rfl rfl ?_
 refine ostore1 Tryz.sizeOf24 rfl rfl O_b12 (by simp) rfl rfl ?_
 intro w23 on23 O23
 have hz23 := on23.size
 have E : Mk b (b + 1) w w23 := by first | exact E.trans (Mk.ofOnly on23 (by omega) (by omega)) | exact E.young (Mk.ofOnly on23 (Nat.le_refl _) (Nat.lt_succ_self _)) (by omega)
 replace S := S.off (Mk.ofOnly on23 (Nat.le_refl _) (Nat.lt_succ_self _)) (by omega)
 replace GN := GN.onlyT O_b12 (by decide) on23
 replace G8 := G8.onlyT O_b12 (by decide) on23
 replace G22 := G22.onlyT O_b12 (by decide) on23
 replace O_b1 := on23.own O_b1 (by omega)
 replace O23 : Own w23 b12 [.int .i64 cc, .int .i64 (1 + r8_0), .int .i64 r11_0, .slice qn mn dn, .int .i64 (2 + r14_0), .slice (some ⟨b8, 0, none⟩) 2 2, .slice p22 (mm + 1) c22_, .int .i64 (1 + r23_0), .int .i64 r26_0] 26 := O23
 refine ops_nil ?_
 refine run_inBlock ?_
 refine run_region ?_
 refine vm_ rfl rfl rfl ?_
 refine oz_ (xsub rfl rfl (by unfold I64; omega)) rfl rfl ?_
 refine vn_ rfl rfl rfl ?_
 refine run_sub ?_ (hback12 (j2 + 1, nn2 - 1, p22, (mm + 1), c22_, _, w23) (⟨E, O_b1, O23, S, GN, G8, G22.narrow, by omega, by omega, by omega, by omega, hat76.elim (fun h => by rw [h]; exact hsep2) (fun h => by omega), by have := G22.pb_lt (by omega); omega⟩) (by first | omega | (dsimp only; omega)))
 exact ⟨rfl, rfl, rfl, rfl, trivial⟩
set_option maxHeartbeats 8000000 in
theorem l16Draw_ok (b cb : Nat) (w : World) (S : Src w b cb) : Ret Tryz.prog 47 [.pointer (some ⟨b, 0, none⟩)] w (fun v w' => ∃ (r : Rec) (q1 : Option Addr) (m1 d1 : Nat) (q2 : Option Addr) (m2 d2 : Nat) (q3 : Option Addr) (m3 d3 : Nat), v = .agg #[.int .i64 r.C, .int .i64 r.St, .int .i64 r.Sa, .slice q1 m1 d1, .int .i64 r.Se, .slice q2 m2 d2, .slice q3 m3 d3, .int .i64 r.Me, .int .i64 r.Al] ∧ SlF i64c 1 w' w.heap.size w'.heap.size q1 m1 d1 (r.N) ∧ SlF i64c 1 w' w.heap.size w'.heap.size q2 m2 d2 (r.Sk) ∧ SlF i64c 1 w' w.heap.size w'.heap.size q3 m3 d3 (r.Mv) ∧ Mk b (b + 1) w w' ∧ Src w' b cb) := by
 refine ret_of_run (N := 44) Tryz.func47 rfl rfl rfl ?_
 have hbl := S.lt
 have hcb := S.cb
 have E : Mk b (b + 1) w w := Mk.refl _ _ _
 refine sr_ ?_
 refine oalloc Tryz.zeroValue26 rfl rfl ?_
 intro b1 w1 e1 hb1 hz1 O1
 have E := E.trans (Mk.ofExt e1)
 replace S := S.ext e1
 replace O1 : Own w1 b1 [.int .i64 0, .int .i64 0, .int .i64 0, .slice none 0 0, .int .i64 0, .slice none 0 0, .slice none 0 0, .int .i64 0, .int .i64 0] 26 := O1
 refine ops_nil ?_
 refine sr_ ?_
 refine vm_ rfl rfl rfl ?_
 refine oc (xcall Tryz.call87 rfl) rfl rfl rfl (l16Good_ok b cb _ S) ?_
 rintro _ w2 ⟨r5_0, r5_1, r5_2, r5_3, r5_4, r5_5, r5_6, r5_7, r5_8, r5_9, rfl, h5_0, h5_1, h5_2, m2, S2⟩
 have z2 := m2.size
 have E := E.trans m2
 replace O1 := m2.own O1 (by omega)
 replace S := S2
 refine oalloc Tryz.zeroValue26 rfl rfl ?_
 intro b3 w3 e3 hb3 hz3 O3
 have E := E.trans (Mk.ofExt e3)
 replace S := S.ext e3
 replace h5_0 := h5_0.ext e3
 replace h5_1 := h5_1.ext e3
 replace h5_2 := h5_2.ext e3
 replace O1 := O1.ext e3
 replace O3 : Own w3 b3 [.int .i64 0, .int .i64 0, .int .i64 0, .slice none 0 0, .int .i64 0, .slice none 0 0, .slice none 0 0, .int .i64 0, .int .i64 0] 26 := O3
 refine ostoreN (vs := _) Tryz.sizeOf26 rfl rfl O3 rfl (by simp) (by simp [Value.oneCell']) rfl ?_
 intro w4 on4 O4
 have hz4 := on4.size
 have E : Mk b (b + 1) w w4 := by first | exact E.trans (Mk.ofOnly on4 (by omega) (by omega)) | exact E.young (Mk.ofOnly on4 (Nat.le_refl _) (Nat.lt_succ_self _)) (by omega)
 replace S := S.off (Mk.ofOnly on4 (Nat.le_refl _) (Nat.lt_succ_self _)) (by omega)
 replace h5_0 := h5_0.only on4 (by omega)
 replace h5_1 := h5_1.only on4 (by omega)
 replace h5_2 := h5_2.only on4 (by omega)
 replace O1 := on4.own O1 (by omega)
 replace O4 : Own w4 b3 [.int .i64 (r5_0).C, .int .i64 (r5_0).St, .int .i64 (r5_0).Sa, .slice r5_1 r5_2 r5_3, .int .i64 (r5_0).Se, .slice r5_4 r5_5 r5_6, .slice r5_7 r5_8 r5_9, .int .i64 (r5_0).Me, .int .i64 (r5_0).Al] 26 := O4
 refine ops_nil ?_
 refine run_seq ?_
 refine sr_ ?_
 refine vm_ rfl rfl rfl ?_
 refine oc (xcall Tryz.call60 rfl) rfl rfl rfl (l01Next_ok b cb (40) _ S) ?_
 rintro _ w5 ⟨r7_0, rfl, h7_0, h7_1, m5, S5⟩
 have z5 := m5.size
 have E := E.trans m5
 replace h5_0 := h5_0.off m5 (by omega)
 replace h5_1 := h5_1.off m5 (by omega)
 replace h5_2 := h5_2.off m5 (by omega)
 replace O1 := m5.own O1 (by omega)
 replace O4 := m5.own O4 (by omega)
 replace S := S5
 refine ops_nil ?_
 refine run_block ?_
 refine sr_ ?_
 refine oz_ (xeql rfl rfl _ rfl) rfl rfl ?_
 refine ods (fun c9 => ?_) (fun c9 => ?_)
 ·
  refine vn_ rfl rfl rfl ?_
  refine run_cond_t rfl ?_
  refine run_region ?_
  refine vm_ rfl rfl rfl ?_
  refine oc (xcall Tryz.call88 rfl) rfl rfl rfl (l03State_ok b cb _ S) ?_
  rintro _ w6 ⟨r11_0, rfl, m6, S6⟩
  have z6 := m6.size
  have E := E.trans m6
  replace h5_0 := h5_0.off m6 (by omega)
  replace h5_1 := h5_1.off m6 (by omega)
  replace h5_2 := h5_2.off m6 (by omega)
  replace O1 := m6.own O1 (by omega)
  replace O4 := m6.own O4 (by omega)
  replace S := S6
  refine oz_ (xfieldAddr fo26f1 rfl) rfl rfl ?_
  refine ostore1 Tryz.sizeOf2 rfl rfl O4 (by simp) rfl rfl ?_
  intro w7 on7 O7
  have hz7 := on7.size
  have E : Mk b (b + 1) w w7 := by first | exact E.trans (Mk.ofOnly on7 (by omega) (by omega)) | exact E.young (Mk.ofOnly on7 (Nat.le_refl _) (Nat.lt_succ_self _)) (by omega)
  replace S := S.off (Mk.ofOnly on7 (Nat.le_refl _) (Nat.lt_succ_self _)) (by omega)
  replace h5_0 := h5_0.only on7 (by omega)
  replace h5_1 := h5_1.only on7 (by omega)
  replace h5_2 := h5_2.only on7 (by omega)
  replace O1 := on7.own O1 (by omega)
  replace O7 : Own w7 b3 [.int .i64 (r5_0).C, .int .i64 r11_0, .int .i64 (r5_0).Sa, .slice r5_1 r5_2 r5_3, .int .i64 (r5_0).Se, .slice r5_4 r5_5 r5_6, .slice r5_7 r5_8 r5_9, .int .i64 (r5_0).Me, .int .i64 (r5_0).Al] 26 := O7
  refine ops_nil ?_
  refine run_inBlock ?_
  refine sr_ ?_
  refine oz_ (v := .agg #[.int .i64 (r5_0).C, .int .i64 r11_0, .int .i64 (r5_0).Sa, .slice r5_1 r5_2 r5_3, .int .i64 (r5_0).Se, .slice r5_4 r5_5 r5_6, .slice r5_7 r5_8 r5_9, .int .i64 (r5_0).Me, .int .i64 (r5_0).Al]) (xloadN Tryz.isAgg26 Tryz.sizeOf26 rfl (O7.cells) rfl) rfl rfl ?_
  refine ostoreN (vs := _) Tryz.sizeOf26 rfl rfl O1 rfl (by simp) (by simp [Value.oneCell']) rfl ?_
  intro w8 on8 O8
  have hz8 := on8.size
  have E : Mk b (b + 1) w w8 := by first | exact E.trans (Mk.ofOnly on8 (by omega) (by omega)) | exact E.young (Mk.ofOnly on8 (Nat.le_refl _) (Nat.lt_succ_self _)) (by omega)
  replace S := S.off (Mk.ofOnly on8 (Nat.le_refl _) (Nat.lt_succ_self _)) (by omega)
  replace h5_0 := h5_0.only on8 (by omega)
  replace h5_1 := h5_1.only on8 (by omega)
  replace h5_2 := h5_2.only on8 (by omega)
  replace O8 : Own w8 b1 [.int .i64 (r5_0).C, .int .i64 r11_0, .int .i64 (r5_0).Sa, .slice r5_1 r5_2 r5_3, .int .i64 (r5_0).Se, .slice r5_4 r5_5 r5_6, .slice r5_7 r5_8 r5_9, .int .i64 (r5_0).Me, .int .i64 (r5_0).Al] 26 := O8
  refine ops_nil ?_
  refine run_ret Tryz.func47 (resc1 rfl rfl (run_loadVar_cells Tryz.isAgg26 Tryz.sizeOf26 O8.cells rfl)) ?_
  exact ⟨_, rfl, ⟨((r5_0).C), (r11_0), ((r5_0).Sa), r5_0.N, ((r5_0).Se), r5_0.Sk, r5_0.Mv, ((r5_0).Me), ((r5_0).Al)⟩, _, _, _, _, _, _, _, _, _, rfl, (h5_0.wide (by omega) (by omega)), (h5_1.wide (by omega) (by omega)), (h5_2.wide (by omega) (by omega)), E, S⟩
 refine vn_ rfl rfl rfl ?_
 refine run_cond_f rfl ?_
 refine sr_ ?_
 refine oz_ (xeql rfl rfl _ rfl) rfl rfl ?_
 refine ods (fun c14 => ?_) (fun c14 => ?_)
 ·
  refine vn_ rfl rfl rfl ?_
  refine run_cond_t rfl ?_
  refine run_region ?_
  refine obuild (cs := [.int .i64 5, .int .i64 5]) (sz := 1) Tryz.underlying24 inf2 rfl rfl (by decide) rfl rfl (by simp [Value.cells]) rfl rfl rfl ?_
  intro b6 w6 e6 hb6 hz6 O6
  have E := E.trans (Mk.ofExt e6)
  replace S := S.ext e6
  replace h5_1 := h5_1.ext e6
  replace h5_2 := h5_2.ext e6
  replace O1 := O1.ext e6
  replace O4 := O4.ext e6
  have G6 : Ow i64c 1 2 w6 b6 (b6 + 1) (some ⟨b6, 0, none⟩) 2 2 ([5, 5] : List Int) := Own.ow (by simpa [i64c] using O6) rfl (by omega) (Nat.le_refl _) (by omega) (by intro x hx; rfl)
  refine oz_ (xfieldAddr fo26f3 rfl) rfl rfl ?_
  refine ostore1 Tryz.sizeOf24 rfl rfl O4 (by simp) rfl rfl ?_
  intro w7 on7 O7
  have hz7 := on7.size
  have E : Mk b (b + 1) w w7 := by first | exact E.trans (Mk.ofOnly on7 (by omega) (by omega)) | exact E.young (Mk.ofOnly on7 (Nat.le_refl _) (Nat.lt_succ_self _)) (by omega)
  replace S := S.off (Mk.ofOnly on7 (Nat.le_refl _) (Nat.lt_succ_self _)) (by omega)
  replace h5_1 := h5_1.only on7 (by omega)
  replace h5_2 := h5_2.only on7 (by omega)
  replace G6 := G6.only on7 (by omega)
  replace O1 := on7.own O1 (by omega)
  replace O7 : Own w7 b3 [.int .i64 (r5_0).C, .int .i64 (r5_0).St, .int .i64 (r5_0).Sa, .slice (some ⟨b6, 0, none⟩) 2 2, .int .i64 (r5_0).Se, .slice r5_4 r5_5 r5_6, .slice r5_7 r5_8 r5_9, .int .i64 (r5_0).Me, .int .i64 (r5_0).Al] 26 := O7
  refine ops_nil ?_
  refine run_inBlock ?_
  refine sr_ ?_
  refine oz_ (v := .agg #[.int .i64 (r5_0).C, .int .i64 (r5_0).St, .int .i64 (r5_0).Sa, .slice (some ⟨b6, 0, none⟩) 2 2, .int .i64 (r5_0).Se, .slice r5_4 r5_5 r5_6, .slice r5_7 r5_8 r5_9, .int .i64 (r5_0).Me, .int .i64 (r5_0).Al]) (xloadN Tryz.isAgg26 Tryz.sizeOf26 rfl (O7.cells) rfl) rfl rfl ?_
  refine ostoreN (vs := _) Tryz.sizeOf26 rfl rfl O1 rfl (by simp) (by simp [Value.oneCell']) rfl ?_
  intro w8 on8 O8
  have hz8 := on8.size
  have E : Mk b (b + 1) w w8 := by first | exact E.trans (Mk.ofOnly on8 (by omega) (by omega)) | exact E.young (Mk.ofOnly on8 (Nat.le_refl _) (Nat.lt_succ_self _)) (by omega)
  replace S := S.off (Mk.ofOnly on8 (Nat.le_refl _) (Nat.lt_succ_self _)) (by omega)
  replace h5_1 := h5_1.only on8 (by omega)
  replace h5_2 := h5_2.only on8 (by omega)
  replace G6 := G6.only on8 (by omega)
  replace O8 : Own w8 b1 [.int .i64 (r5_0).C, .int .i64 (r5_0).St, .int .i64 (r5_0).Sa, .slice (some ⟨b6, 0, none⟩) 2 2, .int .i64 (r5_0).Se, .slice r5_4 r5_5 r5_6, .slice r5_7 r5_8 r5_9, .int .i64 (r5_0).Me, .int .i64 (r5_0).Al] 26 := O8
  refine ops_nil ?_
  refine run_ret Tryz.func47 (resc1 rfl rfl (run_loadVar_cells Tryz.isAgg26 Tryz.sizeOf26 O8.cells rfl)) ?_
  exact ⟨_, rfl, ⟨((r5_0).C), ((r5_0).St), ((r5_0).Sa), ([5, 5] : List Int), ((r5_0).Se), r5_0.Sk, r5_0.Mv, ((r5_0).Me), ((r5_0).Al)⟩, _, _, _, _, _, _, _, _, _, rfl, (G6.slF (by omega) (by omega)), (h5_1.wide (by omega) (by omega)), (h5_2.wide (by omega) (by omega)), E, S⟩
 refine vn_ rfl rfl rfl ?_
 refine run_cond_f rfl ?_
 refine sr_ ?_
 refine oz_ (xeql rfl rfl _ rfl) rfl rfl ?_
 refine ods (fun c18 => ?_) (fun c18 => ?_)
 ·
  refine vn_ rfl rfl rfl ?_
  refine run_cond_t rfl ?_
  refine run_region ?_
  refine vm_ rfl rfl rfl ?_
  refine obuild (cs := [.int .i64 10, .int .i64 11]) (sz := 1) Tryz.underlying24 inf2 rfl rfl (by decide) rfl rfl (by simp [Value.cells]) rfl rfl rfl ?_
  intro b6 w6 e6 hb6 hz6 O6
  have E := E.trans (Mk.ofExt e6)
  replace S := S.ext e6
  replace h5_0 := h5_0.ext e6
  replace h5_2 := h5_2.ext e6
  replace O1 := O1.ext e6
  replace O4 := O4.ext e6
  have G6 : Ow i64c 1 2 w6 b6 (b6 + 1) (some ⟨b6, 0, none⟩) 2 2 ([10, 11] : List Int) := Own.ow (by simpa [i64c] using O6) rfl (by omega) (Nat.le_refl _) (by omega) (by intro x hx; rfl)
  refine oc (xcall Tryz.call61 rfl) rfl rfl rfl (l01Pick_ok b cb _ _ _ ([10, 11] : List Int) 11 _ S (G6.sl) (by decide) (by omega) (by simp only [pb, Option.getD_some]; omega)) ?_
  rintro _ w7 ⟨r21_0, rfl, h21_0, m7, S7⟩
  have z7 := m7.size
  have E := E.trans m7
  replace h5_0 := h5_0.off m7 (by omega)
  replace h5_2 := h5_2.off m7 (by omega)
  replace O1 := m7.own O1 (by omega)
  replace O4 := m7.own O4 (by omega)
  replace S := S7
  refine obuild (cs := [.int .i64 r21_0, .int .i64 1]) (sz := 1) Tryz.underlying24 inf2 rfl rfl (by decide) rfl rfl (by simp [Value.cells]) rfl rfl rfl ?_
  intro b8 w8 e8 hb8 hz8 O8
  have E := E.trans (Mk.ofExt e8)
  replace S := S.ext e8
  replace h5_0 := h5_0.ext e8
  replace h5_2 := h5_2.ext e8
  replace O1 := O1.ext e8
  replace O4 := O4.ext e8
  have G8 : Ow i64c 1 2 w8 b8 (b8 + 1) (some ⟨b8, 0, none⟩) 2 2 ([r21_0, 1] : List Int) := Own.ow (by simpa [i64c] using O8) rfl (by omega) (Nat.le_refl _) (by omega) (by intro x hx; rfl)
  refine oz_ (xfieldAddr fo26f5 rfl) rfl rfl ?_
  refine ostore1 Tryz.sizeOf24 rfl rfl O4 (by simp) rfl rfl ?_
  intro w9 on9 O9
  have hz9 := on9.size
  have E : Mk b (b + 1) w w9 := by first | exact E.trans (Mk.ofOnly on9 (by omega) (by omega)) | exact E.young (Mk.ofOnly on9 (Nat.le_refl _) (Nat.lt_succ_self _)) (by omega)
  replace S := S.off (Mk.ofOnly on9 (Nat.le_refl _) (Nat.lt_succ_self _)) (by omega)
  replace h5_0 := h5_0.only on9 (by omega)
  replace h5_2 := h5_2.only on9 (by omega)
  replace G8 := G8.only on9 (by omega)
  replace O1 := on9.own O1 (by omega)
  replace O9 : Own w9 b3 [.int .i64 (r5_0).C, .int .i64 (r5_0).St, .int .i64 (r5_0).Sa, .slice r5_1 r5_2 r5_3, .int .i64 (r5_0).Se, .slice (some ⟨b8, 0, none⟩) 2 2, .slice r5_7 r5_8 r5_9, .int .i64 (r5_0).Me, .int .i64 (r5_0).Al] 26 := O9
  refine ops_nil ?_
  refine run_inBlock ?_
  refine sr_ ?_
  refine oz_ (v := .agg #[.int .i64 (r5_0).C, .int .i64 (r5_0).St, .int .i64 (r5_0).Sa, .slice r5_1 r5_2 r5_3, .int .i64 (r5_0).Se, .slice (some ⟨b8, 0, none⟩) 2 2, .slice r5_7 r5_8 r5_9, .int .i64 (r5_0).Me, .int .i64 (r5_0).Al]) (xloadN Tryz.isAgg26 Tryz.sizeOf26 rfl (O9.cells) rfl) rfl rfl ?_
  refine ostoreN (vs := _) Tryz.sizeOf26 rfl rfl O1 rfl (by simp) (by simp [Value.oneCell']) rfl ?_
  intro w10 on10 O10
  have hz10 := on10.size
  have E : Mk b (b + 1) w w10 := by first | exact E.trans (Mk.ofOnly on10 (by omega) (by omega)) | exact E.young (Mk.ofOnly on10 (Nat.le_refl _) (Nat.lt_succ_self _)) (by omega)
  replace S := S.off (Mk.ofOnly on10 (Nat.le_refl _) (Nat.lt_succ_self _)) (by omega)
  replace h5_0 := h5_0.only on10 (by omega)
  replace h5_2 := h5_2.only on10 (by omega)
  replace G8 := G8.only on10 (by omega)
  replace O10 : Own w10 b1 [.int .i64 (r5_0).C, .int .i64 (r5_0).St, .int .i64 (r5_0).Sa, .slice r5_1 r5_2 r5_3, .int .i64 (r5_0).Se, .slice (some ⟨b8, 0, none⟩) 2 2, .slice r5_7 r5_8 r5_9, .int .i64 (r5_0).Me, .int .i64 (r5_0).Al] 26 := O10
  refine ops_nil ?_
  refine run_ret Tryz.func47 (resc1 rfl rfl (run_loadVar_cells Tryz.isAgg26 Tryz.sizeOf26 O10.cells rfl)) ?_
  exact ⟨_, rfl, ⟨((r5_0).C), ((r5_0).St), ((r5_0).Sa), r5_0.N, ((r5_0).Se), ([r21_0, 1] : List Int), r5_0.Mv, ((r5_0).Me), ((r5_0).Al)⟩, _, _, _, _, _, _, _, _, _, rfl, (h5_0.wide (by omega) (by omega)), (G8.slF (by omega) (by omega)), (h5_2.wide (by omega) (by omega)), E, S⟩
 refine vn_ rfl rfl rfl ?_
 refine run_cond_f rfl ?_
 refine sr_ ?_
 refine oz_ (xeql rfl rfl _ rfl) rfl rfl ?_
 refine ods (fun c25 => ?_) (fun c25 => ?_)
 ·
  refine vn_ rfl rfl rfl ?_
  refine run_cond_t rfl ?_
  refine run_region ?_
  refine vm_ rfl rfl rfl ?_
  refine obuild (cs := [.int .i64 0, .int .i64 12, .int .i64 13]) (sz := 1) Tryz.underlying24 inf2 rfl rfl (by decide) rfl rfl (by simp [Value.cells]) rfl rfl rfl ?_
  intro b6 w6 e6 hb6 hz6 O6
  have E := E.trans (Mk.ofExt e6)
  replace S := S.ext e6
  replace h5_0 := h5_0.ext e6
  replace h5_1 := h5_1.ext e6
  replace h5_2 := h5_2.ext e6
  replace O1 := O1.ext e6
  replace O4 := O4.ext e6
  have G6 : Ow i64c 1 2 w6 b6 (b6 + 1) (some ⟨b6, 0, none⟩) 3 3 ([0, 12, 13] : List Int) := Own.ow (by simpa [i64c] using O6) rfl (by omega) (Nat.le_refl _) (by omega) (by intro x hx; rfl)
  refine oc (xcall Tryz.call61 rfl) rfl rfl rfl (l01Pick_ok b cb _ _ _ ([0, 12, 13] : List Int) 13 _ S (G6.sl) (by decide) (by omega) (by simp only [pb, Option.getD_some]; omega)) ?_
  rintro _ w7 ⟨r28_0, rfl, h28_0, m7, S7⟩
  have z7 := m7.size
  have E := E.trans m7
  replace h5_0 := h5_0.off m7 (by omega)
  replace h5_1 := h5_1.off m7 (by omega)
  replace h5_2 := h5_2.off m7 (by omega)
  replace O1 := m7.own O1 (by omega)
  replace O4 := m7.own O4 (by omega)
  replace S := S7
  refine oz_ (xfieldAddr fo26f4 rfl) rfl rfl ?_
  refine ostore1 Tryz.sizeOf2 rfl rfl O4 (by simp) rfl rfl ?_
  intro w8 on8 O8
  have hz8 := on8.size
  have E : Mk b (b + 1) w w8 := by first | exact E.trans (Mk.ofOnly on8 (by omega) (by omega)) | exact E.young (Mk.ofOnly on8 (Nat.le_refl _) (Nat.lt_succ_self _)) (by omega)
  replace S := S.off (Mk.ofOnly on8 (Nat.le_refl _) (Nat.lt_succ_self _)) (by omega)
  replace h5_0 := h5_0.only on8 (by omega)
  replace h5_1 := h5_1.only on8 (by omega)
  replace h5_2 := h5_2.only on8 (by omega)
  replace O1 := on8.own O1 (by omega)
  replace O8 : Own w8 b3 [.int .i64 (r5_0).C, .int .i64 (r5_0).St, .int .i64 (r5_0).Sa, .slice r5_1 r5_2 r5_3, .int .i64 r28_0, .slice r5_4 r5_5 r5_6, .slice r5_7 r5_8 r5_9, .int .i64 (r5_0).Me, .int .i64 (r5_0).Al] 26 := O8
  refine ops_nil ?_
  refine run_inBlock ?_
  refine sr_ ?_
  refine oz_ (v := .agg #[.int .i64 (r5_0).C, .int .i64 (r5_0).St, .int .i64 (r5_0).Sa, .slice r5_1 r5_2 r5_3, .int .i64 r28_0, .slice r5_4 r5_5 r5_6, .slice r5_7 r5_8 r5_9, .int .i64 (r5_0).Me, .int .i64 (r5_0).Al]) (xloadN Tryz.isAgg26 Tryz.sizeOf26 rfl (O8.cells) rfl) rfl rfl ?_
  refine ostoreN (vs := _) Tryz.sizeOf26 rfl rfl O1 rfl (by simp) (by simp [Value.oneCell']) rfl ?_
  intro w9 on9 O9
  have hz9 := on9.size
  have E : Mk b (b + 1) w w9 := by first | exact E.trans (Mk.ofOnly on9 (by omega) (by omega)) | exact E.young (Mk.ofOnly on9 (Nat.le_refl _) (Nat.lt_succ_self _)) (by omega)
  replace S := S.off (Mk.ofOnly on9 (Nat.le_refl _) (Nat.lt_succ_self _)) (by omega)
  replace h5_0 := h5_0.only on9 (by omega)
  replace h5_1 := h5_1.only on9 (by omega)
  replace h5_2 := h5_2.only on9 (by omega)
  replace O9 : Own w9 b1 [.int .i64 (r5_0).C, .int .i64 (r5_0).St, .int .i64 (r5_0).Sa, .slice r5_1 r5_2 r5_3, .int .i64 r28_0, .slice r5_4 r5_5 r5_6, .slice r5_7 r5_8 r5_9, .int .i64 (r5_0).Me, .int .i64 (r5_0).Al] 26 := O9
  refine ops_nil ?_
  refine run_ret Tryz.func47 (resc1 rfl rfl (run_loadVar_cells Tryz.isAgg26 Tryz.sizeOf26 O9.cells rfl)) ?_
  exact ⟨_, rfl, ⟨((r5_0).C), ((r5_0).St), ((r5_0).Sa), r5_0.N, (r28_0), r5_0.Sk, r5_0.Mv, ((r5_0).Me), ((r5_0).Al)⟩, _, _, _, _, _, _, _, _, _, rfl, (h5_0.wide (by omega) (by omega)), (h5_1.wide (by omega) (by omega)), (h5_2.wide (by omega) (by omega)), E, S⟩
 refine vn_ rfl rfl rfl ?_
 refine run_cond_f rfl ?_
 refine sr_ ?_
 refine oz_ (xeql rfl rfl _ rfl) rfl rfl ?_
 refine ods (fun c31 => ?_) (fun c31 => ?_)
 ·
  refine vn_ rfl rfl rfl ?_
  refine run_cond_t rfl ?_
  refine run_region ?_
  refine vm_ rfl rfl rfl ?_
  refine obuild (cs := [.int .i64 11, .int .i64 12, .int .i64 (-2)]) (sz := 1) Tryz.underlying24 inf2 rfl rfl (by decide) rfl rfl (by simp [Value.cells]) rfl rfl rfl ?_
  intro b6 w6 e6 hb6 hz6 O6
  have E := E.trans (Mk.ofExt e6)
  replace S := S.ext e6
  replace h5_0 := h5_0.ext e6
  replace h5_1 := h5_1.ext e6
  replace O1 := O1.ext e6
  replace O4 := O4.ext e6
  have G6 : Ow i64c 1 2 w6 b6 (b6 + 1) (some ⟨b6, 0, none⟩) 3 3 ([11, 12, (-2)] : List Int) := Own.ow (by simpa [i64c] using O6) rfl (by omega) (Nat.le_refl _) (by omega) (by intro x hx; rfl)
  refine oc (xcall Tryz.call61 rfl) rfl rfl rfl (l01Pick_ok b cb _ _ _ ([11, 12, (-2)] : List Int) 12 _ S (G6.sl) (by decide) (by omega) (by simp only [pb, Option.getD_some]; omega)) ?_
  rintro _ w7 ⟨r34_0, rfl, h34_0, m7, S7⟩
  have z7 := m7.size
  have E := E.trans m7
  replace h5_0 := h5_0.off m7 (by omega)
  replace h5_1 := h5_1.off m7 (by omega)
  replace O1 := m7.own O1 (by omega)
  replace O4 := m7.own O4 (by omega)
  replace S := S7
  refine obuild (cs := [.int .i64 r34_0]) (sz := 1) Tryz.underlying24 inf2 rfl rfl (by decide) rfl rfl (by simp [Value.cells]) rfl rfl rfl ?_
  intro b8 w8 e8 hb8 hz8 O8
  have E := E.trans (Mk.ofExt e8)
  replace S := S.ext e8
  replace h5_0 := h5_0.ext e8
  replace h5_1 := h5_1.ext e8
  replace O1 := O1.ext e8
  replace O4 := O4.ext e8
  have G8 : Ow i64c 1 2 w8 b8 (b8 + 1) (some ⟨b8, 0, none⟩) 1 1 ([r34_0] : List Int) := Own.ow (by simpa [i64c] using O8) rfl (by omega) (Nat.le_refl _) (by omega) (by intro x hx; rfl)
  refine oz_ (xfieldAddr fo26f6 rfl) rfl rfl ?_
  refine ostore1 Tryz.sizeOf24 rfl rfl O4 (by simp) rfl rfl ?_
  intro w9 on9 O9
  have hz9 := on9.size
  have E : Mk b (b + 1) w w9 := by first | exact E.trans (Mk.ofOnly on9 (by omega) (by omega)) | exact E.young (Mk.ofOnly on9 (Nat.le_refl _) (Nat.lt_succ_self _)) (by omega)
  replace S := S.off (Mk.ofOnly on9 (Nat.le_refl _) (Nat.lt_succ_self _)) (by omega)
  replace h5_0 := h5_0.only on9 (by omega)
  replace h5_1 := h5_1.only on9 (by omega)
  replace G8 := G8.only on9 (by omega)
  replace O1 := on9.own O1 (by omega)
  replace O9 : Own w9 b3 [.int .i64 (r5_0).C, .int .i64 (r5_0).St, .int .i64 (r5_0).Sa, .slice r5_1 r5_2 r5_3, .int .i64 (r5_0).Se, .slice r5_4 r5_5 r5_6, .slice (some ⟨b8, 0, none⟩) 1 1, .int .i64 (r5_0).Me, .int .i64 (r5_0).Al] 26 := O9
  refine ops_nil ?_
  refine run_inBlock ?_
  refine sr_ ?_
  refine oz_ (v := .agg #[.int .i64 (r5_0).C, .int .i64 (r5_0).St, .int .i64 (r5_0).Sa, .slice r5_1 r5_2 r5_3, .int .i64 (r5_0).Se, .slice r5_4 r5_5 r5_6, .slice (some ⟨b8, 0, none⟩) 1 1, .int .i64 (r5_0).Me, .int .i64 (r5_0).Al]) (xloadN Tryz.isAgg26 Tryz.sizeOf26 rfl (O9.cells) rfl) rfl rfl ?_
  refine ostoreN (vs := _) Tryz.sizeOf26 rfl rfl O1 rfl (by simp) (by simp [Value.oneCell']) rfl ?_
  intro w10 on10 O10
  have hz10 := on10.size
  have E : Mk b (b + 1) w w10 := by first | exact E.trans (Mk.ofOnly on10 (by omega) (by omega)) | exact E.young (Mk.ofOnly on10 (Nat.le_refl _) (Nat.lt_succ_self _)) (by omega)
  replace S := S.off (Mk.ofOnly on10 (Nat.le_refl _) (Nat.lt_succ_self _)) (by omega)
  replace h5_0 := h5_0.only on10 (by omega)
  replace h5_1 := h5_1.only on10 (by omega)
  replace G8 := G8.only on10 (by omega)
  replace O10 : Own w10 b1 [.int .i64 (r5_0).C, .int .i64 (r5_0).St, .int .i64 (r5_0).Sa, .slice r5_1 r5_2 r5_3, .int .i64 (r5_0).Se, .slice r5_4 r5_5 r5_6, .slice (some ⟨b8, 0, none⟩) 1 1, .int .i64 (r5_0).Me, .int .i64 (r5_0).Al] 26 := O10
  refine ops_nil ?_
  refine run_ret Tryz.func47 (resc1 rfl rfl (run_loadVar_cells Tryz.isAgg26 Tryz.sizeOf26 O10.cells rfl)) ?_
  exact ⟨_, rfl, ⟨((r5_0).C), ((r5_0).St), ((r5_0).Sa), r5_0.N, ((r5_0).Se), r5_0.Sk, ([r34_0] : List Int), ((r5_0).Me), ((r5_0).Al)⟩, _, _, _, _, _, _, _, _, _, rfl, (h5_0.wide (by omega) (by omega)), (h5_1.wide (by omega) (by omega)), (G8.slF (by omega) (by omega)), E, S⟩
 refine vn_ rfl rfl rfl ?_
 refine run_cond_f rfl ?_
 refine sr_ ?_
 refine oz_ (xeql rfl rfl _ rfl) rfl rfl ?_
 refine ods (fun c38 => ?_) (fun c38 => ?_)
 rotate_left
 ·
  refine vn_ rfl rfl rfl ?_
  refine run_cond_f rfl ?_
  refine run_skip ?_
  refine run_inBlock ?_
  refine sr_ ?_
  refine oz_ (v := .agg #[.int .i64 (r5_0).C, .int .i64 (r5_0).St, .int .i64 (r5_0).Sa, .slice r5_1 r5_2 r5_3, .int .i64 (r5_0).Se, .slice r5_4 r5_5 r5_6, .slice r5_7 r5_8 r5_9, .int .i64 (r5_0).Me, .int .i64 (r5_0).Al]) (xloadN Tryz.isAgg26 Tryz.sizeOf26 rfl (O4.cells) rfl) rfl rfl ?_
  refine ostoreN (vs := _) Tryz.sizeOf26 rfl rfl O1 rfl (by simp) (by simp [Value.oneCell']) rfl ?_
  intro w6 on6 O6
  have hz6 := on6.size
  have E : Mk b (b + 1) w w6 := by first | exact E.trans (Mk.ofOnly on6 (by omega) (by omega)) | exact E.young (Mk.ofOnly on6 (Nat.le_refl _) (Nat.lt_succ_self _)) (by omega)
  replace S := S.off (Mk.ofOnly on6 (Nat.le_refl _) (Nat.lt_succ_self _)) (by omega)
  replace h5_0 := h5_0.only on6 (by omega)
  replace h5_1 := h5_1.only on6 (by omega)
  replace h5_2 := h5_2.only on6 (by omega)
  replace O6 : Own w6 b1 [.int .i64 (r5_0).C, .int .i64 (r5_0).St, .int .i64 (r5_0).Sa, .slice r5_1 r5_2 r5_3, .int .i64 (r5_0).Se, .slice r5_4 r5_5 r5_6, .slice r5_7 r5_8 r5_9, .int .i64 (r5_0).Me, .int .i64 (r5_0).Al] 26 := O6
  refine ops_nil ?_
  refine run_ret Tryz.func47 (resc1 rfl rfl (run_loadVar_cells Tryz.isAgg26 Tryz.sizeOf26 O6.cells rfl)) ?_
  exact ⟨_, rfl, ⟨((r5_0).C), ((r5_0).St), ((r5_0).Sa), r5_0.N, ((r5_0).Se), r5_0.Sk, r5_0.Mv, ((r5_0).Me), ((r5_0).Al)⟩, _, _, _, _, _, _, _, _, _, rfl, (h5_0.wide (by omega) (by omega)), (h5_1.wide (by omega) (by omega)), (h5_2.wide (by omega) (by omega)), E, S⟩
 refine vn_ rfl rfl rfl ?_
 refine run_cond_t rfl ?_
 refine run_region ?_
 refine vm_ rfl rfl rfl ?_
 refine obuild (cs := [.int .i64 0, .int .i64 12, .int .i64 13]) (sz := 1) Tryz.underlying24 inf2 rfl rfl (by decide) rfl rfl (by simp [Value.cells]) rfl rfl rfl ?_
 intro b6 w6 e6 hb6 hz6 O6
 have E := E.trans (Mk.ofExt e6)
 replace S := S.ext e6
 replace h5_0 := h5_0.ext e6
 replace h5_1 := h5_1.ext e6
 replace h5_2 := h5_2.ext e6
 replace O1 := O1.ext e6
 replace O4 := O4.ext e6
 have G6 : Ow i64c 1 2 w6 b6 (b6 + 1) (some ⟨b6, 0, none⟩) 3 3 ([0, 12, 13] : List Int) := Own.ow (by simpa [i64c] using O6) rfl (by omega) (Nat.le_refl _) (by omega) (by intro x hx; rfl)
 refine oc (xcall Tryz.call61 rfl) rfl rfl rfl (l01Pick_ok b cb _ _ _ ([0, 12, 13] : List Int) 13 _ S (G6.sl) (by decide) (by omega) (by simp only [pb, Option.getD_some]; omega)) ?_
 rintro _ w7 ⟨r41_0, rfl, h41_0, m7, S7⟩
 have z7 := m7.size
 have E := E.trans m7
 replace h5_0 := h5_0.off m7 (by omega)
 replace h5_1 := h5_1.off m7 (by omega)
 replace h5_2 := h5_2.off m7 (by omega)
 replace O1 := m7.own O1 (by omega)
 replace O4 := m7.own O4 (by omega)
 replace S := S7
 refine oz_ (xfieldAddr fo26f7 rfl) rfl rfl ?_
 refine ostore1 Tryz.sizeOf2 rfl rfl O4 (by simp) rfl rfl ?_
 intro w8 on8 O8
 have hz8 := on8.size
 have E : Mk b (b + 1) w w8 := by first | exact E.trans (Mk.ofOnly on8 (by omega) (by omega)) | exact E.young (Mk.ofOnly on8 (Nat.le_refl _) (Nat.lt_succ_self _)) (by omega)
 replace S := S.off (Mk.ofOnly on8 (Nat.le_refl _) (Nat.lt_succ_self _)) (by omega)
 replace h5_0 := h5_0.only on8 (by omega)
 replace h5_1 := h5_1.only on8 (by omega)
 replace h5_2 := h5_2.only on8 (by omega)
 replace O1 := on8.own O1 (by omega)
 replace O8 : Own w8 b3 [.int .i64 (r5_0).C, .int .i64 (r5_0).St, .int .i64 (r5_0).Sa, .slice r5_1 r5_2 r5_3, .int .i64 (r5_0).Se, .slice r5_4 r5_5 r5_6, .slice r5_7 r5_8 r5_9, .int .i64 r41_0, .int .i64 (r5_0).Al] 26 := O8
 refine ops_nil ?_
 refine run_inBlock ?_
 refine sr_ ?_
 refine oz_ (v := .agg #[.int .i64 (r5_0).C, .int .i64 (r5_0).St, .int .i64 (r5_0).Sa, .slice r5_1 r5_2 r5_3, .int .i64 (r5_0).Se, .slice r5_4 r5_5 r5_6, .slice r5_7 r5_8 r5_9, .int .i64 r41_0, .int .i64 (r5_0).Al]) (xloadN Tryz.isAgg26 Tryz.sizeOf26 rfl (O8.cells) rfl) rfl rfl ?_
 refine ostoreN (vs := _) Tryz.sizeOf26 rfl rfl O1 rfl (by simp) (by simp [Value.oneCell']) rfl ?_
 intro w9 on9 O9
 have hz9 := on9.size
 have E : Mk b (b + 1) w w9 := by first | exact E.trans (Mk.ofOnly on9 (by omega) (by omega)) | exact E.young (Mk.ofOnly on9 (Nat.le_refl _) (Nat.lt_succ_self _)) (by omega)
 replace S := S.off (Mk.ofOnly on9 (Nat.le_refl _) (Nat.lt_succ_self _)) (by omega)
 replace h5_0 := h5_0.only on9 (by omega)
 replace h5_1 := h5_1.only on9 (by omega)
 replace h5_2 := h5_2.only on9 (by omega)
 replace O9 : Own w9 b1 [.int .i64 (r5_0).C, .int .i64 (r5_0).St, .int .i64 (r5_0).Sa, .slice r5_1 r5_2 r5_3, .int .i64 (r5_0).Se, .slice r5_4 r5_5 r5_6, .slice r5_7 r5_8 r5_9, .int .i64 r41_0, .int .i64 (r5_0).Al] 26 := O9
 refine ops_nil ?_
 refine run_ret Tryz.func47 (resc1 rfl rfl (run_loadVar_cells Tryz.isAgg26 Tryz.sizeOf26 O9.cells rfl)) ?_
 exact ⟨_, rfl, ⟨((r5_0).C), ((r5_0).St), ((r5_0).Sa), r5_0.N, ((r5_0).Se), r5_0.Sk, r5_0.Mv, (r41_0), ((r5_0).Al)⟩, _, _, _, _, _, _, _, _, _, rfl, (h5_0.wide (by omega) (by omega)), (h5_1.wide (by omega) (by omega)), (h5_2.wide (by omega) (by omega)), E, S⟩
end Go.Proofs.YtchblgaklknkcaaGreat
