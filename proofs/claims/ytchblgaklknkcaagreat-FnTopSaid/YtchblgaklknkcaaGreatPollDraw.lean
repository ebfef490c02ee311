/-
  Draws of polls. No condition beyond those written in each theorem.
-/
import Derived.Test.YtchblgaklknkcaaGreatFormLaw
import Derived.Test.YtchblgaklknkcaaGreatCountW
import Derived.Test.YtchblgaklknkcaaGreatRg2
namespace Go.Proofs.YtchblgaklknkcaaGreat
open Go.RowKit
set_option linter.unusedVariables false
set_option linter.unusedSimpArgs false
set_option linter.unusedSectionVars false
set_option maxRecDepth 4000
set_option maxHeartbeats 8000000 in
theorem l27Draw_ok (b cb : Nat) (w : World) (S : Src w b cb) : Ret Tryz.prog 24 [.pointer (some ⟨b, 0, none⟩)] w (fun v w' => ∃ (xs : List Question) (q : Option Addr) (m d : Nat) (vs : List (List Int)) (nd : Int) (p2 : Option Addr) (n2 c2 : Nat), v = .tuple #[.slice q m d, .agg #[.int .i64 nd, .slice p2 n2 c2]] ∧ (∀ x ∈ xs, x.Label.size ≤ 9223372036854775807) ∧ m ≤ 11 ∧ SlF Question.cells 3 w' w.heap.size w'.heap.size q m d xs ∧ OnInt64SS w' w.heap.size w'.heap.size p2 n2 c2 vs ∧ n2 ≤ 13 ∧ Mk b (b + 1) w w' ∧ Src w' b cb) := by
 refine ret_of_run (N := 115) Tryz.func24 rfl rfl rfl ?_
 have hbl := S.lt
 have hcb := S.cb
 have E : Mk b (b + 1) w w := Mk.refl _ _ _
 refine sr_ ?_
 refine va_ rfl rfl rfl ?_
 refine oalloc Tryz.zeroValue38 rfl rfl ?_
 intro b1 w1 e1 hb1 hz1 O1
 have E := E.trans (Mk.ofExt e1)
 replace S := S.ext e1
 replace O1 : Own w1 b1 [.int .i64 0, .slice none 0 0] 38 := O1
 refine ops_nil ?_
 refine sr_ ?_
 refine vm_ rfl rfl rfl ?_
 refine oc (xcall Tryz.call58 rfl) rfl rfl rfl (l26Good_ok b cb _ S) ?_
 rintro _ w2 ⟨r13_0, r13_1, r13_2, r13_3, rfl, h13_0, h13_1, h13_2, m2, S2⟩
 have z2 := m2.size
 have E := E.trans m2
 replace O1 := m2.own O1 (by omega)
 replace S := S2
 refine vn_ rfl rfl rfl ?_
 refine sr_ ?_
 refine obuild (cs := []) (sz := 1) Tryz.underlying36 inf24 rfl rfl (by decide) rfl rfl (by simp [Value.cells]) rfl rfl rfl ?_
 intro b3 w3 e3 hb3 hz3 O3
 have E := E.trans (Mk.ofExt e3)
 replace S := S.ext e3
 replace h13_2 := h13_2.ext e3
 replace O1 := O1.ext e3
 have G3 : NOw cellsInt64SS 1 24 innInt64SS i64c 1 2 w3 b3 (b3 + 1) (some ⟨b3, 0, none⟩) 0 0 [] := ⟨Own.ow (by simpa using O3) rfl (by omega) (Nat.le_refl _) (by omega) (by intro x hx; cases hx), Inn.nil⟩
 refine oz_ (xbuild (vs := [.slice (some ⟨b3, 0, none⟩) 0 0]) (cells := #[.int .i64 0, .slice (some ⟨b3, 0, none⟩) 0 0]) rfl (by kernel_rfl)) rfl rfl ?_
 refine oalloc Tryz.zeroValue38 rfl rfl ?_
 intro b4 w4 e4 hb4 hz4 O4
 have E := E.trans (Mk.ofExt e4)
 replace S := S.ext e4
 replace h13_2 := h13_2.ext e4
 replace G3 := G3.ext e4
 replace O1 := O1.ext e4
 replace O4 : Own w4 b4 [.int .i64 0, .slice none 0 0] 38 := O4
 refine ostoreN (vs := _) Tryz.sizeOf38 rfl rfl O4 rfl (by simp) (by simp [Value.oneCell']) rfl ?_
 intro w5 on5 O5
 have hz5 := on5.size
 have E : Mk b (b + 1) w w5 := by first | exact E.trans (Mk.ofOnly on5 (by omega) (by omega)) | exact E.young (Mk.ofOnly on5 (Nat.le_refl _) (Nat.lt_succ_self _)) (by omega)
 replace S := S.off (Mk.ofOnly on5 (Nat.le_refl _) (Nat.lt_succ_self _)) (by omega)
 replace h13_2 := h13_2.only on5 (by omega)
 replace G3 := G3.onlyT O4 (by decide) on5
 replace O1 := on5.own O1 (by omega)
 replace O5 : Own w5 b4 [.int .i64 0, .slice (some ⟨b3, 0, none⟩) 0 0] 38 := O5
 refine ops_nil ?_
 refine sr_ ?_
 have lh13 := h13_2.len
 have hok13 : ∀ x ∈ r13_0, x.Label.size ≤ 9223372036854775807 := fun x m => Nat.le_trans (h13_0 x m) (by decide)
 refine vm_ rfl rfl rfl ?_
 refine vm_ rfl rfl rfl ?_
 refine oc (xcall Tryz.call59 rfl) rfl rfl rfl (l26Answers_ok b cb _ _ _ _ S (by omega)) ?_
 rintro _ w6 ⟨r18_0, r18_1, r18_2, r18_3, rfl, h18_0, h18_1, h18_2, m6, S6⟩
 have z6 := m6.size
 have E := E.trans m6
 replace h13_2 := h13_2.off m6 (by omega)
 replace G3 := G3.off m6 (by omega)
 replace O1 := m6.own O1 (by omega)
 replace O5 := m6.own O5 (by omega)
 replace S := S6
 refine vn_ rfl rfl rfl ?_
 refine run_seq ?_
 refine sr_ ?_
 have lh18 := h18_2.len
 refine vm_ rfl rfl rfl ?_
 refine oc (xcall Tryz.call60 rfl) rfl rfl rfl (l01Next_ok b cb (8) _ S) ?_
 rintro _ w7 ⟨r20_0, rfl, h20_0, h20_1, m7, S7⟩
 have z7 := m7.size
 have E := E.trans m7
 replace h13_2 := h13_2.off m7 (by omega)
 replace G3 := G3.off m7 (by omega)
 replace h18_2 := h18_2.off m7 (by omega)
 replace O1 := m7.own O1 (by omega)
 replace O5 := m7.own O5 (by omega)
 replace S := S7
 refine oz_ (xadd rfl rfl (by unfold I64; omega)) rfl rfl ?_
 refine vn_ rfl rfl rfl ?_
 refine run_block ?_
 refine run_loop (ι := Int × Option Addr × Nat × Nat × List (X (List Int)) × World) (fun x_ => match x_ with | (nn, qv, mv, cv, zs, wr) => (Mk b (b + 1) w wr) ∧ (Own wr b1 ([.int .i64 0, .slice none 0 0]) 38) ∧ (Own wr b4 ([.int .i64 0, .slice qv mv cv]) 38) ∧ (Src wr b cb) ∧ (NOw cellsInt64SS 1 24 innInt64SS i64c 1 2 wr b3 wr.heap.size qv mv cv zs) ∧ (Ow Question.cells 3 99 wr w1.heap.size w2.heap.size r13_1 r13_2 r13_3 r13_0) ∧ (Ow i64c 1 2 wr w5.heap.size w6.heap.size r18_1 r18_2 r18_3 r18_0) ∧ (w7.heap.size ≤ wr.heap.size) ∧ (0 ≤ nn) ∧ ((mv : Int) + nn = 1 + r20_0)) (fun x_ => match x_ with | (nn, qv, mv, cv, zs, wr) => [(0, .pointer (some ⟨b, 0, none⟩)), (3, .pointer (some ⟨b1, 0, none⟩)), (4, .slice r13_1 r13_2 r13_3), (5, .pointer (some ⟨b4, 0, none⟩)), (6, .slice r18_1 r18_2 r18_3), (7, .int .i64 nn)]) (fun x_ => match x_ with | (nn, qv, mv, cv, zs, wr) => wr) (fun x_ => match x_ with | (nn, qv, mv, cv, zs, wr) => nn.toNat) ?_ (1 + r20_0, (some ⟨b3, 0, none⟩), 0, 0, [], w7) (⟨E, O1, O5, S, G3.wide (by omega) (by omega), h13_2, h18_2, Nat.le_refl _, by omega, by omega⟩) ⟨rfl, rfl, rfl, rfl, rfl, rfl, trivial⟩ rfl
 intro i_ hI_ hback5
 obtain ⟨nn, qv, mv, cv, zs, wr⟩ := i_
 obtain ⟨E, O_b1, O_b4, S, GV, h13_2, h18_2, lz_wr, hnn0, hnm⟩ := hI_
 try dsimp only
 have zr := E.size
 have lt_b1 := O_b1.lt
 have lt_b4 := O_b4.lt
 refine run_seq ?_
 refine sr_ ?_
 refine vm_ rfl rfl rfl ?_
 refine oz_ (xgtr rfl rfl _ rfl) rfl rfl ?_
 refine ods (fun c23 => ?_) (fun c23 => ?_)
 ·
  refine ct_ rfl ?_
  refine run_skip ?_
  refine run_seq ?_
  refine run_block ?_
  refine sr_ ?_
  refine obuild (cs := []) (sz := 1) Tryz.underlying24 inf2 rfl rfl (by decide) rfl rfl (by simp [Value.cells]) rfl rfl rfl ?_
  intro b8 w8 e8 hb8 hz8 O8
  have E := E.trans (Mk.ofExt e8)
  replace S := S.ext e8
  replace GV := GV.ext e8
  replace h13_2 := h13_2.ext e8
  replace h18_2 := h18_2.ext e8
  replace O_b1 := O_b1.ext e8
  replace O_b4 := O_b4.ext e8
  have G8 : Ow i64c 1 2 w8 b8 (b8 + 1) (some ⟨b8, 0, none⟩) 0 0 ([] : List Int) := Own.ow (by simpa [i64c] using O8) rfl (by omega) (Nat.le_refl _) (by omega) (by intro x hx; rfl)
  refine vn_ rfl rfl rfl ?_
  refine run_seq ?_
  refine sr_ ?_
  refine vm_ rfl rfl rfl ?_
  refine oz_ (xlen Tryz.underlying35 rfl) rfl rfl ?_
  refine vm_ rfl rfl rfl ?_
  refine ops_nil ?_
  refine run_block ?_
  refine run_loop (ι := Nat × Option Addr × Nat × Nat × List Int × World) (fun x_ => match x_ with | (k, q_8, m_8, c_8, ys_8, wr2) => (Mk b (b + 1) w wr2) ∧ (Own wr2 b1 ([.int .i64 0, .slice none 0 0]) 38) ∧ (Own wr2 b4 ([.int .i64 0, .slice qv mv cv]) 38) ∧ (Src wr2 b cb) ∧ (NOw cellsInt64SS 1 24 innInt64SS i64c 1 2 wr2 b3 wr.heap.size qv mv cv zs) ∧ (Ow Question.cells 3 99 wr2 w1.heap.size w2.heap.size r13_1 r13_2 r13_3 r13_0) ∧ (Ow i64c 1 2 wr2 w5.heap.size w6.heap.size r18_1 r18_2 r18_3 r18_0) ∧ (Ow i64c 1 2 wr2 b8 wr2.heap.size q_8 m_8 c_8 ys_8) ∧ (b8 ≤ wr2.heap.size) ∧ (w8.heap.size ≤ wr2.heap.size) ∧ (k ≤ r13_2) ∧ (m_8 = k)) (fun x_ => match x_ with | (k, q_8, m_8, c_8, ys_8, wr2) => [(0, .pointer (some ⟨b, 0, none⟩)), (3, .pointer (some ⟨b1, 0, none⟩)), (4, .slice r13_1 r13_2 r13_3), (5, .pointer (some ⟨b4, 0, none⟩)), (6, .slice r18_1 r18_2 r18_3), (7, .int .i64 nn), (8, .slice q_8 m_8 c_8), (28, .int .i64 (r13_2 : Int)), (29, .int .i64 (k : Int))]) (fun x_ => match x_ with | (k, q_8, m_8, c_8, ys_8, wr2) => wr2) (fun x_ => match x_ with | (k, q_8, m_8, c_8, ys_8, wr2) => r13_2 - k) ?_ (0, (some ⟨b8, 0, none⟩), 0, 0, [], w8) (⟨E, O_b1, O_b4, S, GV, h13_2, h18_2, G8.wide (by omega) (by omega), by omega, Nat.le_refl _, by omega, rfl⟩) ⟨rfl, rfl, rfl, rfl, rfl, rfl, rfl, rfl, rfl, trivial⟩ rfl
  intro i_ hI_ hback9
  obtain ⟨k, q_8, m_8, c_8, ys_8, wr2⟩ := i_
  obtain ⟨E, O_b1, O_b4, S, GV, h13_2, h18_2, G_8, lo_8, lz_wr2, hk, hm8⟩ := hI_
  try dsimp only
  have zr := E.size
  have lt_b1 := O_b1.lt
  have lt_b4 := O_b4.lt
  have lg_8 := G_8.len
  refine sr_ ?_
  refine oz_ (xlss rfl rfl _ rfl) rfl rfl ?_
  refine ods (fun c30 => ?_) (fun c30 => ?_)
  rotate_left
  ·
   refine ops_nil ?_
   refine run_seq ?_
   refine run_cond_f rfl ?_
   refine run_exit rfl ?_
   refine run_region ?_
   refine oz_ (xfieldAddr fo38f1 rfl) rfl rfl ?_
   refine oz_ (v := .slice qv mv cv) (xload1 Tryz.isAgg36 rfl (O_b4.cells) rfl) rfl rfl ?_
   refine vm_ rfl rfl rfl ?_
   refine obuild (cs := [.slice q_8 m_8 c_8]) (sz := 1) Tryz.underlying36 inf24 rfl rfl (by decide) rfl rfl (by simp [Value.cells]) rfl rfl rfl ?_
   intro b9 w9 e9 hb9 hz9 O9
   have E := E.trans (Mk.ofExt e9)
   replace G_8 := G_8.ext e9
   replace S := S.ext e9
   replace GV := GV.ext e9
   replace h13_2 := h13_2.ext e9
   replace h18_2 := h18_2.ext e9
   replace O_b1 := O_b1.ext e9
   replace O_b4 := O_b4.ext e9
   refine oappNT (bytes := 24) (nm := (mv + 1)) (z := (⟨ys_8, ⟨q_8, m_8, c_8⟩⟩ : X (List Int))) GV (by decide) rfl rfl elem24 (Own.sl1 (y := ((⟨ys_8, ⟨q_8, m_8, c_8⟩⟩ : X (List Int)) : X _)) O9) (by intro h; cases h) rfl (by simp [xc, cellsInt64SS, Value.oneCell']) G_8 (by omega) (by omega) (by omega) (by omega) (by omega) (by omega) (by omega) rfl  rfl rfl ?_
   intro p10 c10_ w10 m10 k10 G10
   have hz10 := m10.size
   have E := E.young m10 (by omega)
   replace S := S.off m10 (by omega)
   replace h13_2 := (by first | exact h13_2.off m10 (by omega) | exact h13_2.offP GV.o k10 (by decide))
   replace h18_2 := (by first | exact h18_2.off m10 (by omega) | exact h18_2.offP GV.o k10 (by decide))
   replace O_b1 := (by first | exact m10.own O_b1 (by omega) | exact k10.off_own O_b1 (GV.o.neT O_b1 (by decide)))
   replace O_b4 := (by first | exact m10.own O_b4 (by omega) | exact k10.off_own O_b4 (GV.o.neT O_b4 (by decide)))
   refine oz_ (xfieldAddr fo38f1 rfl) rfl rfl ?_
   refine ostore1 Tryz.sizeOf36 rfl rfl O_b4 (by simp) rfl rfl ?_
   intro w11 on11 O11
   have hz11 := on11.size
   have E : Mk b (b + 1) w w11 := by first | exact E.trans (Mk.ofOnly on11 (by omega) (by omega)) | exact E.young (Mk.ofOnly on11 (Nat.le_refl _) (Nat.lt_succ_self _)) (by omega)
   replace S := S.off (Mk.ofOnly on11 (Nat.le_refl _) (Nat.lt_succ_self _)) (by omega)
   replace h13_2 := h13_2.only on11 (by omega)
   replace h18_2 := h18_2.only on11 (by omega)
   replace G10 := G10.onlyT O_b4 (by decide) on11
   replace O_b1 := on11.own O_b1 (by omega)
   replace O11 : Own w11 b4 [.int .i64 0, .slice p10 (mv + 1) c10_] 38 := O11
   refine ops_nil ?_
   refine run_inBlock ?_
   refine run_region ?_
   refine vm_ rfl rfl rfl ?_
   refine oz_ (xsub rfl rfl (by unfold I64; omega)) rfl rfl ?_
   refine vn_ rfl rfl rfl ?_
   refine run_sub ?_ (hback5 (nn - 1, p10, (mv + 1), c10_, (zs ++ [(⟨ys_8, ⟨q_8, m_8, c_8⟩⟩ : X (List Int))]), w11) (⟨E, O_b1, O11, S, G10.wide (by omega) (by omega), h13_2, h18_2, by omega, by omega, by omega⟩) (by first | omega | (dsimp only; omega)))
   exact ⟨rfl, rfl, rfl, rfl, rfl, rfl, trivial⟩
  refine ops_nil ?_
  refine run_seq ?_
  refine run_cond_t rfl ?_
  refine run_skip ?_
  refine run_seq ?_
  refine run_block ?_
  refine sr_ ?_
  refine vm_ rfl rfl rfl ?_
  refine vn_ rfl rfl rfl ?_
  refine sr_ ?_
  refine vn_ rfl rfl rfl ?_
  refine run_seq ?_
  refine sr_ ?_
  refine vm_ rfl rfl rfl ?_
  refine vm_ rfl rfl rfl ?_
  refine oz_ (xlen Tryz.underlying24 rfl) rfl rfl ?_
  refine oz_ (xlss rfl rfl _ rfl) rfl rfl ?_
  refine ods (fun c35 => ?_) (fun c35 => ?_)
  rotate_left
  ·
   refine cf_ rfl ?_
   refine run_seq ?_
   refine sr_ ?_
   refine vm_ rfl rfl rfl ?_
   refine oc (xcall Tryz.call60 rfl) rfl rfl rfl (l01Next_ok b cb (6) _ S) ?_
   rintro _ w9 ⟨r41_0, rfl, h41_0, h41_1, m9, S9⟩
   have z9 := m9.size
   have E := E.trans m9
   replace G_8 := G_8.off m9 (by omega)
   replace GV := GV.off m9 (by omega)
   replace h13_2 := h13_2.off m9 (by omega)
   replace h18_2 := h18_2.off m9 (by omega)
   replace O_b1 := m9.own O_b1 (by omega)
   replace O_b4 := m9.own O_b4 (by omega)
   replace S := S9
   refine oz_ (xeql rfl rfl _ rfl) rfl rfl ?_
   refine ods (fun c42 => ?_) (fun c42 => ?_)
   rotate_left
   ·
    refine cf_ rfl ?_
    refine run_region ?_
    refine vm_ rfl rfl rfl ?_
    refine vm_ rfl rfl rfl ?_
    refine obuild (cs := [.int .i64 0]) (sz := 1) Tryz.underlying24 inf2 rfl rfl (by decide) rfl rfl (by simp [Value.cells]) rfl rfl rfl ?_
    intro b10 w10 e10 hb10 hz10 O10
    have E := E.trans (Mk.ofExt e10)
    replace G_8 := G_8.ext e10
    replace S := S.ext e10
    replace GV := GV.ext e10
    replace h13_2 := h13_2.ext e10
    replace h18_2 := h18_2.ext e10
    replace O_b1 := O_b1.ext e10
    replace O_b4 := O_b4.ext e10
    refine oappT (bytes := 8) (nm := (m_8 + 1)) G_8 rfl rfl elem2 (Own.sl1 (y := (0)) O10) (by intro h; cases h) (by intro y hy; rfl) (by intro y hy u hu; rw [List.mem_singleton] at hy; subst hy; revert u; simp [Value.oneCell', i64c]) (by omega) (by omega) (by omega) (by omega) rfl rfl ?_
    intro p11 c11_ w11 m11 k11 G11
    have hz11 := m11.size
    have E := E.young m11 (by omega)
    replace S := S.off m11 (by omega)
    replace GV := (by first | exact GV.off m11 (by omega) | exact GV.offP G_8 k11 (by decide))
    replace h13_2 := (by first | exact h13_2.off m11 (by omega) | exact h13_2.offP G_8 k11 (by decide))
    replace h18_2 := (by first | exact h18_2.off m11 (by omega) | exact h18_2.offP G_8 k11 (by decide))
    replace O_b1 := (by first | exact m11.own O_b1 (by omega) | exact k11.off_own O_b1 (G_8.neT O_b1 (by decide)))
    replace O_b4 := (by first | exact m11.own O_b4 (by omega) | exact k11.off_own O_b4 (G_8.neT O_b4 (by decide)))
    refine vn_ rfl rfl rfl ?_
    refine run_inBlock ?_
    refine run_region ?_
    refine oz_ (xadd rfl rfl (by unfold I64; omega)) rfl rfl ?_
    refine vm_ rfl rfl rfl ?_
    refine ops_nil ?_
    refine run_sub ?_ (hback9 (k + 1, p11, (m_8 + 1), c11_, _, w11) (⟨E, O_b1, O_b4, S, GV, h13_2, h18_2, G11.wide (by omega) (by omega), by omega, by omega, by omega, by omega⟩) (by first | omega | (dsimp only; omega)))
    exact ⟨rfl, rfl, rfl, rfl, rfl, rfl, rfl, rfl, rfl, trivial⟩
   refine ct_ rfl ?_
   refine run_region ?_
   refine vm_ rfl rfl rfl ?_
   refine obuild (cs := [.int .i64 0, .int .i64 1, .int .i64 (-1)]) (sz := 1) Tryz.underlying24 inf2 rfl rfl (by decide) rfl rfl (by simp [Value.cells]) rfl rfl rfl ?_
   intro b10 w10 e10 hb10 hz10 O10
   have E := E.trans (Mk.ofExt e10)
   replace G_8 := G_8.ext e10
   replace S := S.ext e10
   replace GV := GV.ext e10
   replace h13_2 := h13_2.ext e10
   replace h18_2 := h18_2.ext e10
   replace O_b1 := O_b1.ext e10
   replace O_b4 := O_b4.ext e10
   have G10 : Ow i64c 1 2 w10 b10 (b10 + 1) (some ⟨b10, 0, none⟩) 3 3 ([0, 1, (-1)] : List Int) := Own.ow (by simpa [i64c] using O10) rfl (by omega) (Nat.le_refl _) (by omega) (by intro x hx; rfl)
   refine oc (xcall Tryz.call61 rfl) rfl rfl rfl (l01Pick_ok b cb _ _ _ ([0, 1, (-1)] : List Int) 1 _ S (G10.sl) (by decide) (by omega) (by simp only [pb, Option.getD_some]; omega)) ?_
   rintro _ w11 ⟨r45_0, rfl, h45_0, m11, S11⟩
   have z11 := m11.size
   have E := E.trans m11
   replace G_8 := G_8.off m11 (by omega)
   replace GV := GV.off m11 (by omega)
   replace h13_2 := h13_2.off m11 (by omega)
   replace h18_2 := h18_2.off m11 (by omega)
   replace O_b1 := m11.own O_b1 (by omega)
   replace O_b4 := m11.own O_b4 (by omega)
   replace S := S11
   refine vn_ rfl rfl rfl ?_
   refine run_region ?_
   refine vm_ rfl rfl rfl ?_
   refine vm_ rfl rfl rfl ?_
   refine obuild (cs := [.int .i64 r45_0]) (sz := 1) Tryz.underlying24 inf2 rfl rfl (by decide) rfl rfl (by simp [Value.cells]) rfl rfl rfl ?_
   intro b12 w12 e12 hb12 hz12 O12
   have E := E.trans (Mk.ofExt e12)
   replace G_8 := G_8.ext e12
   replace S := S.ext e12
   replace GV := GV.ext e12
   replace h13_2 := h13_2.ext e12
   replace h18_2 := h18_2.ext e12
   replace O_b1 := O_b1.ext e12
   replace O_b4 := O_b4.ext e12
   refine oappT (bytes := 8) (nm := (m_8 + 1)) G_8 rfl rfl elem2 (Own.sl1 (y := (r45_0)) O12) (by intro h; cases h) (by intro y hy; rfl) (by intro y hy u hu; rw [List.mem_singleton] at hy; subst hy; revert u; simp [Value.oneCell', i64c]) (by omega) (by omega) (by omega) (by omega) rfl rfl ?_
   intro p13 c13_ w13 m13 k13 G13
   have hz13 := m13.size
   have E := E.young m13 (by omega)
   replace S := S.off m13 (by omega)
   replace GV := (by first | exact GV.off m13 (by omega) | exact GV.offP G_8 k13 (by decide))
   replace h13_2 := (by first | exact h13_2.off m13 (by omega) | exact h13_2.offP G_8 k13 (by decide))
   replace h18_2 := (by first | exact h18_2.off m13 (by omega) | exact h18_2.offP G_8 k13 (by decide))
   replace O_b1 := (by first | exact m13.own O_b1 (by omega) | exact k13.off_own O_b1 (G_8.neT O_b1 (by decide)))
   replace O_b4 := (by first | exact m13.own O_b4 (by omega) | exact k13.off_own O_b4 (G_8.neT O_b4 (by decide)))
   refine vn_ rfl rfl rfl ?_
   refine run_inBlock ?_
   refine run_region ?_
   refine oz_ (xadd rfl rfl (by unfold I64; omega)) rfl rfl ?_
   refine vm_ rfl rfl rfl ?_
   refine ops_nil ?_
   refine run_sub ?_ (hback9 (k + 1, p13, (m_8 + 1), c13_, _, w13) (⟨E, O_b1, O_b4, S, GV, h13_2, h18_2, G13.wide (by omega) (by omega), by omega, by omega, by omega, by omega⟩) (by first | omega | (dsimp only; omega)))
   exact ⟨rfl, rfl, rfl, rfl, rfl, rfl, rfl, rfl, rfl, trivial⟩
  refine ct_ rfl ?_
  refine run_region ?_
  refine vm_ rfl rfl rfl ?_
  refine vm_ rfl rfl rfl ?_
  have h38 := (h18_2.sl).at (i := k) (by omega)
  refine oz_ (xindexN (i := k) Tryz.underlying24 Tryz.sizeOf2 rfl rfl rfl ((h18_2.sl).p (i := k) (by omega)) (by have := (h18_2.sl).len; omega)) rfl rfl ?_
  refine oz_ (v := .int .i64 r18_0[k]) (xloadz Tryz.isAgg2 rfl (h38) rfl) rfl rfl ?_
  refine vn_ rfl rfl rfl ?_
  refine run_seq ?_
  refine sr_ ?_
  refine vm_ rfl rfl rfl ?_
  refine oc (xcall Tryz.call60 rfl) rfl rfl rfl (l01Next_ok b cb (6) _ S) ?_
  rintro _ w9 ⟨r41_0, rfl, h41_0, h41_1, m9, S9⟩
  have z9 := m9.size
  have E := E.trans m9
  replace G_8 := G_8.off m9 (by omega)
  replace GV := GV.off m9 (by omega)
  replace h13_2 := h13_2.off m9 (by omega)
  replace h18_2 := h18_2.off m9 (by omega)
  replace O_b1 := m9.own O_b1 (by omega)
  replace O_b4 := m9.own O_b4 (by omega)
  replace S := S9
  refine oz_ (xeql rfl rfl _ rfl) rfl rfl ?_
  refine ods (fun c42 => ?_) (fun c42 => ?_)
  rotate_left
  ·
   refine cf_ rfl ?_
   refine run_region ?_
   refine vm_ rfl rfl rfl ?_
   refine vm_ rfl rfl rfl ?_
   refine obuild (cs := [.int .i64 r18_0[k]]) (sz := 1) Tryz.underlying24 inf2 rfl rfl (by decide) rfl rfl (by simp [Value.cells]) rfl rfl rfl ?_
   intro b10 w10 e10 hb10 hz10 O10
   have E := E.trans (Mk.ofExt e10)
   replace G_8 := G_8.ext e10
   replace S := S.ext e10
   replace GV := GV.ext e10
   replace h13_2 := h13_2.ext e10
   replace h18_2 := h18_2.ext e10
   replace O_b1 := O_b1.ext e10
   replace O_b4 := O_b4.ext e10
   refine oappT (bytes := 8) (nm := (m_8 + 1)) G_8 rfl rfl elem2 (Own.sl1 (y := (r18_0[k])) O10) (by intro h; cases h) (by intro y hy; rfl) (by intro y hy u hu; rw [List.mem_singleton] at hy; subst hy; revert u; simp [Value.oneCell', i64c]) (by omega) (by omega) (by omega) (by omega) rfl rfl ?_
   intro p11 c11_ w11 m11 k11 G11
   have hz11 := m11.size
   have E := E.young m11 (by omega)
   replace S := S.off m11 (by omega)
   replace GV := (by first | exact GV.off m11 (by omega) | exact GV.offP G_8 k11 (by decide))
   replace h13_2 := (by first | exact h13_2.off m11 (by omega) | exact h13_2.offP G_8 k11 (by decide))
   replace h18_2 := (by first | exact h18_2.off m11 (by omega) | exact h18_2.offP G_8 k11 (by decide))
   replace O_b1 := (by first | exact m11.own O_b1 (by omega) | exact k11.off_own O_b1 (G_8.neT O_b1 (by decide)))
   replace O_b4 := (by first | exact m11.own O_b4 (by omega) | exact k11.off_own O_b4 (G_8.neT O_b4 (by decide)))
   refine vn_ rfl rfl rfl ?_
   refine run_inBlock ?_
   refine run_region ?_
   refine oz_ (xadd rfl rfl (by unfold I64; omega)) rfl rfl ?_
   refine vm_ rfl rfl rfl ?_
   refine ops_nil ?_
   refine run_sub ?_ (hback9 (k + 1, p11, (m_8 + 1), c11_, _, w11) (⟨E, O_b1, O_b4, S, GV, h13_2, h18_2, G11.wide (by omega) (by omega), by omega, by omega, by omega, by omega⟩) (by first | omega | (dsimp only; omega)))
   exact ⟨rfl, rfl, rfl, rfl, rfl, rfl, rfl, rfl, rfl, trivial⟩
  refine ct_ rfl ?_
  refine run_region ?_
  refine vm_ rfl rfl rfl ?_
  refine obuild (cs := [.int .i64 0, .int .i64 1, .int .i64 (-1)]) (sz := 1) Tryz.underlying24 inf2 rfl rfl (by decide) rfl rfl (by simp [Value.cells]) rfl rfl rfl ?_
  intro b10 w10 e10 hb10 hz10 O10
  have E := E.trans (Mk.ofExt e10)
  replace G_8 := G_8.ext e10
  replace S := S.ext e10
  replace GV := GV.ext e10
  replace h13_2 := h13_2.ext e10
  replace h18_2 := h18_2.ext e10
  replace O_b1 := O_b1.ext e10
  replace O_b4 := O_b4.ext e10
  have G10 : Ow i64c 1 2 w10 b10 (b10 + 1) (some ⟨b10, 0, none⟩) 3 3 ([0, 1, (-1)] : List Int) := Own.ow (by simpa [i64c] using O10) rfl (by omega) (Nat.le_refl _) (by omega) (by intro x hx; rfl)
  refine oc (xcall Tryz.call61 rfl) rfl rfl rfl (l01Pick_ok b cb _ _ _ ([0, 1, (-1)] : List Int) 1 _ S (G10.sl) (by decide) (by omega) (by simp only [pb, Option.getD_some]; omega)) ?_
  rintro _ w11 ⟨r45_0, rfl, h45_0, m11, S11⟩
  have z11 := m11.size
  have E := E.trans m11
  replace G_8 := G_8.off m11 (by omega)
  replace GV := GV.off m11 (by omega)
  replace h13_2 := h13_2.off m11 (by omega)
  replace h18_2 := h18_2.off m11 (by omega)
  replace O_b1 := m11.own O_b1 (by omega)
  replace O_b4 := m11.own O_b4 (by omega)
  replace S := S11
  refine vn_ rfl rfl rfl ?_
  refine run_region ?_
  refine vm_ rfl rfl rfl ?_
  refine vm_ rfl rfl rfl ?_
  refine obuild (cs := [.int .i64 r45_0]) (sz := 1) Tryz.underlying24 inf2 rfl rfl (by decide) rfl rfl (by simp [Value.cells]) rfl rfl rfl ?_
  intro b12 w12 e12 hb12 hz12 O12
  have E := E.trans (Mk.ofExt e12)
  replace G_8 := G_8.ext e12
  replace S := S.ext e12
  replace GV := GV.ext e12
  replace h13_2 := h13_2.ext e12
  replace h18_2 := h18_2.ext e12
  replace O_b1 := O_b1.ext e12
  replace O_b4 := O_b4.ext e12
  refine oappT (bytes := 8) (nm := (m_8 + 1)) G_8 rfl rfl elem2 (Own.sl1 (y := (r45_0)) O12) (by intro h; cases h) (by intro y hy; rfl) (by intro y hy u hu; rw [List.mem_singleton] at hy; subst hy; revert u; simp [Value.oneCell', i64c]) (by omega) (by omega) (by omega) (by omega) rfl rfl ?_
  intro p13 c13_ w13 m13 k13 G13
  have hz13 := m13.size
  have E := E.young m13 (by omega)
  replace S := S.off m13 (by omega)
  replace GV := (by first | exact GV.off m13 (by omega) | exact GV.offP G_8 k13 (by decide))
  replace h13_2 := (by first | exact h13_2.off m13 (by omega) | exact h13_2.offP G_8 k13 (by decide))
  replace h18_2 := (by first | exact h18_2.off m13 (by omega) | exact h18_2.offP G_8 k13 (by decide))
  replace O_b1 := (by first | exact m13.own O_b1 (by omega) | exact k13.off_own O_b1 (G_8.neT O_b1 (by decide)))
  replace O_b4 := (by first | exact m13.own O_b4 (by omega) | exact k13.off_own O_b4 (G_8.neT O_b4 (by decide)))
  refine vn_ rfl rfl rfl ?_
  refine run_inBlock ?_
  refine run_region ?_
  refine oz_ (xadd rfl rfl (by unfold I64; omega)) rfl rfl ?_
  refine vm_ rfl rfl rfl ?_
  refine ops_nil ?_
  refine run_sub ?_ (hback9 (k + 1, p13, (m_8 + 1), c13_, _, w13) (⟨E, O_b1, O_b4, S, GV, h13_2, h18_2, G13.wide (by omega) (by omega), by omega, by omega, by omega, by omega⟩) (by first | omega | (dsimp only; omega)))
  exact ⟨rfl, rfl, rfl, rfl, rfl, rfl, rfl, rfl, rfl, trivial⟩
 refine cg_ rfl ?_
 refine run_exit rfl ?_
 refine sr_ ?_
 refine oz_ (xfieldAddr fo38f1 rfl) rfl rfl ?_
 refine oz_ (v := .slice qv mv cv) (xload1 Tryz.isAgg36 rfl (O_b4.cells) rfl) rfl rfl ?_
 refine oz_ (xlen Tryz.underlying36 rfl) rfl rfl ?_
 refine vn_ rfl rfl rfl ?_
 refine sr_ ?_
 refine vm_ rfl rfl rfl ?_
 refine oz_ (xquo rfl rfl (by omega) (by omega) (by unfold I64; omega)) rfl rfl ?_
 refine oz_ (xadd rfl rfl (by unfold I64; omega)) rfl rfl ?_
 refine vm_ rfl rfl rfl ?_
 refine vm_ rfl rfl rfl ?_
 refine vm_ rfl rfl rfl ?_
 refine oz_ (xquo rfl rfl (by omega) (by omega) (by unfold I64; omega)) rfl rfl ?_
 refine oz_ (xsub rfl rfl (by unfold I64; omega)) rfl rfl ?_
 refine oc (xcall Tryz.call60 rfl) rfl rfl rfl (l01Next_ok b cb (((mv : Int) - ((mv : Int) / 2))) _ S) ?_
 rintro _ w8 ⟨r68_0, rfl, h68_0, h68_1, m8, S8⟩
 have z8 := m8.size
 have E := E.trans m8
 replace GV := GV.off m8 (by omega)
 replace h13_2 := h13_2.off m8 (by omega)
 replace O_b1 := m8.own O_b1 (by omega)
 replace O_b4 := m8.own O_b4 (by omega)
 replace S := S8
 refine oz_ (xadd rfl rfl (by unfold I64; omega)) rfl rfl ?_
 refine oz_ (xfieldAddr fo38f0 rfl) rfl rfl ?_
 refine ostore1 Tryz.sizeOf2 rfl rfl O_b4 (by simp) rfl rfl ?_
 intro w9 on9 O9
 have hz9 := on9.size
 have E : Mk b (b + 1) w w9 := by first | exact E.trans (Mk.ofOnly on9 (by omega) (by omega)) | exact E.young (Mk.ofOnly on9 (Nat.le_refl _) (Nat.lt_succ_self _)) (by omega)
 replace S := S.off (Mk.ofOnly on9 (Nat.le_refl _) (Nat.lt_succ_self _)) (by omega)
 replace GV := GV.onlyT O_b4 (by decide) on9
 replace h13_2 := h13_2.only on9 (by omega)
 replace O_b1 := on9.own O_b1 (by omega)
 replace O9 : Own w9 b4 [.int .i64 ((((mv : Int) / 2) + 1) + r68_0), .slice qv mv cv] 38 := O9
 refine ops_nil ?_
 refine run_seq ?_
 refine sr_ ?_
 refine vm_ rfl rfl rfl ?_
 refine oc (xcall Tryz.call60 rfl) rfl rfl rfl (l01Next_ok b cb (40) _ S) ?_
 rintro _ w10 ⟨r72_0, rfl, h72_0, h72_1, m10, S10⟩
 have z10 := m10.size
 have E := E.trans m10
 replace GV := GV.off m10 (by omega)
 replace h13_2 := h13_2.off m10 (by omega)
 replace O_b1 := m10.own O_b1 (by omega)
 replace O9 := m10.own O9 (by omega)
 replace S := S10
 refine ops_nil ?_
 refine run_block ?_
 refine sr_ ?_
 refine oz_ (xeql rfl rfl _ rfl) rfl rfl ?_
 refine ods (fun c74 => ?_) (fun c74 => ?_)
 ·
  refine vn_ rfl rfl rfl ?_
  refine run_cond_t rfl ?_
  refine run_region ?_
  refine vm_ rfl rfl rfl ?_
  refine vm_ rfl rfl rfl ?_
  refine oz_ (xquo rfl rfl (by omega) (by omega) (by unfold I64; omega)) rfl rfl ?_
  refine vm_ rfl rfl rfl ?_
  refine oz_ (xadd rfl rfl (by unfold I64; omega)) rfl rfl ?_
  refine obuild (cs := [.int .i64 ((mv : Int) / 2), .int .i64 ((mv : Int) + 1)]) (sz := 1) Tryz.underlying24 inf2 rfl rfl (by decide) rfl rfl (by simp [Value.cells]) rfl rfl rfl ?_
  intro b11 w11 e11 hb11 hz11 O11
  have E := E.trans (Mk.ofExt e11)
  replace S := S.ext e11
  replace GV := GV.ext e11
  replace h13_2 := h13_2.ext e11
  replace O_b1 := O_b1.ext e11
  replace O9 := O9.ext e11
  have G11 : Ow i64c 1 2 w11 b11 (b11 + 1) (some ⟨b11, 0, none⟩) 2 2 ([(mv : Int) / 2, (mv : Int) + 1] : List Int) := Own.ow (by simpa [i64c] using O11) rfl (by omega) (Nat.le_refl _) (by omega) (by intro x hx; rfl)
  refine oc (xcall Tryz.call61 rfl) rfl rfl rfl (l01Pick_ok b cb _ _ _ [(mv : Int) / 2, (mv : Int) + 1] 20 _ S (G11.sl) (by intro x hx; simp only [List.mem_cons, List.not_mem_nil, or_false] at hx; omega) (by omega) (by simp only [pb, Option.getD_some]; omega)) ?_
  rintro _ w12 ⟨r81_0, rfl, h81_0, m12, S12⟩
  have z12 := m12.size
  have E := E.trans m12
  replace GV := GV.off m12 (by omega)
  replace h13_2 := h13_2.off m12 (by omega)
  replace O_b1 := m12.own O_b1 (by omega)
  replace O9 := m12.own O9 (by omega)
  replace S := S12
  refine oz_ (xfieldAddr fo38f0 rfl) rfl rfl ?_
  refine ostore1 Tryz.sizeOf2 rfl rfl O9 (by simp) rfl rfl ?_
  intro w13 on13 O13
  have hz13 := on13.size
  have E : Mk b (b + 1) w w13 := by first | exact E.trans (Mk.ofOnly on13 (by omega) (by omega)) | exact E.young (Mk.ofOnly on13 (Nat.le_refl _) (Nat.lt_succ_self _)) (by omega)
  replace S := S.off (Mk.ofOnly on13 (Nat.le_refl _) (Nat.lt_succ_self _)) (by omega)
  replace GV := GV.onlyT O9 (by decide) on13
  replace h13_2 := h13_2.only on13 (by omega)
  replace O_b1 := on13.own O_b1 (by omega)
  replace O13 : Own w13 b4 [.int .i64 r81_0, .slice qv mv cv] 38 := O13
  refine ops_nil ?_
  refine run_inBlock ?_
  refine run_seq ?_
  refine run_tail 3 (by kernel_rfl) (by kernel_rfl) ?_
  intro w14 e14
  have z14 := e14.size
  have E := E.trans (Mk.ofExt e14)
  replace S := S.ext e14
  replace GV := GV.ext e14
  replace h13_2 := h13_2.ext e14
  replace O_b1 := O_b1.ext e14
  replace O13 := O13.ext e14
  refine stv (xmove rfl) rfl rfl rfl ?_
  refine stv (v := .agg #[.int .i64 r81_0, .slice qv mv cv]) (xloadN Tryz.isAgg38 Tryz.sizeOf38 rfl (O13.cells) rfl) rfl rfl rfl ?_
  refine stv (xassign rfl) rfl rfl rfl ?_
  refine st_storeN (vs := [.int .i64 r81_0, .slice qv mv cv]) Tryz.sizeOf38 rfl rfl O_b1 rfl (by simp) (by simp [Value.oneCell']) rfl ?_
  intro w15 on15 O15
  have hz15 := on15.size
  have E : Mk b (b + 1) w w15 := by first | exact E.trans (Mk.ofOnly on15 (by omega) (by omega)) | exact E.young (Mk.ofOnly on15 (Nat.le_refl _) (Nat.lt_succ_self _)) (by omega)
  replace S := S.off (Mk.ofOnly on15 (Nat.le_refl _) (Nat.lt_succ_self _)) (by omega)
  replace GV := GV.onlyT O_b1 (by decide) on15
  replace h13_2 := h13_2.only on15 (by omega)
  replace O15 : Own w15 b1 [.int .i64 r81_0, .slice qv mv cv] 38 := O15
  refine run_ret Tryz.func24 (rescT rfl rfl rfl (run_loadVar_cells Tryz.isAgg38 Tryz.sizeOf38 O15.cells rfl)) ?_
  exact ⟨_, rfl, _, _, _, _, _, _, _, _, _, rfl, (fun x m => Nat.le_trans (h13_0 x m) (by decide)), by omega, h13_2.slF (by omega) (by omega), (GV.wide (by omega) (by omega)).on, by omega, E, S⟩
 refine vn_ rfl rfl rfl ?_
 refine run_cond_f rfl ?_
 refine sr_ ?_
 refine oz_ (xeql rfl rfl _ rfl) rfl rfl ?_
 refine ods (fun c84 => ?_) (fun c84 => ?_)
 ·
  refine vn_ rfl rfl rfl ?_
  refine run_cond_t rfl ?_
  refine run_region ?_
  have lGV := GV.o.len
  refine oz_ (xfieldAddr fo38f1 rfl) rfl rfl ?_
  refine oz_ (v := .slice qv mv cv) (xload1 Tryz.isAgg36 rfl (O9.cells) rfl) rfl rfl ?_
  refine obuild (cs := []) (sz := 1) Tryz.underlying24 inf2 rfl rfl (by decide) rfl rfl (by simp [Value.cells]) rfl rfl rfl ?_
  intro b11 w11 e11 hb11 hz11 O11
  have E := E.trans (Mk.ofExt e11)
  replace S := S.ext e11
  replace GV := GV.ext e11
  replace h13_2 := h13_2.ext e11
  replace O_b1 := O_b1.ext e11
  replace O9 := O9.ext e11
  have G11 : Ow i64c 1 2 w11 b11 (b11 + 1) (some ⟨b11, 0, none⟩) 0 0 ([] : List Int) := Own.ow (by simpa [i64c] using O11) rfl (by omega) (Nat.le_refl _) (by omega) (by intro x hx; rfl)
  have h88 := (GV.o.sl).at (i := 0) (by omega)
  refine oz_ (xindexN (i := 0) Tryz.underlying36 Tryz.sizeOf24 rfl rfl rfl ((GV.o.sl).p (i := 0) (by omega)) (by have := (GV.o.sl).len; omega)) rfl rfl ?_
  refine ostoreNI (i := 0) (off := 0) (y := (⟨[], ⟨(some ⟨b11, 0, none⟩), 0, 0⟩⟩ : X (List Int))) Tryz.sizeOf24 GV (by decide) (by omega) rfl rfl (by decide) rfl rfl G11 (by omega) (by omega) (by omega) (by omega) rfl ?_
  intro w12 m12 k12 g12
  have z12 := m12.size
  have E := E.young m12 (by omega)
  replace S := S.off m12 (by omega)
  replace h13_2 := (by first | exact h13_2.off m12 (by omega) | exact h13_2.offP GV.o k12 (by decide))
  clear G11
  replace O_b1 := (by first | exact m12.own O_b1 (by omega) | exact k12.off_own O_b1 (GV.o.neT O_b1 (by decide)))
  replace O9 := (by first | exact m12.own O9 (by omega) | exact k12.off_own O9 (GV.o.neT O9 (by decide)))
  replace GV := g12
  refine ops_nil ?_
  refine run_inBlock ?_
  refine run_seq ?_
  refine run_tail 3 (by kernel_rfl) (by kernel_rfl) ?_
  intro w13 e13
  have z13 := e13.size
  have E := E.trans (Mk.ofExt e13)
  replace S := S.ext e13
  replace GV := GV.ext e13
  replace h13_2 := h13_2.ext e13
  replace O_b1 := O_b1.ext e13
  replace O9 := O9.ext e13
  refine stv (xmove rfl) rfl rfl rfl ?_
  refine stv (v := .agg #[.int .i64 ((((mv : Int) / 2) + 1) + r68_0), .slice qv mv cv]) (xloadN Tryz.isAgg38 Tryz.sizeOf38 rfl (O9.cells) rfl) rfl rfl rfl ?_
  refine stv (xassign rfl) rfl rfl rfl ?_
  refine st_storeN (vs := [.int .i64 ((((mv : Int) / 2) + 1) + r68_0), .slice qv mv cv]) Tryz.sizeOf38 rfl rfl O_b1 rfl (by simp) (by simp [Value.oneCell']) rfl ?_
  intro w14 on14 O14
  have hz14 := on14.size
  have E : Mk b (b + 1) w w14 := by first | exact E.trans (Mk.ofOnly on14 (by omega) (by omega)) | exact E.young (Mk.ofOnly on14 (Nat.le_refl _) (Nat.lt_succ_self _)) (by omega)
  replace S := S.off (Mk.ofOnly on14 (Nat.le_refl _) (Nat.lt_succ_self _)) (by omega)
  replace GV := GV.onlyT O_b1 (by decide) on14
  replace h13_2 := h13_2.only on14 (by omega)
  replace O14 : Own w14 b1 [.int .i64 ((((mv : Int) / 2) + 1) + r68_0), .slice qv mv cv] 38 := O14
  refine run_ret Tryz.func24 (rescT rfl rfl rfl (run_loadVar_cells Tryz.isAgg38 Tryz.sizeOf38 O14.cells rfl)) ?_
  exact ⟨_, rfl, _, _, _, _, _, _, _, _, _, rfl, (fun x m => Nat.le_trans (h13_0 x m) (by decide)), by omega, h13_2.slF (by omega) (by omega), (GV.wide (by omega) (by omega)).on, by omega, E, S⟩
 refine vn_ rfl rfl rfl ?_
 refine run_cond_f rfl ?_
 refine sr_ ?_
 refine oz_ (xeql rfl rfl _ rfl) rfl rfl ?_
 refine ods (fun c90 => ?_) (fun c90 => ?_)
 rotate_left
 ·
  refine vn_ rfl rfl rfl ?_
  refine run_cond_f rfl ?_
  refine sr_ ?_
  refine oz_ (xeql rfl rfl _ rfl) rfl rfl ?_
  refine ods (fun c110 => ?_) (fun c110 => ?_)
  rotate_left
  ·
   refine vn_ rfl rfl rfl ?_
   refine run_cond_f rfl ?_
   refine run_skip ?_
   refine run_inBlock ?_
   refine run_seq ?_
   refine run_tail 3 (by kernel_rfl) (by kernel_rfl) ?_
   intro w11 e11
   have z11 := e11.size
   have E := E.trans (Mk.ofExt e11)
   replace S := S.ext e11
   replace GV := GV.ext e11
   replace h13_2 := h13_2.ext e11
   replace O_b1 := O_b1.ext e11
   replace O9 := O9.ext e11
   refine stv (xmove rfl) rfl rfl rfl ?_
   refine stv (v := .agg #[.int .i64 ((((mv : Int) / 2) + 1) + r68_0), .slice qv mv cv]) (xloadN Tryz.isAgg38 Tryz.sizeOf38 rfl (O9.cells) rfl) rfl rfl rfl ?_
   refine stv (xassign rfl) rfl rfl rfl ?_
   refine st_storeN (vs := [.int .i64 ((((mv : Int) / 2) + 1) + r68_0), .slice qv mv cv]) Tryz.sizeOf38 rfl rfl O_b1 rfl (by simp) (by simp [Value.oneCell']) rfl ?_
   intro w12 on12 O12
   have hz12 := on12.size
   have E : Mk b (b + 1) w w12 := by first | exact E.trans (Mk.ofOnly on12 (by omega) (by omega)) | exact E.young (Mk.ofOnly on12 (Nat.le_refl _) (Nat.lt_succ_self _)) (by omega)
   replace S := S.off (Mk.ofOnly on12 (Nat.le_refl _) (Nat.lt_succ_self _)) (by omega)
   replace GV := GV.onlyT O_b1 (by decide) on12
   replace h13_2 := h13_2.only on12 (by omega)
   replace O12 : Own w12 b1 [.int .i64 ((((mv : Int) / 2) + 1) + r68_0), .slice qv mv cv] 38 := O12
   refine run_ret Tryz.func24 (rescT rfl rfl rfl (run_loadVar_cells Tryz.isAgg38 Tryz.sizeOf38 O12.cells rfl)) ?_
   exact ⟨_, rfl, _, _, _, _, _, _, _, _, _, rfl, (fun x m => Nat.le_trans (h13_0 x m) (by decide)), by omega, h13_2.slF (by omega) (by omega), (GV.wide (by omega) (by omega)).on, by omega, E, S⟩
  refine vn_ rfl rfl rfl ?_
  refine run_cond_t rfl ?_
  refine run_region ?_
  refine vm_ rfl rfl rfl ?_
  refine oc (xcall Tryz.call63 rfl) rfl rfl rfl (l26Draw_ok b cb _ S) ?_
  rintro _ w11 ⟨r112_0, r112_1, r112_2, r112_3, rfl, h112_0, h112_1, h112_2, m11, S11⟩
  have z11 := m11.size
  have E := E.trans m11
  replace GV := GV.off m11 (by omega)
  replace O_b1 := m11.own O_b1 (by omega)
  replace O9 := m11.own O9 (by omega)
  replace S := S11
  refine vn_ rfl rfl rfl ?_
  refine run_inBlock ?_
  refine run_seq ?_
  refine run_tail 3 (by kernel_rfl) (by kernel_rfl) ?_
  intro w12 e12
  have z12 := e12.size
  have E := E.trans (Mk.ofExt e12)
  replace S := S.ext e12
  replace GV := GV.ext e12
  replace h112_2 := h112_2.ext e12
  replace O_b1 := O_b1.ext e12
  replace O9 := O9.ext e12
  refine stv (xmove rfl) rfl rfl rfl ?_
  refine stv (v := .agg #[.int .i64 ((((mv : Int) / 2) + 1) + r68_0), .slice qv mv cv]) (xloadN Tryz.isAgg38 Tryz.sizeOf38 rfl (O9.cells) rfl) rfl rfl rfl ?_
  refine stv (xassign rfl) rfl rfl rfl ?_
  refine st_storeN (vs := [.int .i64 ((((mv : Int) / 2) + 1) + r68_0), .slice qv mv cv]) Tryz.sizeOf38 rfl rfl O_b1 rfl (by simp) (by simp [Value.oneCell']) rfl ?_
  intro w13 on13 O13
  have hz13 := on13.size
  have E : Mk b (b + 1) w w13 := by first | exact E.trans (Mk.ofOnly on13 (by omega) (by omega)) | exact E.young (Mk.ofOnly on13 (Nat.le_refl _) (Nat.lt_succ_self _)) (by omega)
  replace S := S.off (Mk.ofOnly on13 (Nat.le_refl _) (Nat.lt_succ_self _)) (by omega)
  replace GV := GV.onlyT O_b1 (by decide) on13
  replace h112_2 := h112_2.only on13 (by omega)
  replace O13 : Own w13 b1 [.int .i64 ((((mv : Int) / 2) + 1) + r68_0), .slice qv mv cv] 38 := O13
  refine run_ret Tryz.func24 (rescT rfl rfl rfl (run_loadVar_cells Tryz.isAgg38 Tryz.sizeOf38 O13.cells rfl)) ?_
  exact ⟨_, rfl, _, _, _, _, _, _, _, _, _, rfl, (fun x m => Nat.le_trans (h112_0 x m) (by decide)), by omega, h112_2.wide (by omega) (by omega), (GV.wide (by omega) (by omega)).on, by omega, E, S⟩
 refine vn_ rfl rfl rfl ?_
 refine run_cond_t rfl ?_
 refine run_seq ?_
 refine run_block ?_
 refine run_loop (ι := Option Addr × Nat × Nat × List (X (List Int)) × World) (fun x_ => match x_ with | (qw, mw, cw, zw, wr2) => (Mk b (b + 1) w wr2) ∧ (Own wr2 b1 ([.int .i64 0, .slice none 0 0]) 38) ∧ (Own wr2 b4 ([.int .i64 ((mv : Int) / 2 + 1 + r68_0), .slice qw mw cw]) 38) ∧ (Src wr2 b cb) ∧ (NOw cellsInt64SS 1 24 innInt64SS i64c 1 2 wr2 b3 wr2.heap.size qw mw cw zw) ∧ (Ow Question.cells 3 99 wr2 w1.heap.size w2.heap.size r13_1 r13_2 r13_3 r13_0) ∧ (w10.heap.size ≤ wr2.heap.size) ∧ (mw ≤ 13)) (fun x_ => match x_ with | (qw, mw, cw, zw, wr2) => [(0, .pointer (some ⟨b, 0, none⟩)), (3, .pointer (some ⟨b1, 0, none⟩)), (4, .slice r13_1 r13_2 r13_3), (5, .pointer (some ⟨b4, 0, none⟩))]) (fun x_ => match x_ with | (qw, mw, cw, zw, wr2) => wr2) (fun x_ => match x_ with | (qw, mw, cw, zw, wr2) => 14 - mw) ?_ (qv, mv, cv, zs, w10) (⟨E, O_b1, O9, S, GV.wide (by omega) (by omega), h13_2, Nat.le_refl _, by omega⟩) ⟨rfl, rfl, rfl, rfl, trivial⟩ rfl
 intro i_ hI_ hback27
 obtain ⟨qw, mw, cw, zw, wr2⟩ := i_
 obtain ⟨E, O_b1, O_b4, S, GW, h13_2, lz_wr2, hmw⟩ := hI_
 try dsimp only
 have zr := E.size
 have lt_b1 := O_b1.lt
 have lt_b4 := O_b4.lt
 refine run_seq ?_
 refine run_seq ?_
 refine run_rg (τ := [(0, .pointer (some ⟨b, 0, none⟩)), (3, .pointer (some ⟨b1, 0, none⟩)), (4, .slice r13_1 r13_2 r13_3), (5, .pointer (some ⟨b4, 0, none⟩))]) 7 [91, 92, 93, 94, 95, 96, 97] (fun u_ => Mk b (b + 1) wr2 u_ ∧ Src u_ b cb) (fun i_ => Mk b (b + 1)) (fun i_ v_ u_ => match i_ with | 0 => v_ = .pointer (some ⟨b4, 0 + 1, none⟩) | 1 => v_ = .slice qw mw cw | 2 => v_ = .int .i64 (mw : Int) | 3 => v_ = .pointer (some ⟨b, 0, none⟩) | 4 => ∃ (y0_ : Int), v_ = .int .i64 y0_ ∧ (0 ≤ y0_) ∧ ((y0_ < 2 ∨ y0_ = 0)) | 5 => ∃ (y0_ : Int), v_ = .int .i64 (12 + y0_) ∧ (0 ≤ y0_) ∧ ((y0_ < 2 ∨ y0_ = 0)) | 6 => ∃ (y0_ : Int), v_ = .bool (decide ((mw : Int) < (12 + y0_))) ∧ (0 ≤ y0_) ∧ ((y0_ < 2 ∨ y0_ = 0)) | _ => True) [(6, some 97)] (by kernel_rfl) (by kernel_rfl) (by kernel_rfl) (by kernel_rfl) (by kernel_rfl) (by kernel_rfl) ⟨rfl, rfl, rfl, rfl, trivial⟩ rfl (fun u_ e_ z_ => ⟨Mk.ofExt e_, S.ext e_⟩) ?_ ?_ ?_
 ·
  intro i_ j_ hi_ hj_ hij_ v_ u_ u2_ I_ I2_ r_ g_
  have zu_ := I_.1.size
  clear hi_
  rcases (by omega : j_ = 0 ∨ j_ = 1 ∨ j_ = 2 ∨ j_ = 3 ∨ j_ = 4 ∨ j_ = 5 ∨ j_ = 6) with rfl | rfl | rfl | rfl | rfl | rfl | rfl
  ·
   exact g_
  ·
   exact g_
  ·
   exact g_
  ·
   exact g_
  ·
   exact g_
  ·
   exact g_
  exact g_
 ·
  refine rga [] (by kernel_rfl) ?_ ?_
  ·
   intro u_ I_
   have zu_ := I_.1.size
   refine rg_val (xfieldAddr fo38f1 rfl) rfl I_ (Mk.refl _ _ _) rfl
  refine rga [(0, some 91)] (by kernel_rfl) ?_ ?_
  ·
   rintro u_ I_ _ rfl
   have zu_ := I_.1.size
   have OB_ := I_.1.own O_b4 (by omega)
   refine rg_val (xload1 Tryz.isAgg36 rfl (OB_.cells) rfl) rfl I_ (Mk.refl _ _ _) rfl
  refine rga [(1, some 92)] (by kernel_rfl) ?_ ?_
  ·
   rintro u_ I_ _ rfl
   have zu_ := I_.1.size
   refine rg_val (xlen Tryz.underlying36 rfl) rfl I_ (Mk.refl _ _ _) rfl
  refine rga [] (by kernel_rfl) ?_ ?_
  ·
   intro u_ I_
   have zu_ := I_.1.size
   refine rg_val (xmove rfl) rfl I_ (Mk.refl _ _ _) rfl
  refine rga [(3, some 94)] (by kernel_rfl) ?_ ?_
  ·
   rintro u_ I_ _ rfl
   have zu_ := I_.1.size
   refine rg_call (xcall Tryz.call60 rfl) rfl (l01Next_ok b cb (2) _ I_.2) ?_
   rintro _ w_ ⟨r_0, rfl, h_0, h_1, m_, S_⟩
   exact ⟨⟨I_.1.trans m_, S_⟩, m_, ⟨r_0, rfl, h_0, h_1⟩⟩
  refine rga [(4, some 95)] (by kernel_rfl) ?_ ?_
  ·
   rintro u_ I_ _ ⟨g95_0, rfl, f95_0, f95_1⟩
   have zu_ := I_.1.size
   refine rg_val (xadd rfl rfl (by unfold I64; omega)) rfl I_ (Mk.refl _ _ _) ⟨g95_0, rfl, f95_0, f95_1⟩
  refine rga [(2, some 93), (5, some 96)] (by kernel_rfl) ?_ ?_
  ·
   rintro u_ I_ _ rfl _ ⟨g96_0, rfl, f96_0, f96_1⟩
   have zu_ := I_.1.size
   refine rg_val (xlss rfl rfl _ rfl) rfl I_ (Mk.refl _ _ _) ⟨g96_0, rfl, f96_0, f96_1⟩
  exact rga_nil
 rintro w11 I_ _ ⟨g97_0, rfl, f97_0, f97_1⟩
 have m11 := I_.1
 have z11 := m11.size
 have E := E.trans m11
 replace S := I_.2
 replace GW := GW.off m11 (by omega)
 replace h13_2 := h13_2.off m11 (by omega)
 replace O_b1 := m11.own O_b1 (by omega)
 replace O_b4 := m11.own O_b4 (by omega)
 refine ops_nil ?_
 refine run_cond_s rfl (fun c97 => ?_) (fun c97 => ?_)
 ·
  replace c97 := of_decide_eq_true c97
  refine run_skip ?_
  refine run_block ?_
  have RE := E
  have RO_b1 := O_b1
  have RO_b4 := O_b4
  have hcut := cut_size (w := w11) (k := b3) (by omega)
  refine run_heldE (ext_cut (w := w11) (k := b3) (by omega)) (ι := Option Addr × Nat × List (X (List Int))) (fun x_ w' => match x_ with | (q, d, zz) => Ext (cutW w11 b3) w' ∧ w11.heap.size ≤ w'.heap.size ∧ NOw cellsInt64SS 1 24 innInt64SS i64c 1 2 w' b3 w'.heap.size q (mw + 1) d zz ∧ Own w' b4 [.int .i64 ((mv : Int) / 2 + 1 + r68_0), .slice q (mw + 1) d] 38) (fun x_ => match x_ with | (q, d, zz) => [(0, .pointer (some ⟨b, 0, none⟩)), (3, .pointer (some ⟨b1, 0, none⟩)), (4, .slice r13_1 r13_2 r13_3), (5, .pointer (some ⟨b4, 0, none⟩)), (97, .bool (decide ((mw : Int) < (12 + g97_0))))]) (by kernel_rfl) ?_ ?_
  ·
   intro w0_ F
   have z0_ := F.size
   have E := E.trans (Mk.ofExt F)
   replace GW := GW.ext F
   replace h13_2 := h13_2.ext F
   replace O_b4 := O_b4.ext F
   replace F := (ext_cut (w := w11) (k := b3) (by omega)).trans F
   refine h_take 0 rfl (by kernel_rfl) (by kernel_rfl) (by kernel_rfl) (fun w' x_ => xfieldAddr fo38f1 rfl) rfl rfl rfl F ?_
   refine h_take 2 rfl (by kernel_rfl) (by kernel_rfl) (by kernel_rfl) (fun w' x_ => xmove rfl) rfl rfl rfl F ?_
   refine h_ready (rs := [1, 3]) (by kernel_rfl) (by decide) ⟨?_, ?_, trivial⟩
   ·
    refine hs_val (v := .slice qw mw cw) rfl (xload1 Tryz.isAgg36 rfl (O_b4.cells) rfl) rfl rfl rfl F ?_
    refine h_ready (rs := [3]) (by kernel_rfl) (by decide) ⟨?_, trivial⟩
    refine hs_call rfl (xcall Tryz.call62 rfl) rfl rfl rfl (l26None_ok _ _ _ _ _ (h13_2.sl) (by assumption) (by omega)) ?_
    rintro _ w12 ⟨e12, q101, m101, d101, rfl, G101⟩
    have z12 := e12.size
    have E := E.trans (Mk.ofExt e12)
    replace GW := GW.ext e12
    replace O_b4 := O_b4.ext e12
    have F := F.trans e12
    refine ⟨F, ?_⟩
    refine h_ready (rs := [4]) (by kernel_rfl) (by decide) ⟨?_, trivial⟩
    refine hs_build (len := 1) (vs := [.slice q101 m101 d101]) (cs := [.slice q101 m101 d101]) (sz := 1) Tryz.underlying36 inf24 rfl rfl (by decide) (by rfl) (by rfl) (by simp [Value.cells]) rfl F rfl rfl rfl ?_
    intro b13 w13 e13 hb13 hz13 O13
    have E := E.trans (Mk.ofExt e13)
    replace GW := GW.ext e13
    replace G101 := G101.ext e13
    replace O_b4 := O_b4.ext e13
    have F := F.trans e13
    refine h_ready (rs := [5]) (by kernel_rfl) (by decide) ⟨?_, trivial⟩
    refine hs_appNT (bytes := 24) (nm := (mw + 1)) (z := (⟨noneA r13_0, ⟨q101, m101, d101⟩⟩ : X (List Int))) GW (by decide) (by rfl) (by rfl) elem24 (Own.sl1 (y := ((⟨noneA r13_0, ⟨q101, m101, d101⟩⟩ : X (List Int)) : X _)) O13) (by intro h; cases h) rfl (by simp [xc, cellsInt64SS, Value.oneCell']) G101 (by omega) (by omega) (by omega) (by omega) (by omega) (by omega) (by omega) rfl F (by omega) rfl rfl rfl ?_
    intro p14 c14_ w14 m14 k14 G14
    have hz14 := m14.size
    have E := E.young m14 (by omega)
    have F := m14.toExt F (by omega)
    replace O_b4 := (by first | exact m14.own O_b4 (by omega) | exact k14.off_own O_b4 (GW.o.neT O_b4 (by decide)))
    refine h_take 6 rfl (by kernel_rfl) (by kernel_rfl) (by kernel_rfl) (fun w' x_ => xfieldAddr fo38f1 rfl) rfl rfl rfl F ?_
    refine h_ready (rs := [7]) (by kernel_rfl) (by decide) ⟨?_, trivial⟩
    refine hs_store1 Tryz.sizeOf36 rfl rfl O_b4 (by simp) rfl F (by omega) rfl rfl ?_
    intro w15 on15 O15
    have hz15 := on15.size
    have E : Mk b (b + 1) w w15 := by first | exact E.trans (Mk.ofOnly on15 (by omega) (by omega)) | exact E.young (Mk.ofOnly on15 (Nat.le_refl _) (Nat.lt_succ_self _)) (by omega)
    replace G14 := G14.onlyT O_b4 (by decide) on15
    have F := on15.ext F (by omega)
    replace O15 : Own w15 b4 [.int .i64 ((mv : Int) / 2 + 1 + r68_0), .slice p14 (mw + 1) c14_] 38 := O15
    refine h_done (by kernel_rfl) ?_
    intro a_ ha_
    exact ⟨(p14, c14_, _), ⟨F, ⟨by omega, G14.wide (by omega) (by omega), O15⟩⟩, ha_.sub ⟨rfl, rfl, rfl, rfl, rfl, trivial⟩⟩
   refine hs_call rfl (xcall Tryz.call62 rfl) rfl rfl rfl (l26None_ok _ _ _ _ _ (h13_2.sl) (by assumption) (by omega)) ?_
   rintro _ w12 ⟨e12, q101, m101, d101, rfl, G101⟩
   have z12 := e12.size
   have E := E.trans (Mk.ofExt e12)
   replace GW := GW.ext e12
   replace O_b4 := O_b4.ext e12
   have F := F.trans e12
   refine ⟨F, ?_⟩
   refine h_ready (rs := [1, 4]) (by kernel_rfl) (by decide) ⟨?_, ?_, trivial⟩
   ·
    refine hs_val (v := .slice qw mw cw) rfl (xload1 Tryz.isAgg36 rfl (O_b4.cells) rfl) rfl rfl rfl F ?_
    refine h_ready (rs := [4]) (by kernel_rfl) (by decide) ⟨?_, trivial⟩
    refine hs_build (len := 1) (vs := [.slice q101 m101 d101]) (cs := [.slice q101 m101 d101]) (sz := 1) Tryz.underlying36 inf24 rfl rfl (by decide) (by rfl) (by rfl) (by simp [Value.cells]) rfl F rfl rfl rfl ?_
    intro b13 w13 e13 hb13 hz13 O13
    have E := E.trans (Mk.ofExt e13)
    replace GW := GW.ext e13
    replace G101 := G101.ext e13
    replace O_b4 := O_b4.ext e13
    have F := F.trans e13
    refine h_ready (rs := [5]) (by kernel_rfl) (by decide) ⟨?_, trivial⟩
    refine hs_appNT (bytes := 24) (nm := (mw + 1)) (z := (⟨noneA r13_0, ⟨q101, m101, d101⟩⟩ : X (List Int))) GW (by decide) (by rfl) (by rfl) elem24 (Own.sl1 (y := ((⟨noneA r13_0, ⟨q101, m101, d101⟩⟩ : X (List Int)) : X _)) O13) (by intro h; cases h) rfl (by simp [xc, cellsInt64SS, Value.oneCell']) G101 (by omega) (by omega) (by omega) (by omega) (by omega) (by omega) (by omega) rfl F (by omega) rfl rfl rfl ?_
    intro p14 c14_ w14 m14 k14 G14
    have hz14 := m14.size
    have E := E.young m14 (by omega)
    have F := m14.toExt F (by omega)
    replace O_b4 := (by first | exact m14.own O_b4 (by omega) | exact k14.off_own O_b4 (GW.o.neT O_b4 (by decide)))
    refine h_take 6 rfl (by kernel_rfl) (by kernel_rfl) (by kernel_rfl) (fun w' x_ => xfieldAddr fo38f1 rfl) rfl rfl rfl F ?_
    refine h_ready (rs := [7]) (by kernel_rfl) (by decide) ⟨?_, trivial⟩
    refine hs_store1 Tryz.sizeOf36 rfl rfl O_b4 (by simp) rfl F (by omega) rfl rfl ?_
    intro w15 on15 O15
    have hz15 := on15.size
    have E : Mk b (b + 1) w w15 := by first | exact E.trans (Mk.ofOnly on15 (by omega) (by omega)) | exact E.young (Mk.ofOnly on15 (Nat.le_refl _) (Nat.lt_succ_self _)) (by omega)
    replace G14 := G14.onlyT O_b4 (by decide) on15
    have F := on15.ext F (by omega)
    replace O15 : Own w15 b4 [.int .i64 ((mv : Int) / 2 + 1 + r68_0), .slice p14 (mw + 1) c14_] 38 := O15
    refine h_done (by kernel_rfl) ?_
    intro a_ ha_
    exact ⟨(p14, c14_, _), ⟨F, ⟨by omega, G14.wide (by omega) (by omega), O15⟩⟩, ha_.sub ⟨rfl, rfl, rfl, rfl, rfl, trivial⟩⟩
   refine hs_build (len := 1) (vs := [.slice q101 m101 d101]) (cs := [.slice q101 m101 d101]) (sz := 1) Tryz.underlying36 inf24 rfl rfl (by decide) (by rfl) (by rfl) (by simp [Value.cells]) rfl F rfl rfl rfl ?_
   intro b13 w13 e13 hb13 hz13 O13
   have E := E.trans (Mk.ofExt e13)
   replace GW := GW.ext e13
   replace G101 := G101.ext e13
   replace O_b4 := O_b4.ext e13
   have F := F.trans e13
   refine h_ready (rs := [1]) (by kernel_rfl) (by decide) ⟨?_, trivial⟩
   refine hs_val (v := .slice qw mw cw) rfl (xload1 Tryz.isAgg36 rfl (O_b4.cells) rfl) rfl rfl rfl F ?_
   refine h_ready (rs := [5]) (by kernel_rfl) (by decide) ⟨?_, trivial⟩
   refine hs_appNT (bytes := 24) (nm := (mw + 1)) (z := (⟨noneA r13_0, ⟨q101, m101, d101⟩⟩ : X (List Int))) GW (by decide) (by rfl) (by rfl) elem24 (Own.sl1 (y := ((⟨noneA r13_0, ⟨q101, m101, d101⟩⟩ : X (List Int)) : X _)) O13) (by intro h; cases h) rfl (by simp [xc, cellsInt64SS, Value.oneCell']) G101 (by omega) (by omega) (by omega) (by omega) (by omega) (by omega) (by omega) rfl F (by omega) rfl rfl rfl ?_
   intro p14 c14_ w14 m14 k14 G14
   have hz14 := m14.size
   have E := E.young m14 (by omega)
   have F := m14.toExt F (by omega)
   replace O_b4 := (by first | exact m14.own O_b4 (by omega) | exact k14.off_own O_b4 (GW.o.neT O_b4 (by decide)))
   refine h_take 6 rfl (by kernel_rfl) (by kernel_rfl) (by kernel_rfl) (fun w' x_ => xfieldAddr fo38f1 rfl) rfl rfl rfl F ?_
   refine h_ready (rs := [7]) (by kernel_rfl) (by decide) ⟨?_, trivial⟩
   refine hs_store1 Tryz.sizeOf36 rfl rfl O_b4 (by simp) rfl F (by omega) rfl rfl ?_
   intro w15 on15 O15
   have hz15 := on15.size
   have E : Mk b (b + 1) w w15 := by first | exact E.trans (Mk.ofOnly on15 (by omega) (by omega)) | exact E.young (Mk.ofOnly on15 (Nat.le_refl _) (Nat.lt_succ_self _)) (by omega)
   replace G14 := G14.onlyT O_b4 (by decide) on15
   have F := on15.ext F (by omega)
   replace O15 : Own w15 b4 [.int .i64 ((mv : Int) / 2 + 1 + r68_0), .slice p14 (mw + 1) c14_] 38 := O15
   refine h_done (by kernel_rfl) ?_
   intro a_ ha_
   exact ⟨(p14, c14_, _), ⟨F, ⟨by omega, G14.wide (by omega) (by omega), O15⟩⟩, ha_.sub ⟨rfl, rfl, rfl, rfl, rfl, trivial⟩⟩
  intro x_
  obtain ⟨q, d, zz⟩ := x_
  rintro w12 ⟨e12, hz12_, GZ, OX4⟩
  have m12 := cut_mk (by omega) e12 hz12_
  have z12 := m12.size
  have E := E.young m12 (by omega)
  replace S := S.off m12 (by omega)
  replace h13_2 := h13_2.off m12 (by omega)
  replace O_b1 := m12.own O_b1 (by omega)
  refine run_inBlock ?_
  refine run_sub ?_ (hback27 (q, (mw + 1), d, zz, w12) (⟨E, O_b1, OX4, S, GZ.wide (by omega) (by omega), h13_2, by omega, by omega⟩) (by first | omega | (dsimp only; omega)))
  exact ⟨rfl, rfl, rfl, rfl, trivial⟩
 replace c97 := of_decide_eq_false c97
 refine run_exit rfl ?_
 refine run_region ?_
 refine oz_ (xfieldAddr fo38f1 rfl) rfl rfl ?_
 refine oz_ (v := .slice qw mw cw) (xload1 Tryz.isAgg36 rfl (O_b4.cells) rfl) rfl rfl ?_
 refine oz_ (xlen Tryz.underlying36 rfl) rfl rfl ?_
 refine oz_ (xfieldAddr fo38f0 rfl) rfl rfl ?_
 refine ostore1 Tryz.sizeOf2 rfl rfl O_b4 (by simp) rfl rfl ?_
 intro w12 on12 O12
 have hz12 := on12.size
 have E : Mk b (b + 1) w w12 := by first | exact E.trans (Mk.ofOnly on12 (by omega) (by omega)) | exact E.young (Mk.ofOnly on12 (Nat.le_refl _) (Nat.lt_succ_self _)) (by omega)
 replace S := S.off (Mk.ofOnly on12 (Nat.le_refl _) (Nat.lt_succ_self _)) (by omega)
 replace GW := GW.onlyT O_b4 (by decide) on12
 replace h13_2 := h13_2.only on12 (by omega)
 replace O_b1 := on12.own O_b1 (by omega)
 replace O12 : Own w12 b4 [.int .i64 (mw : Int), .slice qw mw cw] 38 := O12
 refine ops_nil ?_
 refine run_inBlock ?_
 refine run_seq ?_
 refine run_tail 3 (by kernel_rfl) (by kernel_rfl) ?_
 intro w13 e13
 have z13 := e13.size
 have E := E.trans (Mk.ofExt e13)
 replace S := S.ext e13
 replace GW := GW.ext e13
 replace h13_2 := h13_2.ext e13
 replace O_b1 := O_b1.ext e13
 replace O12 := O12.ext e13
 refine stv (xmove rfl) rfl rfl rfl ?_
 refine stv (v := .agg #[.int .i64 (mw : Int), .slice qw mw cw]) (xloadN Tryz.isAgg38 Tryz.sizeOf38 rfl (O12.cells) rfl) rfl rfl rfl ?_
 refine stv (xassign rfl) rfl rfl rfl ?_
 refine st_storeN (vs := [.int .i64 (mw : Int), .slice qw mw cw]) Tryz.sizeOf38 rfl rfl O_b1 rfl (by simp) (by simp [Value.oneCell']) rfl ?_
 intro w14 on14 O14
 have hz14 := on14.size
 have E : Mk b (b + 1) w w14 := by first | exact E.trans (Mk.ofOnly on14 (by omega) (by omega)) | exact E.young (Mk.ofOnly on14 (Nat.le_refl _) (Nat.lt_succ_self _)) (by omega)
 replace S := S.off (Mk.ofOnly on14 (Nat.le_refl _) (Nat.lt_succ_self _)) (by omega)
 replace GW := GW.onlyT O_b1 (by decide) on14
 replace h13_2 := h13_2.only on14 (by omega)
 replace O14 : Own w14 b1 [.int .i64 (mw : Int), .slice qw mw cw] 38 := O14
 refine run_ret Tryz.func24 (rescT rfl rfl rfl (run_loadVar_cells Tryz.isAgg38 Tryz.sizeOf38 O14.cells rfl)) ?_
 exact ⟨_, rfl, _, _, _, _, _, _, _, _, _, rfl, (fun x m => Nat.le_trans (h13_0 x m) (by decide)), by omega, h13_2.slF (by omega) (by omega), (GW.wide (by omega) (by omega)).on, by omega, E, S⟩
end Go.Proofs.YtchblgaklknkcaaGreat
