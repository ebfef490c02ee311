/-
  Draws of what is above and of what is sealed. No condition beyond those written in each theorem.
-/
import Derived.Test.YtbihpggbabmebaaRoleDraw
namespace Go.Proofs.Ytbihpggbabmebaa
open Go.RowKit
set_option linter.unusedVariables false
set_option linter.unusedSimpArgs false
set_option linter.unusedSectionVars false
set_option maxRecDepth 4000

set_option maxHeartbeats 2000000 in
theorem DrawIsAbove_ok (p : Option Addr) (n c : Nat) (bs : List Int) (w : World) (H : Sl u8c 1 w p n c bs) (hbs : ∀ x ∈ bs, 0 ≤ x ∧ x ≤ 255) : Ret Try.prog 51 [.slice p n c] w (fun v w' => Ext w w' ∧ ∃ (xs : List Role) (q : Option Addr) (m d : Nat) (a b : ByteArray), v = .tuple #[.slice q m d, .string a, .string b] ∧ (∀ x ∈ xs, x.ok) ∧ m ≤ 10 ∧ OnRoleS w' w.heap.size w'.heap.size q m d xs) := by
  refine ret_of_run (N := 32) Try.func51 rfl rfl rfl ?_
  have hfar := H.blk (fun x => by simp [u8c])
  have E : Ext w w := Ext.refl w
  refine run_seq ?_
  refine run_region ?_
  refine ov (xassign rfl) rfl rfl rfl ?_
  refine ov (xassign rfl) rfl rfl rfl ?_
  refine ov (xassign rfl) rfl rfl rfl ?_
  refine ops_nil ?_
  refine run_seq ?_
  refine run_region ?_
  refine ov (xmove rfl) rfl rfl rfl ?_
  refine oc (xcall Try.call84 rfl) rfl rfl rfl (l01From_ok _ _ _ _ _ (H.ext E) (by assumption) w.heap.size hfar (by omega)) ?_
  rintro _ w1 ⟨e1, b12_, rfl, hcb12, S⟩
  have z1 := e1.size
  have E := E.trans e1
  have hcc12 := S.cb
  have hbl12 := S.lt
  refine ov (xassign rfl) rfl rfl rfl ?_
  refine ops_nil ?_
  refine run_seq ?_
  refine run_region ?_
  refine ov (xmove rfl) rfl rfl rfl ?_
  refine oc (xcall Try.call87 rfl) rfl rfl rfl (l24Roles_ok b12_ w.heap.size _ S) ?_
  rintro _ w2 ⟨r14_0, r14_1, r14_2, r14_3, rfl, h14_0, h14_1, h14_2, m2, S2⟩
  have z2 := m2.size
  have E := m2.toExt E (by omega)
  replace S := S2
  refine ov (xassign rfl) rfl rfl rfl ?_
  refine ops_nil ?_
  refine run_seq ?_
  refine run_region ?_
  refine ov (xmove rfl) rfl rfl rfl ?_
  refine ov (xmove rfl) rfl rfl rfl ?_
  refine obuild (cs := []) (sz := 4) Try.underlying32 inf54 rfl rfl (by decide) rfl rfl (by simp [Value.cells]) rfl rfl rfl ?_
  intro b3 w3 e3 hb3 hz3 O3
  have E := E.trans e3
  replace S := S.ext e3
  replace h14_2 := h14_2.ext e3
  have G3 : NOw cellsFileS 4 54 innFileS strc 1 9 w3 b3 (b3 + 1) (some ⟨b3, 0, none⟩) 0 0 [] := ⟨Own.ow (by simpa using O3) rfl (by omega) (Nat.le_refl _) (by omega) (by intro x hx; cases hx), Inn.nil⟩
  refine oc (xcall Try.call89 rfl) rfl rfl rfl (l24Names_ok b12_ w.heap.size _ _ _ _ _ _ _ _ _ _ _ _ _ S (h14_2) ⟨_, rfl, G3⟩ (by omega) (by omega)) ?_
  rintro _ w4 ⟨r19_0, r19_1, rfl, m4, S4⟩
  have z4 := m4.size
  have E := m4.toExt E (by omega)
  replace h14_2 := h14_2.off m4 (by omega)
  replace G3 := G3.off m4 (by omega)
  replace S := S4
  refine ov (xmove rfl) rfl rfl rfl ?_
  refine ov (xextract rfl rfl) rfl rfl rfl ?_
  refine ov (xextract rfl rfl) rfl rfl rfl ?_
  refine ov (xassign rfl) rfl rfl rfl ?_
  refine ov (xassign rfl) rfl rfl rfl ?_
  refine ops_nil ?_
  refine run_seq ?_
  refine run_region ?_
  refine ov (xmove rfl) rfl rfl rfl ?_
  refine ov (xmove rfl) rfl rfl rfl ?_
  refine obuild (cs := []) (sz := 4) Try.underlying32 inf54 rfl rfl (by decide) rfl rfl (by simp [Value.cells]) rfl rfl rfl ?_
  intro b5 w5 e5 hb5 hz5 O5
  have E := E.trans e5
  replace S := S.ext e5
  replace h14_2 := h14_2.ext e5
  replace G3 := G3.ext e5
  have G5 : NOw cellsFileS 4 54 innFileS strc 1 9 w5 b5 (b5 + 1) (some ⟨b5, 0, none⟩) 0 0 [] := ⟨Own.ow (by simpa using O5) rfl (by omega) (Nat.le_refl _) (by omega) (by intro x hx; cases hx), Inn.nil⟩
  refine oc (xcall Try.call89 rfl) rfl rfl rfl (l24Names_ok b12_ w.heap.size _ _ _ _ _ _ _ _ _ _ _ _ _ S (h14_2) ⟨_, rfl, G5⟩ (by omega) (by omega)) ?_
  rintro _ w6 ⟨r26_0, r26_1, rfl, m6, S6⟩
  have z6 := m6.size
  have E := m6.toExt E (by omega)
  replace h14_2 := h14_2.off m6 (by omega)
  replace G3 := G3.off m6 (by omega)
  replace G5 := G5.off m6 (by omega)
  replace S := S6
  refine ov (xmove rfl) rfl rfl rfl ?_
  refine ov (xextract rfl rfl) rfl rfl rfl ?_
  refine ov (xextract rfl rfl) rfl rfl rfl ?_
  refine ov (xassign rfl) rfl rfl rfl ?_
  refine ov (xassign rfl) rfl rfl rfl ?_
  refine ops_nil ?_
  refine run_seq ?_
  refine run_region ?_
  refine ov (xmove rfl) rfl rfl rfl ?_
  refine ov (xmove rfl) rfl rfl rfl ?_
  refine ov (xmove rfl) rfl rfl rfl ?_
  refine ov (xassign rfl) rfl rfl rfl ?_
  refine ov (xassign rfl) rfl rfl rfl ?_
  refine ov (xassign rfl) rfl rfl rfl ?_
  refine ops_nil ?_
  refine run_ret Try.func51 (res3 rfl rfl rfl rfl) ?_
  exact ⟨_, rfl, E, _, _, _, _, _, _, rfl, h14_0, by omega, h14_2.wide (by omega) (by omega)⟩

set_option maxHeartbeats 2000000 in
theorem DrawSealFile_ok (p : Option Addr) (n c : Nat) (bs : List Int) (w : World) (H : Sl u8c 1 w p n c bs) (hbs : ∀ x ∈ bs, 0 ≤ x ∧ x ≤ 255) : Ret Try.prog 49 [.slice p n c] w (fun v w' => Ext w w' ∧ ∃ (ys : List File) (q : Option Addr) (m d : Nat) (b : ByteArray) (lv day : Int), v = .tuple #[.slice q m d, .string b, .int .i64 lv, .int .i64 day] ∧ (∀ y ∈ ys, y.ok) ∧ m ≤ 14 ∧ OnFileS w' w.heap.size w'.heap.size q m d ys ∧ (-10 ≤ lv ∧ lv ≤ 10) ∧ (-20001 ≤ day ∧ day ≤ 20001)) := by
  refine ret_of_run (N := 32) Try.func49 rfl rfl rfl ?_
  have hfar := H.blk (fun x => by simp [u8c])
  have E : Ext w w := Ext.refl w
  refine run_seq ?_
  refine run_region ?_
  refine ov (xassign rfl) rfl rfl rfl ?_
  refine ov (xassign rfl) rfl rfl rfl ?_
  refine ov (xassign rfl) rfl rfl rfl ?_
  refine ov (xassign rfl) rfl rfl rfl ?_
  refine ops_nil ?_
  refine run_seq ?_
  refine run_region ?_
  refine ov (xmove rfl) rfl rfl rfl ?_
  refine oc (xcall Try.call84 rfl) rfl rfl rfl (l01From_ok _ _ _ _ _ (H.ext E) (by assumption) w.heap.size hfar (by omega)) ?_
  rintro _ w1 ⟨e1, b13_, rfl, hcb13, S⟩
  have z1 := e1.size
  have E := E.trans e1
  have hcc13 := S.cb
  have hbl13 := S.lt
  refine ov (xassign rfl) rfl rfl rfl ?_
  refine ops_nil ?_
  refine run_seq ?_
  refine run_region ?_
  refine ov (xmove rfl) rfl rfl rfl ?_
  refine oc (xcall Try.call50 rfl) rfl rfl rfl (DrawMaySee_ok _ _ _ _ _ (H.ext E) (by assumption)) ?_
  rintro _ w2 ⟨e2, rs16, q16, m16, d16, fs16, p16, n16, k16, a16, b16, day16, rfl, okR16, lR16, R16, okF16, lF16, F16, hday16⟩
  have z2 := e2.size
  have E := E.trans e2
  replace S := S.ext e2
  refine ov (xmove rfl) rfl rfl rfl ?_
  refine ov (xextract rfl rfl) rfl rfl rfl ?_
  refine ov (xextract rfl rfl) rfl rfl rfl ?_
  refine ov (xextract rfl rfl) rfl rfl rfl ?_
  refine ov (xextract rfl rfl) rfl rfl rfl ?_
  refine ov (xextract rfl rfl) rfl rfl rfl ?_
  refine ov (xassign rfl) rfl rfl rfl ?_
  refine ov (xassign rfl) rfl rfl rfl ?_
  refine ov (xassign rfl) rfl rfl rfl ?_
  refine ov (xassign rfl) rfl rfl rfl ?_
  refine ov (xassign rfl) rfl rfl rfl ?_
  refine ops_nil ?_
  refine run_seq ?_
  refine run_region ?_
  refine ov (xmove rfl) rfl rfl rfl ?_
  refine ov (xmove rfl) rfl rfl rfl ?_
  refine ov (xmove rfl) rfl rfl rfl ?_
  refine ov (xmove rfl) rfl rfl rfl ?_
  refine oc (xcall Try.call86 rfl) rfl rfl rfl (l01Next_ok b13_ w.heap.size (10) _ S) ?_
  rintro _ w3 ⟨r26_0, rfl, h26_0, h26_1, m3, S3⟩
  have z3 := m3.size
  have E := m3.toExt E (by omega)
  replace R16 := R16.off m3 (by omega)
  replace F16 := F16.off m3 (by omega)
  replace S := S3
  refine ov (xmove rfl) rfl rfl rfl ?_
  refine oc (xcall Try.call86 rfl) rfl rfl rfl (l01Next_ok b13_ w.heap.size (10) _ S) ?_
  rintro _ w4 ⟨r28_0, rfl, h28_0, h28_1, m4, S4⟩
  have z4 := m4.size
  have E := m4.toExt E (by omega)
  replace R16 := R16.off m4 (by omega)
  replace F16 := F16.off m4 (by omega)
  replace S := S4
  refine obuild (cs := [.int .i64 r26_0, .int .i64 r28_0, .int .i64 9, .int .i64 10, .int .i64 (-1)]) (sz := 1) Try.underlying94 inf2 rfl rfl (by decide) rfl rfl (by simp [Value.cells]) rfl rfl rfl ?_
  intro b5 w5 e5 hb5 hz5 O5
  have E := E.trans e5
  replace S := S.ext e5
  replace R16 := R16.ext e5
  replace F16 := F16.ext e5
  have G5 : Ow i64c 1 2 w5 b5 (b5 + 1) (some ⟨b5, 0, none⟩) 5 5 ([r26_0, r28_0, 9, 10, (-1)] : List Int) := Own.ow (by simpa [i64c] using O5) rfl (by omega) (Nat.le_refl _) (by omega) (by intro x hx; rfl)
  refine oc (xcall Try.call85 rfl) rfl rfl rfl (l01Pick_ok b13_ w.heap.size _ _ _ [r26_0, r28_0, 9, 10, (-1)] 10 _ S (G5.sl) (by intro x hx; simp only [List.mem_cons, List.not_mem_nil, or_false] at hx; omega) (by omega) (by simp only [pb, Option.getD_some]; omega)) ?_
  rintro _ w6 ⟨r30_0, rfl, h30_0, m6, S6⟩
  have z6 := m6.size
  have E := m6.toExt E (by omega)
  replace R16 := R16.off m6 (by omega)
  replace F16 := F16.off m6 (by omega)
  replace G5 := G5.off m6 (by omega)
  replace S := S6
  refine ov (xmove rfl) rfl rfl rfl ?_
  refine ov (xassign rfl) rfl rfl rfl ?_
  refine ov (xassign rfl) rfl rfl rfl ?_
  refine ov (xassign rfl) rfl rfl rfl ?_
  refine ov (xassign rfl) rfl rfl rfl ?_
  refine ops_nil ?_
  refine run_ret Try.func49 (res4 rfl rfl rfl rfl rfl) ?_
  exact ⟨_, rfl, E, _, _, _, _, _, _, _, rfl, okF16, by omega, F16.wide (by omega) (by omega), by omega, by omega⟩
end Go.Proofs.Ytbihpggbabmebaa
