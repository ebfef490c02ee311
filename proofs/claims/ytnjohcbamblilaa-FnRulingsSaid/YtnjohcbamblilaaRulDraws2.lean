/-
  What the law on rulings draws, both lists. No condition beyond those written in each theorem.
-/
import Derived.Test.YtnjohcbamblilaaRulDraws
import Derived.Test.YtnjohcbamblilaaDice
namespace Go.Proofs.Ytnjohcbamblilaa
open Go.RowKit
set_option linter.unusedVariables false
set_option linter.unusedSimpArgs false
set_option linter.unusedSectionVars false
set_option maxRecDepth 4000

set_option maxHeartbeats 2000000 in
theorem DrawDoSee_ok (p : Option Addr) (n c : Nat) (bs : List Int) (w : World) (H : Sl u8c 1 w p n c bs) (hbs : ∀ x ∈ bs, 0 ≤ x ∧ x ≤ 255) : Ret Try.prog 132 [.slice p n c] w (fun v w' => Ext w w' ∧ ∃ (rs : List Ruling) (q : Option Addr) (m d : Nat) (xs : List Exhibit) (q2 : Option Addr) (m2 d2 : Nat) (s : ByteArray) (k : Int), v = .tuple #[.slice q m d, .slice q2 m2 d2, .string s, .int .i64 k] ∧ (∀ x ∈ rs, rulOk x) ∧ m ≤ 30 ∧ Ow Ruling.cells 3 37 w' w.heap.size w'.heap.size q m d rs ∧ (∀ x ∈ xs, exOk x) ∧ m2 ≤ 12 ∧ OnExhibitS w' w.heap.size w'.heap.size q2 m2 d2 xs ∧ s.size ≤ 100 ∧ (-30000 ≤ k ∧ k ≤ 30000)) := by
  refine ret_of_run (N := 41) Try.func132 rfl rfl rfl ?_
  have hfar := H.blk (fun x => by simp [u8c])
  have E : Ext w w := Ext.refl w
  refine run_seq ?_
  refine run_region ?_
  refine ov (xassign rfl) rfl rfl rfl ?_
  refine ov (xassign rfl) rfl rfl rfl ?_
  refine ov (xassign rfl) rfl rfl rfl ?_
  refine ov (xassign rfl) rfl rfl rfl ?_
  refine ops_nil ?_
  refine run_seq ?_
  refine run_region ?_
  refine ov (xmove rfl) rfl rfl rfl ?_
  refine oc (xcall Try.call112 rfl) rfl rfl rfl (l01From_ok _ _ _ _ _ (H.ext E) (by assumption) w.heap.size hfar (by omega)) ?_
  rintro _ w1 ⟨e1, b12_, rfl, hcb12, S⟩
  have z1 := e1.size
  have E := E.trans e1
  have hcc12 := S.cb
  have hbl12 := S.lt
  refine ov (xassign rfl) rfl rfl rfl ?_
  refine ops_nil ?_
  refine run_seq ?_
  refine run_region ?_
  refine ov (xmove rfl) rfl rfl rfl ?_
  refine oc (xcall Try.call83 rfl) rfl rfl rfl (DrawStandingOn_ok _ _ _ _ _ (H.ext E) (by assumption)) ?_
  rintro _ w2 ⟨e2, rs15, q15, m15, d15, s15, k15, rfl, ok15, hm15, G15, hs15, hk15⟩
  have z2 := e2.size
  have E := E.trans e2
  replace S := S.ext e2
  have lG15 := G15.len
  have rk15 := rulOk_code ok15
  refine ov (xmove rfl) rfl rfl rfl ?_
  refine ov (xextract rfl rfl) rfl rfl rfl ?_
  refine ov (xextract rfl rfl) rfl rfl rfl ?_
  refine ov (xextract rfl rfl) rfl rfl rfl ?_
  refine ov (xassign rfl) rfl rfl rfl ?_
  refine ov (xassign rfl) rfl rfl rfl ?_
  refine ov (xassign rfl) rfl rfl rfl ?_
  refine ops_nil ?_
  refine run_seq ?_
  refine run_region ?_
  refine ov (xmove rfl) rfl rfl rfl ?_
  refine oc (xcall Try.call122 rfl) rfl rfl rfl (l23List_ok b12_ w.heap.size _ S) ?_
  rintro _ w3 ⟨r20_0, r20_1, r20_2, r20_3, rfl, h20_0, h20_1, h20_2, m3, S3⟩
  have z3 := m3.size
  have E := m3.toExt E (by omega)
  replace G15 := G15.off m3 (by omega)
  replace S := S3
  obtain ⟨zx20, hzx20, GX20⟩ := h20_2
  have lGX20 := GX20.o.len
  refine ov (xassign rfl) rfl rfl rfl ?_
  refine ops_nil ?_
  refine run_seq ?_
  refine run_seq ?_
  refine run_region ?_
  refine ov (xmove rfl) rfl rfl rfl ?_
  refine ov (xlen Try.underlying85 rfl) rfl rfl rfl ?_
  refine ov (xgtr rfl rfl _ rfl) rfl rfl rfl ?_
  refine ods (fun c23 => ?_) (fun c23 => ?_)
  ·
    refine ov (xmove rfl) rfl rfl rfl ?_
    refine ov (xmove rfl) rfl rfl rfl ?_
    refine oc (xcall Try.call114 rfl) rfl rfl rfl (l01Next_ok b12_ w.heap.size (4) _ S) ?_
    rintro _ w4 ⟨r26_0, rfl, h26_0, h26_1, m4, S4⟩
    have z4 := m4.size
    have E := m4.toExt E (by omega)
    replace G15 := G15.off m4 (by omega)
    replace GX20 := GX20.off m4 (by omega)
    replace S := S4
    refine ov (xgtr rfl rfl _ rfl) rfl rfl rfl ?_
    refine ods (fun c27 => ?_) (fun c27 => ?_)
    ·
      refine ov (xpick_t rfl rfl) rfl rfl rfl ?_
      refine ops_nil ?_
      refine run_cond_t rfl ?_
      refine run_region ?_
      refine ov (xmove rfl) rfl rfl rfl ?_
      refine ov (xmove rfl) rfl rfl rfl ?_
      refine ov (xmove rfl) rfl rfl rfl ?_
      refine ov (xlen Try.underlying85 rfl) rfl rfl rfl ?_
      refine oc (xcall Try.call114 rfl) rfl rfl rfl (l01Next_ok b12_ w.heap.size ((r20_2 : Int)) _ S) ?_
      rintro _ w5 ⟨r33_0, rfl, h33_0, h33_1, m5, S5⟩
      have z5 := m5.size
      have E := m5.toExt E (by omega)
      replace G15 := G15.off m5 (by omega)
      replace GX20 := GX20.off m5 (by omega)
      replace S := S5
      have h34 := (GX20.o.sl).at (i := r33_0.toNat) (by omega)
      refine ov (xindexN (i := r33_0.toNat) Try.underlying85 Try.sizeOf49 rfl rfl (by omega) ((GX20.o.sl).p (i := r33_0.toNat) (by omega)) (by have := (GX20.o.sl).len; omega)) rfl rfl rfl ?_
      refine ov (xfieldAddr fo49f0 rfl) rfl rfl rfl ?_
      have hzc := h20_0 zx20[r33_0.toNat].v (by rw [← hzx20]; exact List.mem_map.2 ⟨_, List.getElem_mem (by omega), rfl⟩)
      refine ov (v := .string zx20[r33_0.toNat].v.Code) (xload1 Try.isAgg9 rfl (h34) rfl) rfl rfl rfl ?_
      refine ov (xassign rfl) rfl rfl rfl ?_
      refine ops_nil ?_
      refine run_seq ?_
      refine run_region ?_
      refine ov (xmove rfl) rfl rfl rfl ?_
      refine ov (xmove rfl) rfl rfl rfl ?_
      refine ov (xmove rfl) rfl rfl rfl ?_
      refine ov (xmove rfl) rfl rfl rfl ?_
      refine ov (xassign rfl) rfl rfl rfl ?_
      refine ov (xassign rfl) rfl rfl rfl ?_
      refine ov (xassign rfl) rfl rfl rfl ?_
      refine ov (xassign rfl) rfl rfl rfl ?_
      refine ops_nil ?_
      refine run_ret Try.func132 (res4 rfl rfl rfl rfl rfl) ?_
      exact ⟨_, rfl, E, _, _, _, _, _, _, _, _, _, _, rfl, ok15, by omega, G15.wide (by omega) (by omega), h20_0, by omega, ⟨zx20, hzx20, GX20.wide (by omega) (by omega)⟩, hzc.1, by omega⟩
    ·
      refine ov (xpick_t rfl rfl) rfl rfl rfl ?_
      refine ops_nil ?_
      refine run_cond_f rfl ?_
      refine run_skip ?_
      refine run_seq ?_
      refine run_region ?_
      refine ov (xmove rfl) rfl rfl rfl ?_
      refine ov (xmove rfl) rfl rfl rfl ?_
      refine ov (xmove rfl) rfl rfl rfl ?_
      refine ov (xmove rfl) rfl rfl rfl ?_
      refine ov (xassign rfl) rfl rfl rfl ?_
      refine ov (xassign rfl) rfl rfl rfl ?_
      refine ov (xassign rfl) rfl rfl rfl ?_
      refine ov (xassign rfl) rfl rfl rfl ?_
      refine ops_nil ?_
      refine run_ret Try.func132 (res4 rfl rfl rfl rfl rfl) ?_
      exact ⟨_, rfl, E, _, _, _, _, _, _, _, _, _, _, rfl, ok15, by omega, G15.wide (by omega) (by omega), h20_0, by omega, ⟨zx20, hzx20, GX20.wide (by omega) (by omega)⟩, by omega, by omega⟩
  ·
    refine ov (xmove rfl) rfl rfl rfl ?_
    refine og rfl rfl rfl ?_
    refine og rfl rfl rfl ?_
    refine og rfl rfl rfl ?_
    refine ov (xpick_f rfl rfl) rfl rfl rfl ?_
    refine ops_nil ?_
    refine run_cond_f rfl ?_
    refine run_skip ?_
    refine run_seq ?_
    refine run_region ?_
    refine ov (xmove rfl) rfl rfl rfl ?_
    refine ov (xmove rfl) rfl rfl rfl ?_
    refine ov (xmove rfl) rfl rfl rfl ?_
    refine ov (xmove rfl) rfl rfl rfl ?_
    refine ov (xassign rfl) rfl rfl rfl ?_
    refine ov (xassign rfl) rfl rfl rfl ?_
    refine ov (xassign rfl) rfl rfl rfl ?_
    refine ov (xassign rfl) rfl rfl rfl ?_
    refine ops_nil ?_
    refine run_ret Try.func132 (res4 rfl rfl rfl rfl rfl) ?_
    exact ⟨_, rfl, E, _, _, _, _, _, _, _, _, _, _, rfl, ok15, by omega, G15.wide (by omega) (by omega), h20_0, by omega, ⟨zx20, hzx20, GX20.wide (by omega) (by omega)⟩, by omega, by omega⟩

set_option maxHeartbeats 400000 in
theorem DrawWhyUnseen_ok (p : Option Addr) (n c : Nat) (bs : List Int) (w : World) (H : Sl u8c 1 w p n c bs) (hbs : ∀ x ∈ bs, 0 ≤ x ∧ x ≤ 255) : Ret Try.prog 81 [.slice p n c] w (fun v w' => Ext w w' ∧ ∃ (rs : List Ruling) (q : Option Addr) (m d : Nat) (xs : List Exhibit) (q2 : Option Addr) (m2 d2 : Nat) (s : ByteArray) (k : Int), v = .tuple #[.slice q m d, .slice q2 m2 d2, .string s, .int .i64 k] ∧ (∀ x ∈ rs, rulOk x) ∧ m ≤ 30 ∧ Ow Ruling.cells 3 37 w' w.heap.size w'.heap.size q m d rs ∧ (∀ x ∈ xs, exOk x) ∧ m2 ≤ 12 ∧ OnExhibitS w' w.heap.size w'.heap.size q2 m2 d2 xs ∧ s.size ≤ 100 ∧ (-30000 ≤ k ∧ k ≤ 30000)) := by
  refine ret_of_run (N := 12) Try.func81 rfl rfl rfl ?_
  have hfar := H.blk (fun x => by simp [u8c])
  have E : Ext w w := Ext.refl w
  refine run_seq ?_
  refine run_region ?_
  refine ov (xassign rfl) rfl rfl rfl ?_
  refine ov (xassign rfl) rfl rfl rfl ?_
  refine ov (xassign rfl) rfl rfl rfl ?_
  refine ov (xassign rfl) rfl rfl rfl ?_
  refine ops_nil ?_
  refine run_seq ?_
  refine run_region ?_
  refine ov (xmove rfl) rfl rfl rfl ?_
  refine oc (xcall Try.call132 rfl) rfl rfl rfl (DrawDoSee_ok _ _ _ _ _ (H.ext E) (by assumption)) ?_
  rintro _ w1 ⟨e1, rs7, q7, m7, d7, xs7, p7, n7, c7, s7, k7, rfl, ok7, hm7, G7, okx7, hn7, R7, hs7, hk7⟩
  have z1 := e1.size
  have E := E.trans e1
  replace R7 : OnExhibitS _ _ _ _ _ _ xs7 := R7
  have nR7 := On.len R7
  have lG7 := G7.len
  have rk7 := rulOk_code ok7
  have sml7 : ∀ x ∈ xs7, exSmall x := fun x m => exOk_small (okx7 x m)
  refine ov (xextract rfl rfl) rfl rfl rfl ?_
  refine ov (xextract rfl rfl) rfl rfl rfl ?_
  refine ov (xextract rfl rfl) rfl rfl rfl ?_
  refine ov (xextract rfl rfl) rfl rfl rfl ?_
  refine ov (xassign rfl) rfl rfl rfl ?_
  refine ov (xassign rfl) rfl rfl rfl ?_
  refine ov (xassign rfl) rfl rfl rfl ?_
  refine ov (xassign rfl) rfl rfl rfl ?_
  refine ops_nil ?_
  refine run_ret Try.func81 (res4 rfl rfl rfl rfl rfl) ?_
  exact ⟨_, rfl, E, _, _, _, _, _, _, _, _, _, _, rfl, ok7, by omega, G7.wide (by omega) (by omega), okx7, by omega, R7.wide (by omega) (by omega), hs7, hk7⟩
end Go.Proofs.Ytnjohcbamblilaa
