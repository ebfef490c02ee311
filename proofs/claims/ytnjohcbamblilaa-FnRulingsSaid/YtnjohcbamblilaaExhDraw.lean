/-
  Draws of exhibits. No condition beyond those written in each theorem.
-/
import Derived.Test.YtnjohcbamblilaaRulDraw
import Derived.Test.YtnjohcbamblilaaExh
import Derived.Test.YtnjohcbamblilaaNest
namespace Go.Proofs.Ytnjohcbamblilaa
open Go.RowKit
set_option linter.unusedVariables false
set_option linter.unusedSimpArgs false
set_option linter.unusedSectionVars false
set_option maxRecDepth 4000

section
variable {P : Program} {f : FuncId} {N : Nat} {R : Ending → World → Prop} {k : List Item} {σ : Env} {w : World} {ops : Array Oper} {ty : TypeId} {pos : String} {aft : Array Edge} {gd : Option (Nat × Bool)}
theorem st_storeOwF {α : Type} {enc : α → List Value} {sz off : Nat} {x yo : Operand} {t T : TypeId} {lo hi n c i : Nat} {p : Option Addr} {xs : List α} {y : α} {v : Value} (hs : ∀ w, (sizeOf t).run P w = .ok 1 w)
    (G : Ow enc sz T w lo hi p n c xs) (hi' : i < xs.length) (hx : ev σ x = some (.pointer (some ⟨pb p, po p + i * sz + off, none⟩))) (hy : ev σ yo = some v)
    (hoff : off < sz) (he : enc y = (enc xs[i]).set off v) (h1 : v.oneCell' = true)
    (hg : wantedE ops σ ⟨none, .store t x yo, ty, pos, aft, gd⟩ = some true)
    (h : ∀ w', Mk lo hi w w' → Ow enc sz T w' lo hi p n c (xs.set i y) → Run P f N R k σ w') :
    STOps P N ops w [] σ (fun a' => wpList P ops (HQ (After P f N R k)) [⟨none, .store t x yo, ty, pos, aft, gd⟩] a' w) := by
  have hl := G.len; have hc := G.cap
  rcases G.row with ⟨_, h2⟩ | ⟨b, s, rfl, h3, h4, h5, h6⟩
  · omega
  · have hlen : ((xs.map enc).flatten).length = n * sz := G.rows
    have hm : (i + 1) * sz ≤ n * sz := Nat.mul_le_mul_right _ (by omega)
    rw [Nat.add_mul] at hm
    refine st_store1 hs (b := b) (o := i * sz + off) (by rw [hx]; simp [pb, po]) hy h5 (by simp only [List.length_append]; omega) h1 hg fun w' hon hown => h w' (Mk.ofOnly hon h3 h4) ?_
    rw [set_flat (enc := enc) (y := y) hoff xs i hi' he G.esz] at hown
    refine ⟨by rw [List.length_set]; exact hl, hc, G.big, .inr ⟨b, s, rfl, h3, h4, hown, h6⟩, fun z hz' => ?_⟩
    rcases List.mem_or_eq_of_mem_set hz' with hz' | rfl
    · exact G.esz z hz'
    · rw [he, List.length_set]; exact G.esz _ (List.getElem_mem hi')
end
/-- a drawn handing, a drawn exhibit -/
def hanOk (h : Handing) : Prop := (-1000000 ≤ h.Day ∧ h.Day ≤ 1000000) ∧ h.From.size ≤ 100 ∧ h.To.size ≤ 100 ∧ (-2000000 ≤ h.Seal ∧ h.Seal ≤ 2000000)
def exOk (x : Exhibit) : Prop := x.Code.size ≤ 100 ∧ x.Found.size ≤ 100 ∧ (0 ≤ x.Day ∧ x.Day ≤ 1000) ∧ (-2000000 ≤ x.Seal ∧ x.Seal ≤ 2000000) ∧ ∀ h ∈ x.Chain, hanOk h
theorem exOk_small {x : Exhibit} (h : exOk x) : exSmall x := by
  obtain ⟨h1, h2, _, _, h5⟩ := h
  exact ⟨by omega, by omega, fun y hy => by have := h5 y hy; unfold hanOk at this; omega⟩

set_option maxHeartbeats 4000000 in
theorem l23Good_ok (b cb : Nat) (name : ByteArray) (w : World) (S : Src w b cb) (hnm : name.size ≤ 100) : Ret Try.prog 138 [.pointer (some ⟨b, 0, none⟩), .string name] w (fun v w' => ∃ (x : Exhibit) (q : Option Addr) (m d : Nat), v = .agg #[.string x.Code, .string x.Found, .int .i64 x.Day, .int .i64 x.Seal, .slice q m d] ∧ exOk x ∧ m ≤ 5 ∧ Ow Handing.cells 4 77 w' w.heap.size w'.heap.size q m d x.Chain ∧ Mk b (b + 1) w w' ∧ Src w' b cb) := by
  refine ret_of_run (N := 61) Try.func138 rfl rfl rfl ?_
  have hbl := S.lt
  have hcb := S.cb
  have E : Mk b (b + 1) w w := Mk.refl _ _ _
  refine run_seq ?_
  refine run_region ?_
  refine oalloc Try.zeroValue49 rfl rfl ?_
  intro b1 w1 e1 hb1 hz1 O1
  have E := E.trans (Mk.ofExt e1)
  replace S := S.ext e1
  replace O1 : Own w1 b1 [.string ⟨#[]⟩, .string ⟨#[]⟩, .int .i64 0, .int .i64 0, .slice none 0 0] 49 := O1
  refine ops_nil ?_
  refine run_seq ?_
  refine run_region ?_
  refine ov (xmove rfl) rfl rfl rfl ?_
  refine ov (xmove rfl) rfl rfl rfl ?_
  refine oc (xcall Try.call120 rfl) rfl rfl rfl (l01Good_ok b cb _ S) ?_
  rintro _ w2 ⟨r13_0, rfl, h13_0, m2, S2⟩
  have z2 := m2.size
  have E := E.trans m2
  replace O1 := m2.own O1 (by omega)
  replace S := S2
  refine ov (xmove rfl) rfl rfl rfl ?_
  refine oc (xcall Try.call114 rfl) rfl rfl rfl (l01Next_ok b cb (20) _ S) ?_
  rintro _ w3 ⟨r15_0, rfl, h15_0, h15_1, m3, S3⟩
  have z3 := m3.size
  have E := E.trans m3
  replace O1 := m3.own O1 (by omega)
  replace S := S3
  refine ov (xadd rfl rfl (by unfold I64; omega)) rfl rfl rfl ?_
  refine ov (xmove rfl) rfl rfl rfl ?_
  refine oc (xcall Try.call114 rfl) rfl rfl rfl (l01Next_ok b cb (9) _ S) ?_
  rintro _ w4 ⟨r18_0, rfl, h18_0, h18_1, m4, S4⟩
  have z4 := m4.size
  have E := E.trans m4
  replace O1 := m4.own O1 (by omega)
  replace S := S4
  refine ov (xadd rfl rfl (by unfold I64; omega)) rfl rfl rfl ?_
  refine obuild (cs := []) (sz := 4) Try.underlying47 inf77 rfl rfl (by decide) rfl rfl (by simp [Value.cells]) rfl rfl rfl ?_
  intro b5 w5 e5 hb5 hz5 O5
  have E := E.trans (Mk.ofExt e5)
  replace S := S.ext e5
  replace O1 := O1.ext e5
  have G5 : Ow Handing.cells 4 77 w5 b5 (b5 + 1) (some ⟨b5, 0, none⟩) 0 0 ([] : List Handing) := Own.ow (by simpa [Handing.cells] using O5) rfl (by omega) (Nat.le_refl _) (by omega) (by intro x hx; rfl)
  refine ov (xbuild (vs := [.string name, .string r13_0, .int .i64 (100 + r15_0), .int .i64 (1 + r18_0), .slice (some ⟨b5, 0, none⟩) 0 0]) (cells := #[.string name, .string r13_0, .int .i64 (100 + r15_0), .int .i64 (1 + r18_0), .slice (some ⟨b5, 0, none⟩) 0 0]) rfl (by kernel_rfl)) rfl rfl rfl ?_
  refine oalloc Try.zeroValue49 rfl rfl ?_
  intro b6 w6 e6 hb6 hz6 O6
  have E := E.trans (Mk.ofExt e6)
  replace S := S.ext e6
  replace G5 := G5.ext e6
  replace O1 := O1.ext e6
  replace O6 : Own w6 b6 [.string ⟨#[]⟩, .string ⟨#[]⟩, .int .i64 0, .int .i64 0, .slice none 0 0] 49 := O6
  refine ostoreN (vs := _) Try.sizeOf49 rfl rfl O6 rfl (by simp) (by simp [Value.oneCell']) rfl ?_
  intro w7 on7 O7
  have hz7 := on7.size
  have E : Mk b (b + 1) w w7 := by first | exact E.trans (Mk.ofOnly on7 (by omega) (by omega)) | exact E.young (Mk.ofOnly on7 (Nat.le_refl _) (Nat.lt_succ_self _)) (by omega)
  replace S := S.off (Mk.ofOnly on7 (Nat.le_refl _) (Nat.lt_succ_self _)) (by omega)
  replace G5 := G5.onlyT O6 (by decide) on7
  replace O1 := on7.own O1 (by omega)
  replace O7 : Own w7 b6 [.string name, .string r13_0, .int .i64 (100 + r15_0), .int .i64 (1 + r18_0), .slice (some ⟨b5, 0, none⟩) 0 0] 49 := O7
  refine ops_nil ?_
  refine run_seq ?_
  refine run_draw (by kernel_rfl) (by kernel_rfl) ?_
  refine qv (fun w' x_ => xfieldAddr fo49f2 rfl) rfl rfl rfl ?_
  refine qv (v := .int .i64 (100 + r15_0)) (fun w' x_ => xload1 Try.isAgg2 rfl ((O7.cells).ext x_) rfl) rfl rfl rfl ?_
  refine qv (fun w' x_ => xfieldAddr fo49f1 rfl) rfl rfl rfl ?_
  refine qv (v := .string r13_0) (fun w' x_ => xload1 Try.isAgg9 rfl ((O7.cells).ext x_) rfl) rfl rfl rfl ?_
  refine qv (fun w' x_ => xfieldAddr fo49f3 rfl) rfl rfl rfl ?_
  refine qv (v := .int .i64 (1 + r18_0)) (fun w' x_ => xload1 Try.isAgg2 rfl ((O7.cells).ext x_) rfl) rfl rfl rfl ?_
  refine qv (fun w' x_ => xassign rfl) rfl rfl rfl ?_
  refine qv (fun w' x_ => xassign rfl) rfl rfl rfl ?_
  refine qv (fun w' x_ => xassign rfl) rfl rfl rfl ?_
  refine q_nil ?_
  intro w8 e8
  have z8 := e8.size
  have E := E.trans (Mk.ofExt e8)
  replace S := S.ext e8
  replace G5 := G5.ext e8
  replace O1 := O1.ext e8
  replace O7 := O7.ext e8
  refine run_seq ?_
  refine run_seq ?_
  refine run_region ?_
  refine ov (xmove rfl) rfl rfl rfl ?_
  refine oc (xcall Try.call114 rfl) rfl rfl rfl (l01Next_ok b cb (6) _ S) ?_
  rintro _ w9 ⟨r29_0, rfl, h29_0, h29_1, m9, S9⟩
  have z9 := m9.size
  have E := E.trans m9
  replace G5 := G5.off m9 (by omega)
  replace O1 := m9.own O1 (by omega)
  replace O7 := m9.own O7 (by omega)
  replace S := S9
  refine ov (xassign rfl) rfl rfl rfl ?_
  refine ops_nil ?_
  refine run_block ?_
  refine run_loop (ι := Nat × Int × Int × ByteArray × Int × Option Addr × Nat × Nat × List Handing × World) (fun x_ => match x_ with | (j, n, day, holder, sea, q, m, d, zs, wr) => (Mk b (b + 1) w wr) ∧ (Own wr b1 ([.string ⟨#[]⟩, .string ⟨#[]⟩, .int .i64 0, .int .i64 0, .slice none 0 0]) 49) ∧ (Own wr b6 ([.string name, .string r13_0, .int .i64 (100 + r15_0), .int .i64 (1 + r18_0), .slice q m d]) 49) ∧ (Src wr b cb) ∧ (Ow Handing.cells 4 77 wr w1.heap.size wr.heap.size q m d zs) ∧ (w9.heap.size ≤ wr.heap.size) ∧ ((j : Int) + n ≤ 5) ∧ (0 ≤ n) ∧ (m ≤ j) ∧ (100 ≤ day ∧ day ≤ 200 + 8 * j) ∧ (holder.size ≤ 100) ∧ (1 ≤ sea ∧ sea ≤ 20) ∧ (∀ h ∈ zs, hanOk h)) (fun x_ => match x_ with | (j, n, day, holder, sea, q, m, d, zs, wr) => [(0, .pointer (some ⟨b, 0, none⟩)), (4, .pointer (some ⟨b1, 0, none⟩)), (5, .pointer (some ⟨b6, 0, none⟩)), (6, .int .i64 day), (7, .string holder), (8, .int .i64 sea), (9, .int .i64 n)]) (fun x_ => match x_ with | (j, n, day, holder, sea, q, m, d, zs, wr) => wr) (fun x_ => match x_ with | (j, n, day, holder, sea, q, m, d, zs, wr) => n.toNat) ?_ (0, r29_0, (100 + r15_0), r13_0, (1 + r18_0), (some ⟨b5, 0, none⟩), 0, 0, [], w9) (⟨E, O1, O7, S, G5.wide (by omega) (by omega), Nat.le_refl _, by omega, by omega, Nat.le_refl _, by omega, by omega, by omega, (by intro x hx; cases hx)⟩) ⟨rfl, rfl, rfl, rfl, rfl, rfl, rfl, trivial⟩ rfl
  intro i_ hI_ hback4
  obtain ⟨j, n, day, holder, sea, q, m, d, zs, wr⟩ := i_
  obtain ⟨E, O_b1, O_b6, S, GC, lz_wr, hj, hn0, hjj, hday, hho, hse, hall⟩ := hI_
  try dsimp only
  have zr := E.size
  have lt_b1 := O_b1.lt
  have lt_b6 := O_b6.lt
  refine run_seq ?_
  refine run_seq ?_
  refine run_region ?_
  refine ov (xmove rfl) rfl rfl rfl ?_
  refine ov (xgtr rfl rfl _ rfl) rfl rfl rfl ?_
  refine ods (fun c31 => ?_) (fun c31 => ?_)
  ·
    refine ops_nil ?_
    refine run_cond_t rfl ?_
    refine run_skip ?_
    refine run_seq ?_
    refine run_block ?_
    refine run_seq ?_
    refine run_region ?_
    refine ov (xmove rfl) rfl rfl rfl ?_
    refine ov (xmove rfl) rfl rfl rfl ?_
    refine oc (xcall Try.call114 rfl) rfl rfl rfl (l01Next_ok b cb (8) _ S) ?_
    rintro _ w10 ⟨r36_0, rfl, h36_0, h36_1, m10, S10⟩
    have z10 := m10.size
    have E := E.trans m10
    replace GC := GC.off m10 (by omega)
    replace O_b1 := m10.own O_b1 (by omega)
    replace O_b6 := m10.own O_b6 (by omega)
    replace S := S10
    refine ov (xadd rfl rfl (by unfold I64; omega)) rfl rfl rfl ?_
    refine ov (xassign rfl) rfl rfl rfl ?_
    refine ops_nil ?_
    refine run_seq ?_
    refine run_region ?_
    refine ov (xmove rfl) rfl rfl rfl ?_
    refine oc (xcall Try.call120 rfl) rfl rfl rfl (l01Good_ok b cb _ S) ?_
    rintro _ w11 ⟨r39_0, rfl, h39_0, m11, S11⟩
    have z11 := m11.size
    have E := E.trans m11
    replace GC := GC.off m11 (by omega)
    replace O_b1 := m11.own O_b1 (by omega)
    replace O_b6 := m11.own O_b6 (by omega)
    replace S := S11
    refine ov (xassign rfl) rfl rfl rfl ?_
    refine ops_nil ?_
    refine run_seq ?_
    refine run_seq ?_
    refine run_region ?_
    refine ov (xmove rfl) rfl rfl rfl ?_
    refine oc (xcall Try.call114 rfl) rfl rfl rfl (l01Next_ok b cb (4) _ S) ?_
    rintro _ w12 ⟨r41_0, rfl, h41_0, h41_1, m12, S12⟩
    have z12 := m12.size
    have E := E.trans m12
    replace GC := GC.off m12 (by omega)
    replace O_b1 := m12.own O_b1 (by omega)
    replace O_b6 := m12.own O_b6 (by omega)
    replace S := S12
    refine ov (xeql rfl rfl _ rfl) rfl rfl rfl ?_
    refine ods (fun c42 => ?_) (fun c42 => ?_)
    ·
      refine ops_nil ?_
      refine run_cond_t rfl ?_
      refine run_region ?_
      refine ov (xmove rfl) rfl rfl rfl ?_
      refine oc (xcall Try.call114 rfl) rfl rfl rfl (l01Next_ok b cb (9) _ S) ?_
      rintro _ w13 ⟨r44_0, rfl, h44_0, h44_1, m13, S13⟩
      have z13 := m13.size
      have E := E.trans m13
      replace GC := GC.off m13 (by omega)
      replace O_b1 := m13.own O_b1 (by omega)
      replace O_b6 := m13.own O_b6 (by omega)
      replace S := S13
      refine ov (xadd rfl rfl (by unfold I64; omega)) rfl rfl rfl ?_
      refine ov (xassign rfl) rfl rfl rfl ?_
      refine ops_nil ?_
      refine run_seq ?_
      refine run_region ?_
      refine ov (xmove rfl) rfl rfl rfl ?_
      refine ov (xmove rfl) rfl rfl rfl ?_
      refine ov (xsneq rfl rfl _ rfl) rfl rfl rfl ?_
      refine ods (fun c48 => ?_) (fun c48 => ?_)
      ·
        refine ops_nil ?_
        refine run_cond_t rfl ?_
        refine run_seq ?_
        refine run_region ?_
        refine ov (xfieldAddr fo49f4 rfl) rfl rfl rfl ?_
        refine ov (v := .slice q m d) (xload1 Try.isAgg47 rfl (O_b6.cells) rfl) rfl rfl rfl ?_
        refine ov (xmove rfl) rfl rfl rfl ?_
        refine ov (xmove rfl) rfl rfl rfl ?_
        refine ov (xmove rfl) rfl rfl rfl ?_
        refine ov (xmove rfl) rfl rfl rfl ?_
        refine ov (xbuild (vs := [.int .i64 (day + r36_0), .string holder, .string r39_0, .int .i64 (1 + r44_0)]) (cells := #[.int .i64 (day + r36_0), .string holder, .string r39_0, .int .i64 (1 + r44_0)]) rfl (by kernel_rfl)) rfl rfl rfl ?_
        refine obuild (cs := [.int .i64 (day + r36_0), .string holder, .string r39_0, .int .i64 (1 + r44_0)]) (sz := 4) Try.underlying47 inf77 rfl rfl (by decide) rfl rfl (by simp [Value.cells]) rfl rfl rfl ?_
        intro b14 w14 e14 hb14 hz14 O14
        have E := E.trans (Mk.ofExt e14)
        replace S := S.ext e14
        replace GC := GC.ext e14
        replace O_b1 := O_b1.ext e14
        replace O_b6 := O_b6.ext e14
        refine oappT (bytes := 48) (nm := (m + 1)) GC rfl rfl elem77 (Own.sl1 (y := (⟨((day + r36_0)), (holder), (r39_0), ((1 + r44_0))⟩ : Handing)) O14) (by intro h; cases h) (by intro y hy; rfl) (by intro y hy u hu; rw [List.mem_singleton] at hy; subst hy; revert u; simp [Value.oneCell', Handing.cells]) (by omega) (by omega) (by omega) (by omega) rfl rfl ?_
        intro p15 c15_ w15 m15 k15 G15
        have hz15 := m15.size
        have E := E.young m15 (by omega)
        replace S := S.off m15 (by omega)
        replace O_b1 := (by first | exact m15.own O_b1 (by omega) | exact k15.off_own O_b1 (GC.neT O_b1 (by decide)))
        replace O_b6 := (by first | exact m15.own O_b6 (by omega) | exact k15.off_own O_b6 (GC.neT O_b6 (by decide)))
        try replace O14 := m15.own O14 (by omega)
        refine ov (xfieldAddr fo49f4 rfl) rfl rfl rfl ?_
        refine ostore1 Try.sizeOf47 rfl rfl O_b6 (by simp) rfl rfl ?_
        intro w16 on16 O16
        have hz16 := on16.size
        have E : Mk b (b + 1) w w16 := by first | exact E.trans (Mk.ofOnly on16 (by omega) (by omega)) | exact E.young (Mk.ofOnly on16 (Nat.le_refl _) (Nat.lt_succ_self _)) (by omega)
        replace S := S.off (Mk.ofOnly on16 (Nat.le_refl _) (Nat.lt_succ_self _)) (by omega)
        replace G15 := G15.onlyT O_b6 (by decide) on16
        replace O_b1 := on16.own O_b1 (by omega)
        replace O14 := on16.own O14 (by omega)
        replace O16 : Own w16 b6 [.string name, .string r13_0, .int .i64 (100 + r15_0), .int .i64 (1 + r18_0), .slice p15 (m + 1) c15_] 49 := O16
        refine ops_nil ?_
        refine run_region ?_
        refine ov (xmove rfl) rfl rfl rfl ?_
        refine ov (xassign rfl) rfl rfl rfl ?_
        refine ops_nil ?_
        refine run_inBlock ?_
        refine run_region ?_
        refine ov (xmove rfl) rfl rfl rfl ?_
        refine ov (xsub rfl rfl (by unfold I64; omega)) rfl rfl rfl ?_
        refine ov (xassign rfl) rfl rfl rfl ?_
        refine ops_nil ?_
        refine run_sub ?_ (hback4 (j + 1, n - 1, day + r36_0, r39_0, (1 + r44_0), p15, (m + 1), c15_, (zs ++ [(⟨day + r36_0, holder, r39_0, (1 + r44_0)⟩ : Handing)]), w16) (⟨E, O_b1, O16, S, G15.wide (by omega) (by omega), by omega, by omega, by omega, by omega, by omega, by omega, by omega, ok_app3 hall ⟨by dsimp only; omega, by dsimp only; omega, by dsimp only; omega, by dsimp only; omega⟩⟩) (by first | omega | (dsimp only; omega)))
        exact ⟨rfl, rfl, rfl, rfl, rfl, rfl, rfl, trivial⟩
      ·
        refine ops_nil ?_
        refine run_cond_f rfl ?_
        refine run_skip ?_
        refine run_inBlock ?_
        refine run_region ?_
        refine ov (xmove rfl) rfl rfl rfl ?_
        refine ov (xsub rfl rfl (by unfold I64; omega)) rfl rfl rfl ?_
        refine ov (xassign rfl) rfl rfl rfl ?_
        refine ops_nil ?_
        refine run_sub ?_ (hback4 (j + 1, n - 1, day + r36_0, holder, (1 + r44_0), q, m, d, zs, w13) (⟨E, O_b1, O_b6, S, GC.wide (by omega) (by omega), by omega, by omega, by omega, by omega, by omega, by omega, by omega, hall⟩) (by first | omega | (dsimp only; omega)))
        exact ⟨rfl, rfl, rfl, rfl, rfl, rfl, rfl, trivial⟩
    ·
      refine ops_nil ?_
      refine run_cond_f rfl ?_
      refine run_skip ?_
      refine run_seq ?_
      refine run_region ?_
      refine ov (xmove rfl) rfl rfl rfl ?_
      refine ov (xmove rfl) rfl rfl rfl ?_
      refine ov (xsneq rfl rfl _ rfl) rfl rfl rfl ?_
      refine ods (fun c48 => ?_) (fun c48 => ?_)
      ·
        refine ops_nil ?_
        refine run_cond_t rfl ?_
        refine run_seq ?_
        refine run_region ?_
        refine ov (xfieldAddr fo49f4 rfl) rfl rfl rfl ?_
        refine ov (v := .slice q m d) (xload1 Try.isAgg47 rfl (O_b6.cells) rfl) rfl rfl rfl ?_
        refine ov (xmove rfl) rfl rfl rfl ?_
        refine ov (xmove rfl) rfl rfl rfl ?_
        refine ov (xmove rfl) rfl rfl rfl ?_
        refine ov (xmove rfl) rfl rfl rfl ?_
        refine ov (xbuild (vs := [.int .i64 (day + r36_0), .string holder, .string r39_0, .int .i64 sea]) (cells := #[.int .i64 (day + r36_0), .string holder, .string r39_0, .int .i64 sea]) rfl (by kernel_rfl)) rfl rfl rfl ?_
        refine obuild (cs := [.int .i64 (day + r36_0), .string holder, .string r39_0, .int .i64 sea]) (sz := 4) Try.underlying47 inf77 rfl rfl (by decide) rfl rfl (by simp [Value.cells]) rfl rfl rfl ?_
        intro b13 w13 e13 hb13 hz13 O13
        have E := E.trans (Mk.ofExt e13)
        replace S := S.ext e13
        replace GC := GC.ext e13
        replace O_b1 := O_b1.ext e13
        replace O_b6 := O_b6.ext e13
        refine oappT (bytes := 48) (nm := (m + 1)) GC rfl rfl elem77 (Own.sl1 (y := (⟨((day + r36_0)), (holder), (r39_0), (sea)⟩ : Handing)) O13) (by intro h; cases h) (by intro y hy; rfl) (by intro y hy u hu; rw [List.mem_singleton] at hy; subst hy; revert u; simp [Value.oneCell', Handing.cells]) (by omega) (by omega) (by omega) (by omega) rfl rfl ?_
        intro p14 c14_ w14 m14 k14 G14
        have hz14 := m14.size
        have E := E.young m14 (by omega)
        replace S := S.off m14 (by omega)
        replace O_b1 := (by first | exact m14.own O_b1 (by omega) | exact k14.off_own O_b1 (GC.neT O_b1 (by decide)))
        replace O_b6 := (by first | exact m14.own O_b6 (by omega) | exact k14.off_own O_b6 (GC.neT O_b6 (by decide)))
        try replace O13 := m14.own O13 (by omega)
        refine ov (xfieldAddr fo49f4 rfl) rfl rfl rfl ?_
        refine ostore1 Try.sizeOf47 rfl rfl O_b6 (by simp) rfl rfl ?_
        intro w15 on15 O15
        have hz15 := on15.size
        have E : Mk b (b + 1) w w15 := by first | exact E.trans (Mk.ofOnly on15 (by omega) (by omega)) | exact E.young (Mk.ofOnly on15 (Nat.le_refl _) (Nat.lt_succ_self _)) (by omega)
        replace S := S.off (Mk.ofOnly on15 (Nat.le_refl _) (Nat.lt_succ_self _)) (by omega)
        replace G14 := G14.onlyT O_b6 (by decide) on15
        replace O_b1 := on15.own O_b1 (by omega)
        replace O13 := on15.own O13 (by omega)
        replace O15 : Own w15 b6 [.string name, .string r13_0, .int .i64 (100 + r15_0), .int .i64 (1 + r18_0), .slice p14 (m + 1) c14_] 49 := O15
        refine ops_nil ?_
        refine run_region ?_
        refine ov (xmove rfl) rfl rfl rfl ?_
        refine ov (xassign rfl) rfl rfl rfl ?_
        refine ops_nil ?_
        refine run_inBlock ?_
        refine run_region ?_
        refine ov (xmove rfl) rfl rfl rfl ?_
        refine ov (xsub rfl rfl (by unfold I64; omega)) rfl rfl rfl ?_
        refine ov (xassign rfl) rfl rfl rfl ?_
        refine ops_nil ?_
        refine run_sub ?_ (hback4 (j + 1, n - 1, day + r36_0, r39_0, sea, p14, (m + 1), c14_, (zs ++ [(⟨day + r36_0, holder, r39_0, sea⟩ : Handing)]), w15) (⟨E, O_b1, O15, S, G14.wide (by omega) (by omega), by omega, by omega, by omega, by omega, by omega, by omega, by omega, ok_app3 hall ⟨by dsimp only; omega, by dsimp only; omega, by dsimp only; omega, by dsimp only; omega⟩⟩) (by first | omega | (dsimp only; omega)))
        exact ⟨rfl, rfl, rfl, rfl, rfl, rfl, rfl, trivial⟩
      ·
        refine ops_nil ?_
        refine run_cond_f rfl ?_
        refine run_skip ?_
        refine run_inBlock ?_
        refine run_region ?_
        refine ov (xmove rfl) rfl rfl rfl ?_
        refine ov (xsub rfl rfl (by unfold I64; omega)) rfl rfl rfl ?_
        refine ov (xassign rfl) rfl rfl rfl ?_
        refine ops_nil ?_
        refine run_sub ?_ (hback4 (j + 1, n - 1, day + r36_0, holder, sea, q, m, d, zs, w12) (⟨E, O_b1, O_b6, S, GC.wide (by omega) (by omega), by omega, by omega, by omega, by omega, by omega, by omega, by omega, hall⟩) (by first | omega | (dsimp only; omega)))
        exact ⟨rfl, rfl, rfl, rfl, rfl, rfl, rfl, trivial⟩
  ·
    refine ops_nil ?_
    refine run_cond_f rfl ?_
    refine run_exit rfl ?_
    refine run_seq ?_
    refine run_region ?_
    refine ov (v := .agg #[.string name, .string r13_0, .int .i64 (100 + r15_0), .int .i64 (1 + r18_0), .slice q m d]) (xloadN Try.isAgg49 Try.sizeOf49 rfl (O_b6.cells) rfl) rfl rfl rfl ?_
    refine ostoreN (vs := _) Try.sizeOf49 rfl rfl O_b1 rfl (by simp) (by simp [Value.oneCell']) rfl ?_
    intro w10 on10 O10
    have hz10 := on10.size
    have E : Mk b (b + 1) w w10 := by first | exact E.trans (Mk.ofOnly on10 (by omega) (by omega)) | exact E.young (Mk.ofOnly on10 (Nat.le_refl _) (Nat.lt_succ_self _)) (by omega)
    replace S := S.off (Mk.ofOnly on10 (Nat.le_refl _) (Nat.lt_succ_self _)) (by omega)
    replace GC := GC.onlyT O_b1 (by decide) on10
    replace O_b6 := on10.own O_b6 (by omega)
    replace O10 : Own w10 b1 [.string name, .string r13_0, .int .i64 (100 + r15_0), .int .i64 (1 + r18_0), .slice q m d] 49 := O10
    refine ops_nil ?_
    refine run_ret Try.func138 (resc1 rfl rfl (run_loadVar_cells Try.isAgg49 Try.sizeOf49 O10.cells rfl)) ?_
    exact ⟨_, rfl, ⟨name, r13_0, 100 + r15_0, 1 + r18_0, zs⟩, _, _, _, rfl, ⟨hnm, by dsimp only; omega, by dsimp only; omega, by dsimp only; omega, hall⟩, by omega, GC.wide (by omega) (by omega), E, S⟩

set_option maxHeartbeats 8000000 in
theorem l23Draw_ok (b cb : Nat) (name : ByteArray) (w : World) (S : Src w b cb) (hnm : name.size ≤ 100) : Ret Try.prog 113 [.pointer (some ⟨b, 0, none⟩), .string name] w (fun v w' => ∃ (x : Exhibit) (q : Option Addr) (m d : Nat), v = .agg #[.string x.Code, .string x.Found, .int .i64 x.Day, .int .i64 x.Seal, .slice q m d] ∧ exOk x ∧ m ≤ 13 ∧ Ow Handing.cells 4 77 w' w.heap.size w'.heap.size q m d x.Chain ∧ Mk b (b + 1) w w' ∧ Src w' b cb) := by
  refine ret_of_run (N := 89) Try.func113 rfl rfl rfl ?_
  have hbl := S.lt
  have hcb := S.cb
  have E : Mk b (b + 1) w w := Mk.refl _ _ _
  refine run_seq ?_
  refine run_region ?_
  refine oalloc Try.zeroValue49 rfl rfl ?_
  intro b1 w1 e1 hb1 hz1 O1
  have E := E.trans (Mk.ofExt e1)
  replace S := S.ext e1
  replace O1 : Own w1 b1 [.string ⟨#[]⟩, .string ⟨#[]⟩, .int .i64 0, .int .i64 0, .slice none 0 0] 49 := O1
  refine ops_nil ?_
  refine run_seq ?_
  refine run_region ?_
  refine ov (xmove rfl) rfl rfl rfl ?_
  refine ov (xmove rfl) rfl rfl rfl ?_
  refine oc (xcall Try.call138 rfl) rfl rfl rfl (l23Good_ok b cb (name) _ S (by first | omega | decide)) ?_
  rintro _ w2 ⟨r9_0, r9_1, r9_2, r9_3, rfl, h9_0, h9_1, h9_2, m2, S2⟩
  have z2 := m2.size
  have E := E.trans m2
  replace O1 := m2.own O1 (by omega)
  replace S := S2
  have h9_2l := h9_2.len
  refine oalloc Try.zeroValue49 rfl rfl ?_
  intro b3 w3 e3 hb3 hz3 O3
  have E := E.trans (Mk.ofExt e3)
  replace S := S.ext e3
  replace h9_2 := h9_2.ext e3
  replace O1 := O1.ext e3
  replace O3 : Own w3 b3 [.string ⟨#[]⟩, .string ⟨#[]⟩, .int .i64 0, .int .i64 0, .slice none 0 0] 49 := O3
  refine ostoreN (vs := _) Try.sizeOf49 rfl rfl O3 rfl (by simp) (by simp [Value.oneCell']) rfl ?_
  intro w4 on4 O4
  have hz4 := on4.size
  have E : Mk b (b + 1) w w4 := by first | exact E.trans (Mk.ofOnly on4 (by omega) (by omega)) | exact E.young (Mk.ofOnly on4 (Nat.le_refl _) (Nat.lt_succ_self _)) (by omega)
  replace S := S.off (Mk.ofOnly on4 (Nat.le_refl _) (Nat.lt_succ_self _)) (by omega)
  replace h9_2 := h9_2.onlyT O3 (by decide) on4
  replace O1 := on4.own O1 (by omega)
  replace O4 : Own w4 b3 [.string (r9_0).Code, .string (r9_0).Found, .int .i64 (r9_0).Day, .int .i64 (r9_0).Seal, .slice r9_1 r9_2 r9_3] 49 := O4
  refine ops_nil ?_
  refine run_seq ?_
  refine run_seq ?_
  refine run_region ?_
  refine ov (xfieldAddr fo49f4 rfl) rfl rfl rfl ?_
  refine ov (v := .slice r9_1 r9_2 r9_3) (xload1 Try.isAgg47 rfl (O4.cells) rfl) rfl rfl rfl ?_
  refine ov (xlen Try.underlying47 rfl) rfl rfl rfl ?_
  refine ov (xgtr rfl rfl _ rfl) rfl rfl rfl ?_
  refine ods (fun c13 => ?_) (fun c13 => ?_)
  ·
    refine ops_nil ?_
    refine run_cond_t rfl ?_
    refine run_seq ?_
    refine run_region ?_
    refine ov (xmove rfl) rfl rfl rfl ?_
    refine ov (xfieldAddr fo49f4 rfl) rfl rfl rfl ?_
    refine ov (v := .slice r9_1 r9_2 r9_3) (xload1 Try.isAgg47 rfl (O4.cells) rfl) rfl rfl rfl ?_
    refine ov (xlen Try.underlying47 rfl) rfl rfl rfl ?_
    refine oc (xcall Try.call114 rfl) rfl rfl rfl (l01Next_ok b cb ((r9_2 : Int)) _ S) ?_
    rintro _ w5 ⟨r18_0, rfl, h18_0, h18_1, m5, S5⟩
    have z5 := m5.size
    have E := E.trans m5
    replace h9_2 := h9_2.off m5 (by omega)
    replace O1 := m5.own O1 (by omega)
    replace O4 := m5.own O4 (by omega)
    replace S := S5
    refine ov (xassign rfl) rfl rfl rfl ?_
    refine ops_nil ?_
    refine run_seq ?_
    refine run_region ?_
    refine ov (xmove rfl) rfl rfl rfl ?_
    refine oc (xcall Try.call114 rfl) rfl rfl rfl (l01Next_ok b cb (16) _ S) ?_
    rintro _ w6 ⟨r20_0, rfl, h20_0, h20_1, m6, S6⟩
    have z6 := m6.size
    have E := E.trans m6
    replace h9_2 := h9_2.off m6 (by omega)
    replace O1 := m6.own O1 (by omega)
    replace O4 := m6.own O4 (by omega)
    replace S := S6
    refine ops_nil ?_
    refine run_block ?_
    refine run_seq ?_
    refine run_region ?_
    refine ov (xeql rfl rfl _ rfl) rfl rfl rfl ?_
    refine ods (fun c22 => ?_) (fun c22 => ?_)
    ·
      refine ov (xassign rfl) rfl rfl rfl ?_
      refine ops_nil ?_
      refine run_cond_t rfl ?_
      refine run_rg (τ := [(0, .pointer (some ⟨b, 0, none⟩)), (4, .pointer (some ⟨b1, 0, none⟩)), (5, .pointer (some ⟨b3, 0, none⟩)), (6, .int .i64 r18_0)]) 7 [23, 24, 25, 26, 27, 28, 29] (fun u_ => Mk b (b + 1) w6 u_ ∧ Src u_ b cb) (fun i_ => Mk b (b + 1)) (fun i_ v_ u_ => match i_ with | 0 => v_ = .pointer (some ⟨b3, 0 + 4, none⟩) | 1 => v_ = .slice r9_1 r9_2 r9_3 | 2 => v_ = .int .i64 r18_0 | 3 => v_ = .pointer (some ⟨b, 0, none⟩) | 4 => ∃ (y0_ : ByteArray), v_ = .string y0_ ∧ (y0_).size ≤ 100 | 5 => v_ = .pointer (some ⟨pb r9_1, po r9_1 + r18_0.toNat * 4, none⟩) | 6 => v_ = .pointer (some ⟨pb r9_1, po r9_1 + r18_0.toNat * 4 + 1, none⟩) | _ => True) [(4, some 27), (6, some 29)] (by kernel_rfl) (by kernel_rfl) (by kernel_rfl) (by kernel_rfl) (by kernel_rfl) (by kernel_rfl) ⟨rfl, rfl, rfl, rfl, trivial⟩ rfl (fun u_ e_ z_ => ⟨Mk.ofExt e_, S.ext e_⟩) ?_ ?_ ?_
      · intro i_ j_ hi_ hj_ hij_ v_ u_ u2_ I_ I2_ r_ g_
        have zu_ := I_.1.size
        clear hi_
        rcases (by omega : j_ = 0 ∨ j_ = 1 ∨ j_ = 2 ∨ j_ = 3 ∨ j_ = 4 ∨ j_ = 5 ∨ j_ = 6) with rfl | rfl | rfl | rfl | rfl | rfl | rfl
        · exact g_
        · exact g_
        · exact g_
        · exact g_
        · exact g_
        · exact g_
        · exact g_
      ·
        refine rga [] (by kernel_rfl) ?_ ?_
        · intro u_ I_
          have zu_ := I_.1.size
          refine rg_val (xfieldAddr fo49f4 rfl) rfl I_ (Mk.refl _ _ _) rfl
        refine rga [(0, some 23)] (by kernel_rfl) ?_ ?_
        · rintro u_ I_ _ rfl
          have zu_ := I_.1.size
          have OB_ := I_.1.own O4 (by omega)
          refine rg_val (xload1 Try.isAgg47 rfl (OB_.cells) rfl) rfl I_ (Mk.refl _ _ _) rfl
        refine rga [] (by kernel_rfl) ?_ ?_
        · intro u_ I_
          have zu_ := I_.1.size
          refine rg_val (xmove rfl) rfl I_ (Mk.refl _ _ _) rfl
        refine rga [] (by kernel_rfl) ?_ ?_
        · intro u_ I_
          have zu_ := I_.1.size
          refine rg_val (xmove rfl) rfl I_ (Mk.refl _ _ _) rfl
        refine rga [(3, some 26)] (by kernel_rfl) ?_ ?_
        · rintro u_ I_ _ rfl
          have zu_ := I_.1.size
          refine rg_call (xcall Try.call120 rfl) rfl (l01Good_ok b cb _ I_.2) ?_
          rintro _ w_ ⟨r_0, rfl, h_0, m_, S_⟩
          exact ⟨⟨I_.1.trans m_, S_⟩, m_, ⟨r_0, rfl, h_0⟩⟩
        refine rga [(1, some 24), (2, some 25)] (by kernel_rfl) ?_ ?_
        · rintro u_ I_ _ rfl _ rfl
          have zu_ := I_.1.size
          have h9_2 := h9_2.off I_.1 (by omega)
          have hl_ := h9_2.len
          refine rg_val (xindexN (i := r18_0.toNat) Try.underlying47 Try.sizeOf77 rfl rfl (by omega) ((h9_2.sl).p (i := r18_0.toNat) (by omega)) (by omega)) rfl I_ (Mk.refl _ _ _) rfl
        refine rga [(5, some 28)] (by kernel_rfl) ?_ ?_
        · rintro u_ I_ _ rfl
          have zu_ := I_.1.size
          refine rg_val (xfieldAddr fo77f1 rfl) rfl I_ (Mk.refl _ _ _) rfl
        exact rga_nil
      ·
        rintro w7 I_ _ ⟨g27_0, rfl, f27_0⟩ _ rfl
        have m7 := I_.1
        have z7 := m7.size
        have E := E.trans m7
        replace S := I_.2
        replace h9_2 := h9_2.off m7 (by omega)
        replace O1 := m7.own O1 (by omega)
        replace O4 := m7.own O4 (by omega)
        refine ostoreOwF (i := r18_0.toNat) (off := 1) (y := { (r9_0.Chain[r18_0.toNat]'(by omega)) with From := g27_0 }) Try.sizeOf9 h9_2 (by omega) rfl rfl (by decide) rfl rfl rfl ?_
        intro w8 m8 g8
        have z8 := m8.size
        have E := E.young m8 (by omega)
        replace S := S.off m8 (by omega)
        try replace O1 := m8.own O1 (by omega)
        try replace O4 := m8.own O4 (by omega)
        replace h9_2 := g8
        refine ops_nil ?_
        refine run_inBlock ?_
        refine run_seq ?_
        refine run_seq ?_
        refine run_region ?_
        have hq0 := h9_0.2.2.2.2
        have hqk := hq0 _ (List.getElem_mem (by omega : r18_0.toNat < r9_0.Chain.length))
        have hall0 : ∀ h ∈ (r9_0.Chain.set r18_0.toNat { (r9_0.Chain[r18_0.toNat]'(by omega)) with From := g27_0 }), hanOk h := set_ok3 hq0 (by unfold hanOk at hqk ⊢; dsimp only; omega)
        have hl0 := h9_2.len
        refine ov (xmove rfl) rfl rfl rfl ?_
        refine oc (xcall Try.call114 rfl) rfl rfl rfl (l01Next_ok b cb (40) _ S) ?_
        rintro _ w9 ⟨r67_0, rfl, h67_0, h67_1, m9, S9⟩
        have z9 := m9.size
        have E := E.trans m9
        replace h9_2 := h9_2.off m9 (by omega)
        replace O1 := m9.own O1 (by omega)
        replace O4 := m9.own O4 (by omega)
        replace S := S9
        refine ops_nil ?_
        refine run_block ?_
        refine run_seq ?_
        refine run_region ?_
        refine ov (xeql rfl rfl _ rfl) rfl rfl rfl ?_
        refine ods (fun c69 => ?_) (fun c69 => ?_)
        ·
          refine ov (xassign rfl) rfl rfl rfl ?_
          refine ops_nil ?_
          refine run_cond_t rfl ?_
          refine run_region ?_
          refine ov (xmove rfl) rfl rfl rfl ?_
          refine oc (xcall Try.call121 rfl) rfl rfl rfl (l01DrawWord_ok b cb _ S) ?_
          rintro _ w10 ⟨r71_0, rfl, h71_0, m10, S10⟩
          have z10 := m10.size
          have E := E.trans m10
          replace h9_2 := h9_2.off m10 (by omega)
          replace O1 := m10.own O1 (by omega)
          replace O4 := m10.own O4 (by omega)
          replace S := S10
          refine ov (xfieldAddr fo49f1 rfl) rfl rfl rfl ?_
          refine ostore1 Try.sizeOf9 rfl rfl O4 (by simp) rfl rfl ?_
          intro w11 on11 O11
          have hz11 := on11.size
          have E : Mk b (b + 1) w w11 := by first | exact E.trans (Mk.ofOnly on11 (by omega) (by omega)) | exact E.young (Mk.ofOnly on11 (Nat.le_refl _) (Nat.lt_succ_self _)) (by omega)
          replace S := S.off (Mk.ofOnly on11 (Nat.le_refl _) (Nat.lt_succ_self _)) (by omega)
          replace h9_2 := h9_2.onlyT O4 (by decide) on11
          replace O1 := on11.own O1 (by omega)
          replace O11 : Own w11 b3 [.string (r9_0).Code, .string r71_0, .int .i64 (r9_0).Day, .int .i64 (r9_0).Seal, .slice r9_1 r9_2 r9_3] 49 := O11
          refine ops_nil ?_
          refine run_inBlock ?_
          refine run_seq ?_
          refine run_region ?_
          refine ov (v := .agg #[.string (r9_0).Code, .string r71_0, .int .i64 (r9_0).Day, .int .i64 (r9_0).Seal, .slice r9_1 r9_2 r9_3]) (xloadN Try.isAgg49 Try.sizeOf49 rfl (O11.cells) rfl) rfl rfl rfl ?_
          refine ostoreN (vs := _) Try.sizeOf49 rfl rfl O1 rfl (by simp) (by simp [Value.oneCell']) rfl ?_
          intro w12 on12 O12
          have hz12 := on12.size
          have E : Mk b (b + 1) w w12 := by first | exact E.trans (Mk.ofOnly on12 (by omega) (by omega)) | exact E.young (Mk.ofOnly on12 (Nat.le_refl _) (Nat.lt_succ_self _)) (by omega)
          replace S := S.off (Mk.ofOnly on12 (Nat.le_refl _) (Nat.lt_succ_self _)) (by omega)
          replace h9_2 := h9_2.onlyT O1 (by decide) on12
          replace O11 := on12.own O11 (by omega)
          replace O12 : Own w12 b1 [.string (r9_0).Code, .string r71_0, .int .i64 (r9_0).Day, .int .i64 (r9_0).Seal, .slice r9_1 r9_2 r9_3] 49 := O12
          refine ops_nil ?_
          refine run_ret Try.func113 (resc1 rfl rfl (run_loadVar_cells Try.isAgg49 Try.sizeOf49 O12.cells rfl)) ?_
          exact ⟨_, rfl, ⟨r9_0.Code, r71_0, r9_0.Day, r9_0.Seal, (r9_0.Chain.set r18_0.toNat { (r9_0.Chain[r18_0.toNat]'(by omega)) with From := g27_0 })⟩, _, _, _, rfl, ⟨h9_0.1, h71_0, h9_0.2.2.1, h9_0.2.2.2.1, hall0⟩, by omega, h9_2.wide (by omega) (by omega), E, S⟩
        ·
          refine ov (xassign rfl) rfl rfl rfl ?_
          refine ops_nil ?_
          refine run_cond_f rfl ?_
          refine run_seq ?_
          refine run_region ?_
          refine ov (xeql rfl rfl _ rfl) rfl rfl rfl ?_
          refine ods (fun c74 => ?_) (fun c74 => ?_)
          ·
            refine ov (xassign rfl) rfl rfl rfl ?_
            refine ops_nil ?_
            refine run_cond_t rfl ?_
            refine run_block ?_
            refine run_loop (ι := Option Addr × Nat × Nat × List Handing × World) (fun x_ => match x_ with | (q, m, d, zs, wr) => (Mk b (b + 1) w wr) ∧ (Own wr b1 ([.string ⟨#[]⟩, .string ⟨#[]⟩, .int .i64 0, .int .i64 0, .slice none 0 0]) 49) ∧ (Own wr b3 ([.string r9_0.Code, .string r9_0.Found, .int .i64 r9_0.Day, .int .i64 r9_0.Seal, .slice q m d]) 49) ∧ (Src wr b cb) ∧ (Ow Handing.cells 4 77 wr w.heap.size wr.heap.size q m d zs) ∧ (w9.heap.size ≤ wr.heap.size) ∧ (m ≤ 13) ∧ (∀ h ∈ zs, hanOk h)) (fun x_ => match x_ with | (q, m, d, zs, wr) => [(0, .pointer (some ⟨b, 0, none⟩)), (4, .pointer (some ⟨b1, 0, none⟩)), (5, .pointer (some ⟨b3, 0, none⟩))]) (fun x_ => match x_ with | (q, m, d, zs, wr) => wr) (fun x_ => match x_ with | (q, m, d, zs, wr) => 14 - m) ?_ (r9_1, r9_2, r9_3, (r9_0.Chain.set r18_0.toNat { (r9_0.Chain[r18_0.toNat]'(by omega)) with From := g27_0 }), w9) (⟨E, O1, O4, S, h9_2.wide (by omega) (by omega), Nat.le_refl _, by omega, hall0⟩) ⟨rfl, rfl, rfl, trivial⟩ rfl
            intro i_ hI_ hback18
            obtain ⟨q, m, d, zs, wr⟩ := i_
            obtain ⟨E, O_b1, O_b3, S, GC, lz_wr, hm13, hall⟩ := hI_
            try dsimp only
            have zr := E.size
            have lt_b1 := O_b1.lt
            have lt_b3 := O_b3.lt
            refine run_seq ?_
            refine run_seq ?_
            refine run_rg (τ := [(0, .pointer (some ⟨b, 0, none⟩)), (4, .pointer (some ⟨b1, 0, none⟩)), (5, .pointer (some ⟨b3, 0, none⟩))]) 7 [75, 76, 77, 78, 79, 80, 81] (fun u_ => Mk b (b + 1) wr u_ ∧ Src u_ b cb) (fun i_ => Mk b (b + 1)) (fun i_ v_ u_ => match i_ with | 0 => v_ = .pointer (some ⟨b3, 0 + 4, none⟩) | 1 => v_ = .slice q m d | 2 => v_ = .int .i64 (m : Int) | 3 => v_ = .pointer (some ⟨b, 0, none⟩) | 4 => ∃ (y0_ : Int), v_ = .int .i64 y0_ ∧ 0 ≤ y0_ ∧ (y0_ < 2 ∨ y0_ = 0) | 5 => ∃ (y0_ : Int), v_ = .int .i64 (12 + y0_) ∧ 0 ≤ y0_ ∧ (y0_ < 2 ∨ y0_ = 0) | 6 => ∃ (y0_ : Int), v_ = .bool (decide ((m : Int) < (12 + y0_))) ∧ 0 ≤ y0_ ∧ (y0_ < 2 ∨ y0_ = 0) | _ => True) [(6, some 81)] (by kernel_rfl) (by kernel_rfl) (by kernel_rfl) (by kernel_rfl) (by kernel_rfl) (by kernel_rfl) ⟨rfl, rfl, rfl, trivial⟩ rfl (fun u_ e_ z_ => ⟨Mk.ofExt e_, S.ext e_⟩) ?_ ?_ ?_
            · intro i_ j_ hi_ hj_ hij_ v_ u_ u2_ I_ I2_ r_ g_
              have zu_ := I_.1.size
              clear hi_
              rcases (by omega : j_ = 0 ∨ j_ = 1 ∨ j_ = 2 ∨ j_ = 3 ∨ j_ = 4 ∨ j_ = 5 ∨ j_ = 6) with rfl | rfl | rfl | rfl | rfl | rfl | rfl
              · exact g_
              · exact g_
              · exact g_
              · exact g_
              · exact g_
              · exact g_
              · exact g_
            ·
              refine rga [] (by kernel_rfl) ?_ ?_
              · intro u_ I_
                have zu_ := I_.1.size
                refine rg_val (xfieldAddr fo49f4 rfl) rfl I_ (Mk.refl _ _ _) rfl
              refine rga [(0, some 75)] (by kernel_rfl) ?_ ?_
              · rintro u_ I_ _ rfl
                have zu_ := I_.1.size
                have OB_ := I_.1.own O_b3 (by omega)
                refine rg_val (xload1 Try.isAgg47 rfl (OB_.cells) rfl) rfl I_ (Mk.refl _ _ _) rfl
              refine rga [(1, some 76)] (by kernel_rfl) ?_ ?_
              · rintro u_ I_ _ rfl
                have zu_ := I_.1.size
                refine rg_val (xlen Try.underlying47 rfl) rfl I_ (Mk.refl _ _ _) rfl
              refine rga [] (by kernel_rfl) ?_ ?_
              · intro u_ I_
                have zu_ := I_.1.size
                refine rg_val (xmove rfl) rfl I_ (Mk.refl _ _ _) rfl
              refine rga [(3, some 78)] (by kernel_rfl) ?_ ?_
              · rintro u_ I_ _ rfl
                have zu_ := I_.1.size
                refine rg_call (xcall Try.call114 rfl) rfl (l01Next_ok b cb (2) _ I_.2) ?_
                rintro _ w_ ⟨r_0, rfl, h_0, h_1, m_, S_⟩
                exact ⟨⟨I_.1.trans m_, S_⟩, m_, ⟨r_0, rfl, h_0, h_1⟩⟩
              refine rga [(4, some 79)] (by kernel_rfl) ?_ ?_
              · rintro u_ I_ _ ⟨g79_0, rfl, f79_0, f79_1⟩
                have zu_ := I_.1.size
                refine rg_val (xadd rfl rfl (by unfold I64; omega)) rfl I_ (Mk.refl _ _ _) ⟨g79_0, rfl, f79_0, f79_1⟩
              refine rga [(2, some 77), (5, some 80)] (by kernel_rfl) ?_ ?_
              · rintro u_ I_ _ rfl _ ⟨g80_0, rfl, f80_0, f80_1⟩
                have zu_ := I_.1.size
                refine rg_val (xlss rfl rfl _ rfl) rfl I_ (Mk.refl _ _ _) ⟨g80_0, rfl, f80_0, f80_1⟩
              exact rga_nil
            ·
              rintro w10 I_ _ ⟨g81_0, rfl, f81_0, f81_1⟩
              have m10 := I_.1
              have z10 := m10.size
              have E := E.trans m10
              replace S := I_.2
              replace GC := GC.off m10 (by omega)
              replace O_b1 := m10.own O_b1 (by omega)
              replace O_b3 := m10.own O_b3 (by omega)
              refine ops_nil ?_
              refine run_cond_s rfl (fun c81 => ?_) (fun c81 => ?_)
              · replace c81 := of_decide_eq_true c81
                refine run_skip ?_
                refine run_block ?_
                refine run_region ?_
                refine ov (xfieldAddr fo49f4 rfl) rfl rfl rfl ?_
                refine ov (v := .slice q m d) (xload1 Try.isAgg47 rfl (O_b3.cells) rfl) rfl rfl rfl ?_
                refine ov (xbuild (vs := [.int .i64 300, .string ⟨#[97, 100, 97]⟩, .string ⟨#[97, 100, 97]⟩, .int .i64 5]) (cells := #[.int .i64 300, .string ⟨#[97, 100, 97]⟩, .string ⟨#[97, 100, 97]⟩, .int .i64 5]) rfl (by kernel_rfl)) rfl rfl rfl ?_
                refine obuild (cs := [.int .i64 300, .string ⟨#[97, 100, 97]⟩, .string ⟨#[97, 100, 97]⟩, .int .i64 5]) (sz := 4) Try.underlying47 inf77 rfl rfl (by decide) rfl rfl (by simp [Value.cells]) rfl rfl rfl ?_
                intro b11 w11 e11 hb11 hz11 O11
                have E := E.trans (Mk.ofExt e11)
                replace S := S.ext e11
                replace GC := GC.ext e11
                replace O_b1 := O_b1.ext e11
                replace O_b3 := O_b3.ext e11
                refine oappT (bytes := 48) (nm := (m + 1)) GC rfl rfl elem77 (Own.sl1 (y := (⟨300, ⟨#[97, 100, 97]⟩, ⟨#[97, 100, 97]⟩, 5⟩ : Handing)) O11) (by intro h; cases h) (by intro y hy; rfl) (by intro y hy u hu; rw [List.mem_singleton] at hy; subst hy; revert u; simp [Value.oneCell', Handing.cells, i64c]) (by omega) (by omega) (by omega) (by omega) rfl rfl ?_
                intro p12 c12_ w12 m12 k12 G12
                have hz12 := m12.size
                have E := E.young m12 (by omega)
                replace S := S.off m12 (by omega)
                replace O_b1 := (by first | exact m12.own O_b1 (by omega) | exact k12.off_own O_b1 (GC.neT O_b1 (by decide)))
                replace O_b3 := (by first | exact m12.own O_b3 (by omega) | exact k12.off_own O_b3 (GC.neT O_b3 (by decide)))
                try replace O11 := m12.own O11 (by omega)
                refine ov (xfieldAddr fo49f4 rfl) rfl rfl rfl ?_
                refine ostore1 Try.sizeOf47 rfl rfl O_b3 (by simp) rfl rfl ?_
                intro w13 on13 O13
                have hz13 := on13.size
                have E : Mk b (b + 1) w w13 := by first | exact E.trans (Mk.ofOnly on13 (by omega) (by omega)) | exact E.young (Mk.ofOnly on13 (Nat.le_refl _) (Nat.lt_succ_self _)) (by omega)
                replace S := S.off (Mk.ofOnly on13 (Nat.le_refl _) (Nat.lt_succ_self _)) (by omega)
                replace G12 := G12.onlyT O_b3 (by decide) on13
                replace O_b1 := on13.own O_b1 (by omega)
                replace O11 := on13.own O11 (by omega)
                replace O13 : Own w13 b3 [.string r9_0.Code, .string r9_0.Found, .int .i64 r9_0.Day, .int .i64 r9_0.Seal, .slice p12 (m + 1) c12_] 49 := O13
                refine ops_nil ?_
                refine run_inBlock ?_
                refine run_sub ?_ (hback18 (p12, (m + 1), c12_, (zs ++ [(⟨300, ⟨#[97, 100, 97]⟩, ⟨#[97, 100, 97]⟩, 5⟩ : Handing)]), w13) (⟨E, O_b1, O13, S, G12.wide (by omega) (by omega), by omega, by omega, ok_app3 hall ⟨by dsimp only; omega, by dsimp only; decide, by dsimp only; decide, by dsimp only; omega⟩⟩) (by first | omega | (dsimp only; omega)))
                exact ⟨rfl, rfl, rfl, trivial⟩
              · replace c81 := of_decide_eq_false c81
                refine run_exit rfl ?_
                refine run_inBlock ?_
                refine run_seq ?_
                refine run_region ?_
                refine ov (v := .agg #[.string r9_0.Code, .string r9_0.Found, .int .i64 r9_0.Day, .int .i64 r9_0.Seal, .slice q m d]) (xloadN Try.isAgg49 Try.sizeOf49 rfl (O_b3.cells) rfl) rfl rfl rfl ?_
                refine ostoreN (vs := _) Try.sizeOf49 rfl rfl O_b1 rfl (by simp) (by simp [Value.oneCell']) rfl ?_
                intro w11 on11 O11
                have hz11 := on11.size
                have E : Mk b (b + 1) w w11 := by first | exact E.trans (Mk.ofOnly on11 (by omega) (by omega)) | exact E.young (Mk.ofOnly on11 (Nat.le_refl _) (Nat.lt_succ_self _)) (by omega)
                replace S := S.off (Mk.ofOnly on11 (Nat.le_refl _) (Nat.lt_succ_self _)) (by omega)
                replace GC := GC.onlyT O_b1 (by decide) on11
                replace O_b3 := on11.own O_b3 (by omega)
                replace O11 : Own w11 b1 [.string r9_0.Code, .string r9_0.Found, .int .i64 r9_0.Day, .int .i64 r9_0.Seal, .slice q m d] 49 := O11
                refine ops_nil ?_
                refine run_ret Try.func113 (resc1 rfl rfl (run_loadVar_cells Try.isAgg49 Try.sizeOf49 O11.cells rfl)) ?_
                exact ⟨_, rfl, ⟨r9_0.Code, r9_0.Found, r9_0.Day, r9_0.Seal, zs⟩, _, _, _, rfl, ⟨h9_0.1, h9_0.2.1, h9_0.2.2.1, h9_0.2.2.2.1, hall⟩, by omega, GC.wide (by omega) (by omega), E, S⟩
          ·
            refine ov (xassign rfl) rfl rfl rfl ?_
            refine ops_nil ?_
            refine run_cond_f rfl ?_
            refine run_skip ?_
            refine run_inBlock ?_
            refine run_seq ?_
            refine run_region ?_
            refine ov (v := .agg #[.string (r9_0).Code, .string (r9_0).Found, .int .i64 (r9_0).Day, .int .i64 (r9_0).Seal, .slice r9_1 r9_2 r9_3]) (xloadN Try.isAgg49 Try.sizeOf49 rfl (O4.cells) rfl) rfl rfl rfl ?_
            refine ostoreN (vs := _) Try.sizeOf49 rfl rfl O1 rfl (by simp) (by simp [Value.oneCell']) rfl ?_
            intro w10 on10 O10
            have hz10 := on10.size
            have E : Mk b (b + 1) w w10 := by first | exact E.trans (Mk.ofOnly on10 (by omega) (by omega)) | exact E.young (Mk.ofOnly on10 (Nat.le_refl _) (Nat.lt_succ_self _)) (by omega)
            replace S := S.off (Mk.ofOnly on10 (Nat.le_refl _) (Nat.lt_succ_self _)) (by omega)
            replace h9_2 := h9_2.onlyT O1 (by decide) on10
            replace O4 := on10.own O4 (by omega)
            replace O10 : Own w10 b1 [.string (r9_0).Code, .string (r9_0).Found, .int .i64 (r9_0).Day, .int .i64 (r9_0).Seal, .slice r9_1 r9_2 r9_3] 49 := O10
            refine ops_nil ?_
            refine run_ret Try.func113 (resc1 rfl rfl (run_loadVar_cells Try.isAgg49 Try.sizeOf49 O10.cells rfl)) ?_
            exact ⟨_, rfl, ⟨r9_0.Code, (r9_0).Found, r9_0.Day, r9_0.Seal, (r9_0.Chain.set r18_0.toNat { (r9_0.Chain[r18_0.toNat]'(by omega)) with From := g27_0 })⟩, _, _, _, rfl, ⟨h9_0.1, h9_0.2.1, h9_0.2.2.1, h9_0.2.2.2.1, hall0⟩, by omega, h9_2.wide (by omega) (by omega), E, S⟩
    ·
      refine ov (xassign rfl) rfl rfl rfl ?_
      refine ops_nil ?_
      refine run_cond_f rfl ?_
      refine run_seq ?_
      refine run_region ?_
      refine ov (xeql rfl rfl _ rfl) rfl rfl rfl ?_
      refine ods (fun c31 => ?_) (fun c31 => ?_)
      ·
        refine ov (xassign rfl) rfl rfl rfl ?_
        refine ops_nil ?_
        refine run_cond_t rfl ?_
        refine run_rg (τ := [(0, .pointer (some ⟨b, 0, none⟩)), (4, .pointer (some ⟨b1, 0, none⟩)), (5, .pointer (some ⟨b3, 0, none⟩)), (6, .int .i64 r18_0)]) 8 [32, 33, 34, 35, 36, 37, 38, 39] (fun u_ => Mk b (b + 1) w6 u_ ∧ Src u_ b cb) (fun i_ => Mk b (b + 1)) (fun i_ v_ u_ => match i_ with | 0 => v_ = .pointer (some ⟨b3, 0 + 4, none⟩) | 1 => v_ = .slice r9_1 r9_2 r9_3 | 2 => v_ = .int .i64 r18_0 | 3 => v_ = .pointer (some ⟨b, 0, none⟩) | 4 => ∃ (y0_ : Int), v_ = .int .i64 y0_ ∧ 0 ≤ y0_ ∧ (y0_ < 20 ∨ y0_ = 0) | 5 => ∃ (y0_ : Int), v_ = .int .i64 (99 + y0_) ∧ 0 ≤ y0_ ∧ (y0_ < 20 ∨ y0_ = 0) | 6 => v_ = .pointer (some ⟨pb r9_1, po r9_1 + r18_0.toNat * 4, none⟩) | 7 => v_ = .pointer (some ⟨pb r9_1, po r9_1 + r18_0.toNat * 4 + 0, none⟩) | _ => True) [(5, some 37), (7, some 39)] (by kernel_rfl) (by kernel_rfl) (by kernel_rfl) (by kernel_rfl) (by kernel_rfl) (by kernel_rfl) ⟨rfl, rfl, rfl, rfl, trivial⟩ rfl (fun u_ e_ z_ => ⟨Mk.ofExt e_, S.ext e_⟩) ?_ ?_ ?_
        · intro i_ j_ hi_ hj_ hij_ v_ u_ u2_ I_ I2_ r_ g_
          have zu_ := I_.1.size
          clear hi_
          rcases (by omega : j_ = 0 ∨ j_ = 1 ∨ j_ = 2 ∨ j_ = 3 ∨ j_ = 4 ∨ j_ = 5 ∨ j_ = 6 ∨ j_ = 7) with rfl | rfl | rfl | rfl | rfl | rfl | rfl | rfl
          · exact g_
          · exact g_
          · exact g_
          · exact g_
          · exact g_
          · exact g_
          · exact g_
          · exact g_
        ·
          refine rga [] (by kernel_rfl) ?_ ?_
          · intro u_ I_
            have zu_ := I_.1.size
            refine rg_val (xfieldAddr fo49f4 rfl) rfl I_ (Mk.refl _ _ _) rfl
          refine rga [(0, some 32)] (by kernel_rfl) ?_ ?_
          · rintro u_ I_ _ rfl
            have zu_ := I_.1.size
            have OB_ := I_.1.own O4 (by omega)
            refine rg_val (xload1 Try.isAgg47 rfl (OB_.cells) rfl) rfl I_ (Mk.refl _ _ _) rfl
          refine rga [] (by kernel_rfl) ?_ ?_
          · intro u_ I_
            have zu_ := I_.1.size
            refine rg_val (xmove rfl) rfl I_ (Mk.refl _ _ _) rfl
          refine rga [] (by kernel_rfl) ?_ ?_
          · intro u_ I_
            have zu_ := I_.1.size
            refine rg_val (xmove rfl) rfl I_ (Mk.refl _ _ _) rfl
          refine rga [(3, some 35)] (by kernel_rfl) ?_ ?_
          · rintro u_ I_ _ rfl
            have zu_ := I_.1.size
            refine rg_call (xcall Try.call114 rfl) rfl (l01Next_ok b cb (20) _ I_.2) ?_
            rintro _ w_ ⟨r_0, rfl, h_0, h_1, m_, S_⟩
            exact ⟨⟨I_.1.trans m_, S_⟩, m_, ⟨r_0, rfl, h_0, h_1⟩⟩
          refine rga [(4, some 36)] (by kernel_rfl) ?_ ?_
          · rintro u_ I_ _ ⟨g36_0, rfl, f36_0, f36_1⟩
            have zu_ := I_.1.size
            refine rg_val (xadd rfl rfl (by unfold I64; omega)) rfl I_ (Mk.refl _ _ _) ⟨g36_0, rfl, f36_0, f36_1⟩
          refine rga [(1, some 33), (2, some 34)] (by kernel_rfl) ?_ ?_
          · rintro u_ I_ _ rfl _ rfl
            have zu_ := I_.1.size
            have h9_2 := h9_2.off I_.1 (by omega)
            have hl_ := h9_2.len
            refine rg_val (xindexN (i := r18_0.toNat) Try.underlying47 Try.sizeOf77 rfl rfl (by omega) ((h9_2.sl).p (i := r18_0.toNat) (by omega)) (by omega)) rfl I_ (Mk.refl _ _ _) rfl
          refine rga [(6, some 38)] (by kernel_rfl) ?_ ?_
          · rintro u_ I_ _ rfl
            have zu_ := I_.1.size
            refine rg_val (xfieldAddr fo77f0 rfl) rfl I_ (Mk.refl _ _ _) rfl
          exact rga_nil
        ·
          rintro w7 I_ _ ⟨g37_0, rfl, f37_0, f37_1⟩ _ rfl
          have m7 := I_.1
          have z7 := m7.size
          have E := E.trans m7
          replace S := I_.2
          replace h9_2 := h9_2.off m7 (by omega)
          replace O1 := m7.own O1 (by omega)
          replace O4 := m7.own O4 (by omega)
          refine ostoreOwF (i := r18_0.toNat) (off := 0) (y := { (r9_0.Chain[r18_0.toNat]'(by omega)) with Day := 99 + g37_0 }) Try.sizeOf2 h9_2 (by omega) rfl rfl (by decide) rfl rfl rfl ?_
          intro w8 m8 g8
          have z8 := m8.size
          have E := E.young m8 (by omega)
          replace S := S.off m8 (by omega)
          try replace O1 := m8.own O1 (by omega)
          try replace O4 := m8.own O4 (by omega)
          replace h9_2 := g8
          refine ops_nil ?_
          refine run_inBlock ?_
          refine run_seq ?_
          refine run_seq ?_
          refine run_region ?_
          have hq0 := h9_0.2.2.2.2
          have hqk := hq0 _ (List.getElem_mem (by omega : r18_0.toNat < r9_0.Chain.length))
          have hall0 : ∀ h ∈ (r9_0.Chain.set r18_0.toNat { (r9_0.Chain[r18_0.toNat]'(by omega)) with Day := 99 + g37_0 }), hanOk h := set_ok3 hq0 (by unfold hanOk at hqk ⊢; dsimp only; omega)
          have hl0 := h9_2.len
          refine ov (xmove rfl) rfl rfl rfl ?_
          refine oc (xcall Try.call114 rfl) rfl rfl rfl (l01Next_ok b cb (40) _ S) ?_
          rintro _ w9 ⟨r67_0, rfl, h67_0, h67_1, m9, S9⟩
          have z9 := m9.size
          have E := E.trans m9
          replace h9_2 := h9_2.off m9 (by omega)
          replace O1 := m9.own O1 (by omega)
          replace O4 := m9.own O4 (by omega)
          replace S := S9
          refine ops_nil ?_
          refine run_block ?_
          refine run_seq ?_
          refine run_region ?_
          refine ov (xeql rfl rfl _ rfl) rfl rfl rfl ?_
          refine ods (fun c69 => ?_) (fun c69 => ?_)
          ·
            refine ov (xassign rfl) rfl rfl rfl ?_
            refine ops_nil ?_
            refine run_cond_t rfl ?_
            refine run_region ?_
            refine ov (xmove rfl) rfl rfl rfl ?_
            refine oc (xcall Try.call121 rfl) rfl rfl rfl (l01DrawWord_ok b cb _ S) ?_
            rintro _ w10 ⟨r71_0, rfl, h71_0, m10, S10⟩
            have z10 := m10.size
            have E := E.trans m10
            replace h9_2 := h9_2.off m10 (by omega)
            replace O1 := m10.own O1 (by omega)
            replace O4 := m10.own O4 (by omega)
            replace S := S10
            refine ov (xfieldAddr fo49f1 rfl) rfl rfl rfl ?_
            refine ostore1 Try.sizeOf9 rfl rfl O4 (by simp) rfl rfl ?_
            intro w11 on11 O11
            have hz11 := on11.size
            have E : Mk b (b + 1) w w11 := by first | exact E.trans (Mk.ofOnly on11 (by omega) (by omega)) | exact E.young (Mk.ofOnly on11 (Nat.le_refl _) (Nat.lt_succ_self _)) (by omega)
            replace S := S.off (Mk.ofOnly on11 (Nat.le_refl _) (Nat.lt_succ_self _)) (by omega)
            replace h9_2 := h9_2.onlyT O4 (by decide) on11
            replace O1 := on11.own O1 (by omega)
            replace O11 : Own w11 b3 [.string (r9_0).Code, .string r71_0, .int .i64 (r9_0).Day, .int .i64 (r9_0).Seal, .slice r9_1 r9_2 r9_3] 49 := O11
            refine ops_nil ?_
            refine run_inBlock ?_
            refine run_seq ?_
            refine run_region ?_
            refine ov (v := .agg #[.string (r9_0).Code, .string r71_0, .int .i64 (r9_0).Day, .int .i64 (r9_0).Seal, .slice r9_1 r9_2 r9_3]) (xloadN Try.isAgg49 Try.sizeOf49 rfl (O11.cells) rfl) rfl rfl rfl ?_
            refine ostoreN (vs := _) Try.sizeOf49 rfl rfl O1 rfl (by simp) (by simp [Value.oneCell']) rfl ?_
            intro w12 on12 O12
            have hz12 := on12.size
            have E : Mk b (b + 1) w w12 := by first | exact E.trans (Mk.ofOnly on12 (by omega) (by omega)) | exact E.young (Mk.ofOnly on12 (Nat.le_refl _) (Nat.lt_succ_self _)) (by omega)
            replace S := S.off (Mk.ofOnly on12 (Nat.le_refl _) (Nat.lt_succ_self _)) (by omega)
            replace h9_2 := h9_2.onlyT O1 (by decide) on12
            replace O11 := on12.own O11 (by omega)
            replace O12 : Own w12 b1 [.string (r9_0).Code, .string r71_0, .int .i64 (r9_0).Day, .int .i64 (r9_0).Seal, .slice r9_1 r9_2 r9_3] 49 := O12
            refine ops_nil ?_
            refine run_ret Try.func113 (resc1 rfl rfl (run_loadVar_cells Try.isAgg49 Try.sizeOf49 O12.cells rfl)) ?_
            exact ⟨_, rfl, ⟨r9_0.Code, r71_0, r9_0.Day, r9_0.Seal, (r9_0.Chain.set r18_0.toNat { (r9_0.Chain[r18_0.toNat]'(by omega)) with Day := 99 + g37_0 })⟩, _, _, _, rfl, ⟨h9_0.1, h71_0, h9_0.2.2.1, h9_0.2.2.2.1, hall0⟩, by omega, h9_2.wide (by omega) (by omega), E, S⟩
          ·
            refine ov (xassign rfl) rfl rfl rfl ?_
            refine ops_nil ?_
            refine run_cond_f rfl ?_
            refine run_seq ?_
            refine run_region ?_
            refine ov (xeql rfl rfl _ rfl) rfl rfl rfl ?_
            refine ods (fun c74 => ?_) (fun c74 => ?_)
            ·
              refine ov (xassign rfl) rfl rfl rfl ?_
              refine ops_nil ?_
              refine run_cond_t rfl ?_
              refine run_block ?_
              refine run_loop (ι := Option Addr × Nat × Nat × List Handing × World) (fun x_ => match x_ with | (q, m, d, zs, wr) => (Mk b (b + 1) w wr) ∧ (Own wr b1 ([.string ⟨#[]⟩, .string ⟨#[]⟩, .int .i64 0, .int .i64 0, .slice none 0 0]) 49) ∧ (Own wr b3 ([.string r9_0.Code, .string r9_0.Found, .int .i64 r9_0.Day, .int .i64 r9_0.Seal, .slice q m d]) 49) ∧ (Src wr b cb) ∧ (Ow Handing.cells 4 77 wr w.heap.size wr.heap.size q m d zs) ∧ (w9.heap.size ≤ wr.heap.size) ∧ (m ≤ 13) ∧ (∀ h ∈ zs, hanOk h)) (fun x_ => match x_ with | (q, m, d, zs, wr) => [(0, .pointer (some ⟨b, 0, none⟩)), (4, .pointer (some ⟨b1, 0, none⟩)), (5, .pointer (some ⟨b3, 0, none⟩))]) (fun x_ => match x_ with | (q, m, d, zs, wr) => wr) (fun x_ => match x_ with | (q, m, d, zs, wr) => 14 - m) ?_ (r9_1, r9_2, r9_3, (r9_0.Chain.set r18_0.toNat { (r9_0.Chain[r18_0.toNat]'(by omega)) with Day := 99 + g37_0 }), w9) (⟨E, O1, O4, S, h9_2.wide (by omega) (by omega), Nat.le_refl _, by omega, hall0⟩) ⟨rfl, rfl, rfl, trivial⟩ rfl
              intro i_ hI_ hback18
              obtain ⟨q, m, d, zs, wr⟩ := i_
              obtain ⟨E, O_b1, O_b3, S, GC, lz_wr, hm13, hall⟩ := hI_
              try dsimp only
              have zr := E.size
              have lt_b1 := O_b1.lt
              have lt_b3 := O_b3.lt
              refine run_seq ?_
              refine run_seq ?_
              refine run_rg (τ := [(0, .pointer (some ⟨b, 0, none⟩)), (4, .pointer (some ⟨b1, 0, none⟩)), (5, .pointer (some ⟨b3, 0, none⟩))]) 7 [75, 76, 77, 78, 79, 80, 81] (fun u_ => Mk b (b + 1) wr u_ ∧ Src u_ b cb) (fun i_ => Mk b (b + 1)) (fun i_ v_ u_ => match i_ with | 0 => v_ = .pointer (some ⟨b3, 0 + 4, none⟩) | 1 => v_ = .slice q m d | 2 => v_ = .int .i64 (m : Int) | 3 => v_ = .pointer (some ⟨b, 0, none⟩) | 4 => ∃ (y0_ : Int), v_ = .int .i64 y0_ ∧ 0 ≤ y0_ ∧ (y0_ < 2 ∨ y0_ = 0) | 5 => ∃ (y0_ : Int), v_ = .int .i64 (12 + y0_) ∧ 0 ≤ y0_ ∧ (y0_ < 2 ∨ y0_ = 0) | 6 => ∃ (y0_ : Int), v_ = .bool (decide ((m : Int) < (12 + y0_))) ∧ 0 ≤ y0_ ∧ (y0_ < 2 ∨ y0_ = 0) | _ => True) [(6, some 81)] (by kernel_rfl) (by kernel_rfl) (by kernel_rfl) (by kernel_rfl) (by kernel_rfl) (by kernel_rfl) ⟨rfl, rfl, rfl, trivial⟩ rfl (fun u_ e_ z_ => ⟨Mk.ofExt e_, S.ext e_⟩) ?_ ?_ ?_
              · intro i_ j_ hi_ hj_ hij_ v_ u_ u2_ I_ I2_ r_ g_
                have zu_ := I_.1.size
                clear hi_
                rcases (by omega : j_ = 0 ∨ j_ = 1 ∨ j_ = 2 ∨ j_ = 3 ∨ j_ = 4 ∨ j_ = 5 ∨ j_ = 6) with rfl | rfl | rfl | rfl | rfl | rfl | rfl
                · exact g_
                · exact g_
                · exact g_
                · exact g_
                · exact g_
                · exact g_
                · exact g_
              ·
                refine rga [] (by kernel_rfl) ?_ ?_
                · intro u_ I_
                  have zu_ := I_.1.size
                  refine rg_val (xfieldAddr fo49f4 rfl) rfl I_ (Mk.refl _ _ _) rfl
                refine rga [(0, some 75)] (by kernel_rfl) ?_ ?_
                · rintro u_ I_ _ rfl
                  have zu_ := I_.1.size
                  have OB_ := I_.1.own O_b3 (by omega)
                  refine rg_val (xload1 Try.isAgg47 rfl (OB_.cells) rfl) rfl I_ (Mk.refl _ _ _) rfl
                refine rga [(1, some 76)] (by kernel_rfl) ?_ ?_
                · rintro u_ I_ _ rfl
                  have zu_ := I_.1.size
                  refine rg_val (xlen Try.underlying47 rfl) rfl I_ (Mk.refl _ _ _) rfl
                refine rga [] (by kernel_rfl) ?_ ?_
                · intro u_ I_
                  have zu_ := I_.1.size
                  refine rg_val (xmove rfl) rfl I_ (Mk.refl _ _ _) rfl
                refine rga [(3, some 78)] (by kernel_rfl) ?_ ?_
                · rintro u_ I_ _ rfl
                  have zu_ := I_.1.size
                  refine rg_call (xcall Try.call114 rfl) rfl (l01Next_ok b cb (2) _ I_.2) ?_
                  rintro _ w_ ⟨r_0, rfl, h_0, h_1, m_, S_⟩
                  exact ⟨⟨I_.1.trans m_, S_⟩, m_, ⟨r_0, rfl, h_0, h_1⟩⟩
                refine rga [(4, some 79)] (by kernel_rfl) ?_ ?_
                · rintro u_ I_ _ ⟨g79_0, rfl, f79_0, f79_1⟩
                  have zu_ := I_.1.size
                  refine rg_val (xadd rfl rfl (by unfold I64; omega)) rfl I_ (Mk.refl _ _ _) ⟨g79_0, rfl, f79_0, f79_1⟩
                refine rga [(2, some 77), (5, some 80)] (by kernel_rfl) ?_ ?_
                · rintro u_ I_ _ rfl _ ⟨g80_0, rfl, f80_0, f80_1⟩
                  have zu_ := I_.1.size
                  refine rg_val (xlss rfl rfl _ rfl) rfl I_ (Mk.refl _ _ _) ⟨g80_0, rfl, f80_0, f80_1⟩
                exact rga_nil
              ·
                rintro w10 I_ _ ⟨g81_0, rfl, f81_0, f81_1⟩
                have m10 := I_.1
                have z10 := m10.size
                have E := E.trans m10
                replace S := I_.2
                replace GC := GC.off m10 (by omega)
                replace O_b1 := m10.own O_b1 (by omega)
                replace O_b3 := m10.own O_b3 (by omega)
                refine ops_nil ?_
                refine run_cond_s rfl (fun c81 => ?_) (fun c81 => ?_)
                · replace c81 := of_decide_eq_true c81
                  refine run_skip ?_
                  refine run_block ?_
                  refine run_region ?_
                  refine ov (xfieldAddr fo49f4 rfl) rfl rfl rfl ?_
                  refine ov (v := .slice q m d) (xload1 Try.isAgg47 rfl (O_b3.cells) rfl) rfl rfl rfl ?_
                  refine ov (xbuild (vs := [.int .i64 300, .string ⟨#[97, 100, 97]⟩, .string ⟨#[97, 100, 97]⟩, .int .i64 5]) (cells := #[.int .i64 300, .string ⟨#[97, 100, 97]⟩, .string ⟨#[97, 100, 97]⟩, .int .i64 5]) rfl (by kernel_rfl)) rfl rfl rfl ?_
                  refine obuild (cs := [.int .i64 300, .string ⟨#[97, 100, 97]⟩, .string ⟨#[97, 100, 97]⟩, .int .i64 5]) (sz := 4) Try.underlying47 inf77 rfl rfl (by decide) rfl rfl (by simp [Value.cells]) rfl rfl rfl ?_
                  intro b11 w11 e11 hb11 hz11 O11
                  have E := E.trans (Mk.ofExt e11)
                  replace S := S.ext e11
                  replace GC := GC.ext e11
                  replace O_b1 := O_b1.ext e11
                  replace O_b3 := O_b3.ext e11
                  refine oappT (bytes := 48) (nm := (m + 1)) GC rfl rfl elem77 (Own.sl1 (y := (⟨300, ⟨#[97, 100, 97]⟩, ⟨#[97, 100, 97]⟩, 5⟩ : Handing)) O11) (by intro h; cases h) (by intro y hy; rfl) (by intro y hy u hu; rw [List.mem_singleton] at hy; subst hy; revert u; simp [Value.oneCell', Handing.cells, i64c]) (by omega) (by omega) (by omega) (by omega) rfl rfl ?_
                  intro p12 c12_ w12 m12 k12 G12
                  have hz12 := m12.size
                  have E := E.young m12 (by omega)
                  replace S := S.off m12 (by omega)
                  replace O_b1 := (by first | exact m12.own O_b1 (by omega) | exact k12.off_own O_b1 (GC.neT O_b1 (by decide)))
                  replace O_b3 := (by first | exact m12.own O_b3 (by omega) | exact k12.off_own O_b3 (GC.neT O_b3 (by decide)))
                  try replace O11 := m12.own O11 (by omega)
                  refine ov (xfieldAddr fo49f4 rfl) rfl rfl rfl ?_
                  refine ostore1 Try.sizeOf47 rfl rfl O_b3 (by simp) rfl rfl ?_
                  intro w13 on13 O13
                  have hz13 := on13.size
                  have E : Mk b (b + 1) w w13 := by first | exact E.trans (Mk.ofOnly on13 (by omega) (by omega)) | exact E.young (Mk.ofOnly on13 (Nat.le_refl _) (Nat.lt_succ_self _)) (by omega)
                  replace S := S.off (Mk.ofOnly on13 (Nat.le_refl _) (Nat.lt_succ_self _)) (by omega)
                  replace G12 := G12.onlyT O_b3 (by decide) on13
                  replace O_b1 := on13.own O_b1 (by omega)
                  replace O11 := on13.own O11 (by omega)
                  replace O13 : Own w13 b3 [.string r9_0.Code, .string r9_0.Found, .int .i64 r9_0.Day, .int .i64 r9_0.Seal, .slice p12 (m + 1) c12_] 49 := O13
                  refine ops_nil ?_
                  refine run_inBlock ?_
                  refine run_sub ?_ (hback18 (p12, (m + 1), c12_, (zs ++ [(⟨300, ⟨#[97, 100, 97]⟩, ⟨#[97, 100, 97]⟩, 5⟩ : Handing)]), w13) (⟨E, O_b1, O13, S, G12.wide (by omega) (by omega), by omega, by omega, ok_app3 hall ⟨by dsimp only; omega, by dsimp only; decide, by dsimp only; decide, by dsimp only; omega⟩⟩) (by first | omega | (dsimp only; omega)))
                  exact ⟨rfl, rfl, rfl, trivial⟩
                · replace c81 := of_decide_eq_false c81
                  refine run_exit rfl ?_
                  refine run_inBlock ?_
                  refine run_seq ?_
                  refine run_region ?_
                  refine ov (v := .agg #[.string r9_0.Code, .string r9_0.Found, .int .i64 r9_0.Day, .int .i64 r9_0.Seal, .slice q m d]) (xloadN Try.isAgg49 Try.sizeOf49 rfl (O_b3.cells) rfl) rfl rfl rfl ?_
                  refine ostoreN (vs := _) Try.sizeOf49 rfl rfl O_b1 rfl (by simp) (by simp [Value.oneCell']) rfl ?_
                  intro w11 on11 O11
                  have hz11 := on11.size
                  have E : Mk b (b + 1) w w11 := by first | exact E.trans (Mk.ofOnly on11 (by omega) (by omega)) | exact E.young (Mk.ofOnly on11 (Nat.le_refl _) (Nat.lt_succ_self _)) (by omega)
                  replace S := S.off (Mk.ofOnly on11 (Nat.le_refl _) (Nat.lt_succ_self _)) (by omega)
                  replace GC := GC.onlyT O_b1 (by decide) on11
                  replace O_b3 := on11.own O_b3 (by omega)
                  replace O11 : Own w11 b1 [.string r9_0.Code, .string r9_0.Found, .int .i64 r9_0.Day, .int .i64 r9_0.Seal, .slice q m d] 49 := O11
                  refine ops_nil ?_
                  refine run_ret Try.func113 (resc1 rfl rfl (run_loadVar_cells Try.isAgg49 Try.sizeOf49 O11.cells rfl)) ?_
                  exact ⟨_, rfl, ⟨r9_0.Code, r9_0.Found, r9_0.Day, r9_0.Seal, zs⟩, _, _, _, rfl, ⟨h9_0.1, h9_0.2.1, h9_0.2.2.1, h9_0.2.2.2.1, hall⟩, by omega, GC.wide (by omega) (by omega), E, S⟩
            ·
              refine ov (xassign rfl) rfl rfl rfl ?_
              refine ops_nil ?_
              refine run_cond_f rfl ?_
              refine run_skip ?_
              refine run_inBlock ?_
              refine run_seq ?_
              refine run_region ?_
              refine ov (v := .agg #[.string (r9_0).Code, .string (r9_0).Found, .int .i64 (r9_0).Day, .int .i64 (r9_0).Seal, .slice r9_1 r9_2 r9_3]) (xloadN Try.isAgg49 Try.sizeOf49 rfl (O4.cells) rfl) rfl rfl rfl ?_
              refine ostoreN (vs := _) Try.sizeOf49 rfl rfl O1 rfl (by simp) (by simp [Value.oneCell']) rfl ?_
              intro w10 on10 O10
              have hz10 := on10.size
              have E : Mk b (b + 1) w w10 := by first | exact E.trans (Mk.ofOnly on10 (by omega) (by omega)) | exact E.young (Mk.ofOnly on10 (Nat.le_refl _) (Nat.lt_succ_self _)) (by omega)
              replace S := S.off (Mk.ofOnly on10 (Nat.le_refl _) (Nat.lt_succ_self _)) (by omega)
              replace h9_2 := h9_2.onlyT O1 (by decide) on10
              replace O4 := on10.own O4 (by omega)
              replace O10 : Own w10 b1 [.string (r9_0).Code, .string (r9_0).Found, .int .i64 (r9_0).Day, .int .i64 (r9_0).Seal, .slice r9_1 r9_2 r9_3] 49 := O10
              refine ops_nil ?_
              refine run_ret Try.func113 (resc1 rfl rfl (run_loadVar_cells Try.isAgg49 Try.sizeOf49 O10.cells rfl)) ?_
              exact ⟨_, rfl, ⟨r9_0.Code, (r9_0).Found, r9_0.Day, r9_0.Seal, (r9_0.Chain.set r18_0.toNat { (r9_0.Chain[r18_0.toNat]'(by omega)) with Day := 99 + g37_0 })⟩, _, _, _, rfl, ⟨h9_0.1, h9_0.2.1, h9_0.2.2.1, h9_0.2.2.2.1, hall0⟩, by omega, h9_2.wide (by omega) (by omega), E, S⟩
      ·
        refine ov (xassign rfl) rfl rfl rfl ?_
        refine ops_nil ?_
        refine run_cond_f rfl ?_
        refine run_seq ?_
        refine run_region ?_
        refine ov (xeql rfl rfl _ rfl) rfl rfl rfl ?_
        refine ods (fun c41 => ?_) (fun c41 => ?_)
        ·
          refine ov (xassign rfl) rfl rfl rfl ?_
          refine ops_nil ?_
          refine run_cond_t rfl ?_
          refine run_tail 11 (by kernel_rfl) (by kernel_rfl) ?_
          intro w7 e7
          have z7 := e7.size
          have E := E.trans (Mk.ofExt e7)
          replace S := S.ext e7
          replace h9_2 := h9_2.ext e7
          replace O1 := O1.ext e7
          replace O4 := O4.ext e7
          refine stv (xfieldAddr fo49f4 rfl) rfl rfl rfl ?_
          refine stv (v := .slice r9_1 r9_2 r9_3) (xload1 Try.isAgg47 rfl (O4.cells) rfl) rfl rfl rfl ?_
          refine stv (xmove rfl) rfl rfl rfl ?_
          refine stv (xfieldAddr fo49f4 rfl) rfl rfl rfl ?_
          refine stv (v := .slice r9_1 r9_2 r9_3) (xload1 Try.isAgg47 rfl (O4.cells) rfl) rfl rfl rfl ?_
          refine stv (xmove rfl) rfl rfl rfl ?_
          have h48 := (h9_2.sl).at (i := r18_0.toNat) (by omega)
          refine stv (xindexN (i := r18_0.toNat) Try.underlying47 Try.sizeOf77 rfl rfl (by omega) ((h9_2.sl).p (i := r18_0.toNat) (by omega)) (by have := (h9_2.sl).len; omega)) rfl rfl rfl ?_
          refine stv (xfieldAddr fo77f1 rfl) rfl rfl rfl ?_
          refine stv (v := .string r9_0.Chain[r18_0.toNat].From) (xload1 Try.isAgg9 rfl (h48) rfl) rfl rfl rfl ?_
          have h51 := (h9_2.sl).at (i := r18_0.toNat) (by omega)
          refine stv (xindexN (i := r18_0.toNat) Try.underlying47 Try.sizeOf77 rfl rfl (by omega) ((h9_2.sl).p (i := r18_0.toNat) (by omega)) (by have := (h9_2.sl).len; omega)) rfl rfl rfl ?_
          refine stv (xfieldAddr fo77f2 rfl) rfl rfl rfl ?_
          refine st_storeOwF (i := r18_0.toNat) (off := 2) (y := { (r9_0.Chain[r18_0.toNat]'(by omega)) with To := (r9_0.Chain[r18_0.toNat]'(by omega)).From }) Try.sizeOf9 h9_2 (by omega) rfl rfl (by decide) rfl rfl rfl ?_
          intro w8 m8 g8
          have z8 := m8.size
          have E := E.young m8 (by omega)
          replace S := S.off m8 (by omega)
          try replace O1 := m8.own O1 (by omega)
          try replace O4 := m8.own O4 (by omega)
          replace h9_2 := g8
          refine run_inBlock ?_
          refine run_seq ?_
          refine run_seq ?_
          refine run_region ?_
          have hq0 := h9_0.2.2.2.2
          have hqk := hq0 _ (List.getElem_mem (by omega : r18_0.toNat < r9_0.Chain.length))
          have hall0 : ∀ h ∈ (r9_0.Chain.set r18_0.toNat { (r9_0.Chain[r18_0.toNat]'(by omega)) with To := (r9_0.Chain[r18_0.toNat]'(by omega)).From }), hanOk h := set_ok3 hq0 (by unfold hanOk at hqk ⊢; dsimp only; omega)
          have hl0 := h9_2.len
          refine ov (xmove rfl) rfl rfl rfl ?_
          refine oc (xcall Try.call114 rfl) rfl rfl rfl (l01Next_ok b cb (40) _ S) ?_
          rintro _ w9 ⟨r67_0, rfl, h67_0, h67_1, m9, S9⟩
          have z9 := m9.size
          have E := E.trans m9
          replace h9_2 := h9_2.off m9 (by omega)
          replace O1 := m9.own O1 (by omega)
          replace O4 := m9.own O4 (by omega)
          replace S := S9
          refine ops_nil ?_
          refine run_block ?_
          refine run_seq ?_
          refine run_region ?_
          refine ov (xeql rfl rfl _ rfl) rfl rfl rfl ?_
          refine ods (fun c69 => ?_) (fun c69 => ?_)
          ·
            refine ov (xassign rfl) rfl rfl rfl ?_
            refine ops_nil ?_
            refine run_cond_t rfl ?_
            refine run_region ?_
            refine ov (xmove rfl) rfl rfl rfl ?_
            refine oc (xcall Try.call121 rfl) rfl rfl rfl (l01DrawWord_ok b cb _ S) ?_
            rintro _ w10 ⟨r71_0, rfl, h71_0, m10, S10⟩
            have z10 := m10.size
            have E := E.trans m10
            replace h9_2 := h9_2.off m10 (by omega)
            replace O1 := m10.own O1 (by omega)
            replace O4 := m10.own O4 (by omega)
            replace S := S10
            refine ov (xfieldAddr fo49f1 rfl) rfl rfl rfl ?_
            refine ostore1 Try.sizeOf9 rfl rfl O4 (by simp) rfl rfl ?_
            intro w11 on11 O11
            have hz11 := on11.size
            have E : Mk b (b + 1) w w11 := by first | exact E.trans (Mk.ofOnly on11 (by omega) (by omega)) | exact E.young (Mk.ofOnly on11 (Nat.le_refl _) (Nat.lt_succ_self _)) (by omega)
            replace S := S.off (Mk.ofOnly on11 (Nat.le_refl _) (Nat.lt_succ_self _)) (by omega)
            replace h9_2 := h9_2.onlyT O4 (by decide) on11
            replace O1 := on11.own O1 (by omega)
            replace O11 : Own w11 b3 [.string (r9_0).Code, .string r71_0, .int .i64 (r9_0).Day, .int .i64 (r9_0).Seal, .slice r9_1 r9_2 r9_3] 49 := O11
            refine ops_nil ?_
            refine run_inBlock ?_
            refine run_seq ?_
            refine run_region ?_
            refine ov (v := .agg #[.string (r9_0).Code, .string r71_0, .int .i64 (r9_0).Day, .int .i64 (r9_0).Seal, .slice r9_1 r9_2 r9_3]) (xloadN Try.isAgg49 Try.sizeOf49 rfl (O11.cells) rfl) rfl rfl rfl ?_
            refine ostoreN (vs := _) Try.sizeOf49 rfl rfl O1 rfl (by simp) (by simp [Value.oneCell']) rfl ?_
            intro w12 on12 O12
            have hz12 := on12.size
            have E : Mk b (b + 1) w w12 := by first | exact E.trans (Mk.ofOnly on12 (by omega) (by omega)) | exact E.young (Mk.ofOnly on12 (Nat.le_refl _) (Nat.lt_succ_self _)) (by omega)
            replace S := S.off (Mk.ofOnly on12 (Nat.le_refl _) (Nat.lt_succ_self _)) (by omega)
            replace h9_2 := h9_2.onlyT O1 (by decide) on12
            replace O11 := on12.own O11 (by omega)
            replace O12 : Own w12 b1 [.string (r9_0).Code, .string r71_0, .int .i64 (r9_0).Day, .int .i64 (r9_0).Seal, .slice r9_1 r9_2 r9_3] 49 := O12
            refine ops_nil ?_
            refine run_ret Try.func113 (resc1 rfl rfl (run_loadVar_cells Try.isAgg49 Try.sizeOf49 O12.cells rfl)) ?_
            exact ⟨_, rfl, ⟨r9_0.Code, r71_0, r9_0.Day, r9_0.Seal, (r9_0.Chain.set r18_0.toNat { (r9_0.Chain[r18_0.toNat]'(by omega)) with To := (r9_0.Chain[r18_0.toNat]'(by omega)).From })⟩, _, _, _, rfl, ⟨h9_0.1, h71_0, h9_0.2.2.1, h9_0.2.2.2.1, hall0⟩, by omega, h9_2.wide (by omega) (by omega), E, S⟩
          ·
            refine ov (xassign rfl) rfl rfl rfl ?_
            refine ops_nil ?_
            refine run_cond_f rfl ?_
            refine run_seq ?_
            refine run_region ?_
            refine ov (xeql rfl rfl _ rfl) rfl rfl rfl ?_
            refine ods (fun c74 => ?_) (fun c74 => ?_)
            ·
              refine ov (xassign rfl) rfl rfl rfl ?_
              refine ops_nil ?_
              refine run_cond_t rfl ?_
              refine run_block ?_
              refine run_loop (ι := Option Addr × Nat × Nat × List Handing × World) (fun x_ => match x_ with | (q, m, d, zs, wr) => (Mk b (b + 1) w wr) ∧ (Own wr b1 ([.string ⟨#[]⟩, .string ⟨#[]⟩, .int .i64 0, .int .i64 0, .slice none 0 0]) 49) ∧ (Own wr b3 ([.string r9_0.Code, .string r9_0.Found, .int .i64 r9_0.Day, .int .i64 r9_0.Seal, .slice q m d]) 49) ∧ (Src wr b cb) ∧ (Ow Handing.cells 4 77 wr w.heap.size wr.heap.size q m d zs) ∧ (w9.heap.size ≤ wr.heap.size) ∧ (m ≤ 13) ∧ (∀ h ∈ zs, hanOk h)) (fun x_ => match x_ with | (q, m, d, zs, wr) => [(0, .pointer (some ⟨b, 0, none⟩)), (4, .pointer (some ⟨b1, 0, none⟩)), (5, .pointer (some ⟨b3, 0, none⟩))]) (fun x_ => match x_ with | (q, m, d, zs, wr) => wr) (fun x_ => match x_ with | (q, m, d, zs, wr) => 14 - m) ?_ (r9_1, r9_2, r9_3, (r9_0.Chain.set r18_0.toNat { (r9_0.Chain[r18_0.toNat]'(by omega)) with To := (r9_0.Chain[r18_0.toNat]'(by omega)).From }), w9) (⟨E, O1, O4, S, h9_2.wide (by omega) (by omega), Nat.le_refl _, by omega, hall0⟩) ⟨rfl, rfl, rfl, trivial⟩ rfl
              intro i_ hI_ hback18
              obtain ⟨q, m, d, zs, wr⟩ := i_
              obtain ⟨E, O_b1, O_b3, S, GC, lz_wr, hm13, hall⟩ := hI_
              try dsimp only
              have zr := E.size
              have lt_b1 := O_b1.lt
              have lt_b3 := O_b3.lt
              refine run_seq ?_
              refine run_seq ?_
              refine run_rg (τ := [(0, .pointer (some ⟨b, 0, none⟩)), (4, .pointer (some ⟨b1, 0, none⟩)), (5, .pointer (some ⟨b3, 0, none⟩))]) 7 [75, 76, 77, 78, 79, 80, 81] (fun u_ => Mk b (b + 1) wr u_ ∧ Src u_ b cb) (fun i_ => Mk b (b + 1)) (fun i_ v_ u_ => match i_ with | 0 => v_ = .pointer (some ⟨b3, 0 + 4, none⟩) | 1 => v_ = .slice q m d | 2 => v_ = .int .i64 (m : Int) | 3 => v_ = .pointer (some ⟨b, 0, none⟩) | 4 => ∃ (y0_ : Int), v_ = .int .i64 y0_ ∧ 0 ≤ y0_ ∧ (y0_ < 2 ∨ y0_ = 0) | 5 => ∃ (y0_ : Int), v_ = .int .i64 (12 + y0_) ∧ 0 ≤ y0_ ∧ (y0_ < 2 ∨ y0_ = 0) | 6 => ∃ (y0_ : Int), v_ = .bool (decide ((m : Int) < (12 + y0_))) ∧ 0 ≤ y0_ ∧ (y0_ < 2 ∨ y0_ = 0) | _ => True) [(6, some 81)] (by kernel_rfl) (by kernel_rfl) (by kernel_rfl) (by kernel_rfl) (by kernel_rfl) (by kernel_rfl) ⟨rfl, rfl, rfl, trivial⟩ rfl (fun u_ e_ z_ => ⟨Mk.ofExt e_, S.ext e_⟩) ?_ ?_ ?_
              · intro i_ j_ hi_ hj_ hij_ v_ u_ u2_ I_ I2_ r_ g_
                have zu_ := I_.1.size
                clear hi_
                rcases (by omega : j_ = 0 ∨ j_ = 1 ∨ j_ = 2 ∨ j_ = 3 ∨ j_ = 4 ∨ j_ = 5 ∨ j_ = 6) with rfl | rfl | rfl | rfl | rfl | rfl | rfl
                · exact g_
                · exact g_
                · exact g_
                · exact g_
                · exact g_
                · exact g_
                · exact g_
              ·
                refine rga [] (by kernel_rfl) ?_ ?_
                · intro u_ I_
                  have zu_ := I_.1.size
                  refine rg_val (xfieldAddr fo49f4 rfl) rfl I_ (Mk.refl _ _ _) rfl
                refine rga [(0, some 75)] (by kernel_rfl) ?_ ?_
                · rintro u_ I_ _ rfl
                  have zu_ := I_.1.size
                  have OB_ := I_.1.own O_b3 (by omega)
                  refine rg_val (xload1 Try.isAgg47 rfl (OB_.cells) rfl) rfl I_ (Mk.refl _ _ _) rfl
                refine rga [(1, some 76)] (by kernel_rfl) ?_ ?_
                · rintro u_ I_ _ rfl
                  have zu_ := I_.1.size
                  refine rg_val (xlen Try.underlying47 rfl) rfl I_ (Mk.refl _ _ _) rfl
                refine rga [] (by kernel_rfl) ?_ ?_
                · intro u_ I_
                  have zu_ := I_.1.size
                  refine rg_val (xmove rfl) rfl I_ (Mk.refl _ _ _) rfl
                refine rga [(3, some 78)] (by kernel_rfl) ?_ ?_
                · rintro u_ I_ _ rfl
                  have zu_ := I_.1.size
                  refine rg_call (xcall Try.call114 rfl) rfl (l01Next_ok b cb (2) _ I_.2) ?_
                  rintro _ w_ ⟨r_0, rfl, h_0, h_1, m_, S_⟩
                  exact ⟨⟨I_.1.trans m_, S_⟩, m_, ⟨r_0, rfl, h_0, h_1⟩⟩
                refine rga [(4, some 79)] (by kernel_rfl) ?_ ?_
                · rintro u_ I_ _ ⟨g79_0, rfl, f79_0, f79_1⟩
                  have zu_ := I_.1.size
                  refine rg_val (xadd rfl rfl (by unfold I64; omega)) rfl I_ (Mk.refl _ _ _) ⟨g79_0, rfl, f79_0, f79_1⟩
                refine rga [(2, some 77), (5, some 80)] (by kernel_rfl) ?_ ?_
                · rintro u_ I_ _ rfl _ ⟨g80_0, rfl, f80_0, f80_1⟩
                  have zu_ := I_.1.size
                  refine rg_val (xlss rfl rfl _ rfl) rfl I_ (Mk.refl _ _ _) ⟨g80_0, rfl, f80_0, f80_1⟩
                exact rga_nil
              ·
                rintro w10 I_ _ ⟨g81_0, rfl, f81_0, f81_1⟩
                have m10 := I_.1
                have z10 := m10.size
                have E := E.trans m10
                replace S := I_.2
                replace GC := GC.off m10 (by omega)
                replace O_b1 := m10.own O_b1 (by omega)
                replace O_b3 := m10.own O_b3 (by omega)
                refine ops_nil ?_
                refine run_cond_s rfl (fun c81 => ?_) (fun c81 => ?_)
                · replace c81 := of_decide_eq_true c81
                  refine run_skip ?_
                  refine run_block ?_
                  refine run_region ?_
                  refine ov (xfieldAddr fo49f4 rfl) rfl rfl rfl ?_
                  refine ov (v := .slice q m d) (xload1 Try.isAgg47 rfl (O_b3.cells) rfl) rfl rfl rfl ?_
                  refine ov (xbuild (vs := [.int .i64 300, .string ⟨#[97, 100, 97]⟩, .string ⟨#[97, 100, 97]⟩, .int .i64 5]) (cells := #[.int .i64 300, .string ⟨#[97, 100, 97]⟩, .string ⟨#[97, 100, 97]⟩, .int .i64 5]) rfl (by kernel_rfl)) rfl rfl rfl ?_
                  refine obuild (cs := [.int .i64 300, .string ⟨#[97, 100, 97]⟩, .string ⟨#[97, 100, 97]⟩, .int .i64 5]) (sz := 4) Try.underlying47 inf77 rfl rfl (by decide) rfl rfl (by simp [Value.cells]) rfl rfl rfl ?_
                  intro b11 w11 e11 hb11 hz11 O11
                  have E := E.trans (Mk.ofExt e11)
                  replace S := S.ext e11
                  replace GC := GC.ext e11
                  replace O_b1 := O_b1.ext e11
                  replace O_b3 := O_b3.ext e11
                  refine oappT (bytes := 48) (nm := (m + 1)) GC rfl rfl elem77 (Own.sl1 (y := (⟨300, ⟨#[97, 100, 97]⟩, ⟨#[97, 100, 97]⟩, 5⟩ : Handing)) O11) (by intro h; cases h) (by intro y hy; rfl) (by intro y hy u hu; rw [List.mem_singleton] at hy; subst hy; revert u; simp [Value.oneCell', Handing.cells, i64c]) (by omega) (by omega) (by omega) (by omega) rfl rfl ?_
                  intro p12 c12_ w12 m12 k12 G12
                  have hz12 := m12.size
                  have E := E.young m12 (by omega)
                  replace S := S.off m12 (by omega)
                  replace O_b1 := (by first | exact m12.own O_b1 (by omega) | exact k12.off_own O_b1 (GC.neT O_b1 (by decide)))
                  replace O_b3 := (by first | exact m12.own O_b3 (by omega) | exact k12.off_own O_b3 (GC.neT O_b3 (by decide)))
                  try replace O11 := m12.own O11 (by omega)
                  refine ov (xfieldAddr fo49f4 rfl) rfl rfl rfl ?_
                  refine ostore1 Try.sizeOf47 rfl rfl O_b3 (by simp) rfl rfl ?_
                  intro w13 on13 O13
                  have hz13 := on13.size
                  have E : Mk b (b + 1) w w13 := by first | exact E.trans (Mk.ofOnly on13 (by omega) (by omega)) | exact E.young (Mk.ofOnly on13 (Nat.le_refl _) (Nat.lt_succ_self _)) (by omega)
                  replace S := S.off (Mk.ofOnly on13 (Nat.le_refl _) (Nat.lt_succ_self _)) (by omega)
                  replace G12 := G12.onlyT O_b3 (by decide) on13
                  replace O_b1 := on13.own O_b1 (by omega)
                  replace O11 := on13.own O11 (by omega)
                  replace O13 : Own w13 b3 [.string r9_0.Code, .string r9_0.Found, .int .i64 r9_0.Day, .int .i64 r9_0.Seal, .slice p12 (m + 1) c12_] 49 := O13
                  refine ops_nil ?_
                  refine run_inBlock ?_
                  refine run_sub ?_ (hback18 (p12, (m + 1), c12_, (zs ++ [(⟨300, ⟨#[97, 100, 97]⟩, ⟨#[97, 100, 97]⟩, 5⟩ : Handing)]), w13) (⟨E, O_b1, O13, S, G12.wide (by omega) (by omega), by omega, by omega, ok_app3 hall ⟨by dsimp only; omega, by dsimp only; decide, by dsimp only; decide, by dsimp only; omega⟩⟩) (by first | omega | (dsimp only; omega)))
                  exact ⟨rfl, rfl, rfl, trivial⟩
                · replace c81 := of_decide_eq_false c81
                  refine run_exit rfl ?_
                  refine run_inBlock ?_
                  refine run_seq ?_
                  refine run_region ?_
                  refine ov (v := .agg #[.string r9_0.Code, .string r9_0.Found, .int .i64 r9_0.Day, .int .i64 r9_0.Seal, .slice q m d]) (xloadN Try.isAgg49 Try.sizeOf49 rfl (O_b3.cells) rfl) rfl rfl rfl ?_
                  refine ostoreN (vs := _) Try.sizeOf49 rfl rfl O_b1 rfl (by simp) (by simp [Value.oneCell']) rfl ?_
                  intro w11 on11 O11
                  have hz11 := on11.size
                  have E : Mk b (b + 1) w w11 := by first | exact E.trans (Mk.ofOnly on11 (by omega) (by omega)) | exact E.young (Mk.ofOnly on11 (Nat.le_refl _) (Nat.lt_succ_self _)) (by omega)
                  replace S := S.off (Mk.ofOnly on11 (Nat.le_refl _) (Nat.lt_succ_self _)) (by omega)
                  replace GC := GC.onlyT O_b1 (by decide) on11
                  replace O_b3 := on11.own O_b3 (by omega)
                  replace O11 : Own w11 b1 [.string r9_0.Code, .string r9_0.Found, .int .i64 r9_0.Day, .int .i64 r9_0.Seal, .slice q m d] 49 := O11
                  refine ops_nil ?_
                  refine run_ret Try.func113 (resc1 rfl rfl (run_loadVar_cells Try.isAgg49 Try.sizeOf49 O11.cells rfl)) ?_
                  exact ⟨_, rfl, ⟨r9_0.Code, r9_0.Found, r9_0.Day, r9_0.Seal, zs⟩, _, _, _, rfl, ⟨h9_0.1, h9_0.2.1, h9_0.2.2.1, h9_0.2.2.2.1, hall⟩, by omega, GC.wide (by omega) (by omega), E, S⟩
            ·
              refine ov (xassign rfl) rfl rfl rfl ?_
              refine ops_nil ?_
              refine run_cond_f rfl ?_
              refine run_skip ?_
              refine run_inBlock ?_
              refine run_seq ?_
              refine run_region ?_
              refine ov (v := .agg #[.string (r9_0).Code, .string (r9_0).Found, .int .i64 (r9_0).Day, .int .i64 (r9_0).Seal, .slice r9_1 r9_2 r9_3]) (xloadN Try.isAgg49 Try.sizeOf49 rfl (O4.cells) rfl) rfl rfl rfl ?_
              refine ostoreN (vs := _) Try.sizeOf49 rfl rfl O1 rfl (by simp) (by simp [Value.oneCell']) rfl ?_
              intro w10 on10 O10
              have hz10 := on10.size
              have E : Mk b (b + 1) w w10 := by first | exact E.trans (Mk.ofOnly on10 (by omega) (by omega)) | exact E.young (Mk.ofOnly on10 (Nat.le_refl _) (Nat.lt_succ_self _)) (by omega)
              replace S := S.off (Mk.ofOnly on10 (Nat.le_refl _) (Nat.lt_succ_self _)) (by omega)
              replace h9_2 := h9_2.onlyT O1 (by decide) on10
              replace O4 := on10.own O4 (by omega)
              replace O10 : Own w10 b1 [.string (r9_0).Code, .string (r9_0).Found, .int .i64 (r9_0).Day, .int .i64 (r9_0).Seal, .slice r9_1 r9_2 r9_3] 49 := O10
              refine ops_nil ?_
              refine run_ret Try.func113 (resc1 rfl rfl (run_loadVar_cells Try.isAgg49 Try.sizeOf49 O10.cells rfl)) ?_
              exact ⟨_, rfl, ⟨r9_0.Code, (r9_0).Found, r9_0.Day, r9_0.Seal, (r9_0.Chain.set r18_0.toNat { (r9_0.Chain[r18_0.toNat]'(by omega)) with To := (r9_0.Chain[r18_0.toNat]'(by omega)).From })⟩, _, _, _, rfl, ⟨h9_0.1, h9_0.2.1, h9_0.2.2.1, h9_0.2.2.2.1, hall0⟩, by omega, h9_2.wide (by omega) (by omega), E, S⟩
        ·
          refine ov (xassign rfl) rfl rfl rfl ?_
          refine ops_nil ?_
          refine run_cond_f rfl ?_
          refine run_seq ?_
          refine run_region ?_
          refine ov (xeql rfl rfl _ rfl) rfl rfl rfl ?_
          refine ods (fun c54 => ?_) (fun c54 => ?_)
          ·
            refine ov (xassign rfl) rfl rfl rfl ?_
            refine ops_nil ?_
            refine run_cond_t rfl ?_
            refine run_seq ?_
            refine run_region ?_
            refine ov (xmove rfl) rfl rfl rfl ?_
            refine oc (xcall Try.call114 rfl) rfl rfl rfl (l01Next_ok b cb (2) _ S) ?_
            rintro _ w7 ⟨r56_0, rfl, h56_0, h56_1, m7, S7⟩
            have z7 := m7.size
            have E := E.trans m7
            replace h9_2 := h9_2.off m7 (by omega)
            replace O1 := m7.own O1 (by omega)
            replace O4 := m7.own O4 (by omega)
            replace S := S7
            refine ov (xeql rfl rfl _ rfl) rfl rfl rfl ?_
            refine ods (fun c57 => ?_) (fun c57 => ?_)
            ·
              refine ops_nil ?_
              refine run_cond_t rfl ?_
              refine run_rg (τ := [(0, .pointer (some ⟨b, 0, none⟩)), (4, .pointer (some ⟨b1, 0, none⟩)), (5, .pointer (some ⟨b3, 0, none⟩)), (6, .int .i64 r18_0)]) 8 [58, 59, 60, 61, 62, 63, 64, 65] (fun u_ => Mk b (b + 1) w7 u_ ∧ Src u_ b cb) (fun i_ => Mk b (b + 1)) (fun i_ v_ u_ => match i_ with | 0 => v_ = .pointer (some ⟨b3, 0 + 4, none⟩) | 1 => v_ = .slice r9_1 r9_2 r9_3 | 2 => v_ = .int .i64 r18_0 | 3 => v_ = .pointer (some ⟨b, 0, none⟩) | 4 => ∃ (y0_ : Nat), v_ = .slice (some ⟨y0_, 0, none⟩) 3 3 ∧ w7.heap.size ≤ y0_ ∧ Sl i64c 1 u_ (some ⟨y0_, 0, none⟩) 3 3 ([0, 1000000, 1000001] : List Int) | 5 => ∃ (y0_ : Int), v_ = .int .i64 y0_ ∧ -1000001 ≤ y0_ ∧ y0_ ≤ 1000001 | 6 => v_ = .pointer (some ⟨pb r9_1, po r9_1 + r18_0.toNat * 4, none⟩) | 7 => v_ = .pointer (some ⟨pb r9_1, po r9_1 + r18_0.toNat * 4 + 3, none⟩) | _ => True) [(5, some 63), (7, some 65)] (by kernel_rfl) (by kernel_rfl) (by kernel_rfl) (by kernel_rfl) (by kernel_rfl) (by kernel_rfl) ⟨rfl, rfl, rfl, rfl, trivial⟩ rfl (fun u_ e_ z_ => ⟨Mk.ofExt e_, S.ext e_⟩) ?_ ?_ ?_
              · intro i_ j_ hi_ hj_ hij_ v_ u_ u2_ I_ I2_ r_ g_
                have zu_ := I_.1.size
                clear hi_
                rcases (by omega : j_ = 0 ∨ j_ = 1 ∨ j_ = 2 ∨ j_ = 3 ∨ j_ = 4 ∨ j_ = 5 ∨ j_ = 6 ∨ j_ = 7) with rfl | rfl | rfl | rfl | rfl | rfl | rfl | rfl
                · exact g_
                · exact g_
                · exact g_
                · exact g_
                · obtain ⟨g62_0, rfl, f62_0, f62_1⟩ := g_
                  exact ⟨g62_0, rfl, f62_0, f62_1.off r_ (by simp only [pb, Option.getD_some]; omega)⟩
                · exact g_
                · exact g_
                · exact g_
              ·
                refine rga [] (by kernel_rfl) ?_ ?_
                · intro u_ I_
                  have zu_ := I_.1.size
                  refine rg_val (xfieldAddr fo49f4 rfl) rfl I_ (Mk.refl _ _ _) rfl
                refine rga [(0, some 58)] (by kernel_rfl) ?_ ?_
                · rintro u_ I_ _ rfl
                  have zu_ := I_.1.size
                  have OB_ := I_.1.own O4 (by omega)
                  refine rg_val (xload1 Try.isAgg47 rfl (OB_.cells) rfl) rfl I_ (Mk.refl _ _ _) rfl
                refine rga [] (by kernel_rfl) ?_ ?_
                · intro u_ I_
                  have zu_ := I_.1.size
                  refine rg_val (xmove rfl) rfl I_ (Mk.refl _ _ _) rfl
                refine rga [] (by kernel_rfl) ?_ ?_
                · intro u_ I_
                  have zu_ := I_.1.size
                  refine rg_val (xmove rfl) rfl I_ (Mk.refl _ _ _) rfl
                refine rga [] (by kernel_rfl) ?_ ?_
                · intro u_ I_
                  have zu_ := I_.1.size
                  refine rg_build (len := 3) (vs := [.int .i64 0, .int .i64 1000000, .int .i64 1000001]) (cs := [.int .i64 0, .int .i64 1000000, .int .i64 1000001]) (sz := 1) Try.underlying55 inf2 rfl rfl (by decide) (by rfl) (by rfl) (by simp [Value.cells]) rfl rfl ?_
                  intro b_ w_ e_ hb_ O_
                  refine ⟨⟨I_.1.trans (Mk.ofExt e_), I_.2.ext e_⟩, Mk.ofExt e_, ⟨b_, rfl, (by omega), (Own.ow (lo := b_) (hi := b_ + 1) (enc := i64c) (sz := 1) (xs := ([0, 1000000, 1000001] : List Int)) (n := 3) (by simpa [i64c] using O_) rfl (by omega) (Nat.le_refl _) (by omega) (by intro x hx; rfl)).sl⟩⟩
                refine rga [(3, some 61), (4, some 62)] (by kernel_rfl) ?_ ?_
                · rintro u_ I_ _ rfl _ ⟨g62_0, rfl, f62_0, f62_1⟩
                  have zu_ := I_.1.size
                  refine rg_call (xcall Try.call115 rfl) rfl (l01Pick_ok b cb _ _ _ ([0, 1000000, 1000001] : List Int) 1000001 _ I_.2 f62_1 (by decide) (by omega) (by simp only [pb, Option.getD_some]; omega)) ?_
                  rintro _ w_ ⟨r_0, rfl, h_0, m_, S_⟩
                  exact ⟨⟨I_.1.trans m_, S_⟩, m_, ⟨r_0, rfl, h_0⟩⟩
                refine rga [(1, some 59), (2, some 60)] (by kernel_rfl) ?_ ?_
                · rintro u_ I_ _ rfl _ rfl
                  have zu_ := I_.1.size
                  have h9_2 := h9_2.off I_.1 (by omega)
                  have hl_ := h9_2.len
                  refine rg_val (xindexN (i := r18_0.toNat) Try.underlying47 Try.sizeOf77 rfl rfl (by omega) ((h9_2.sl).p (i := r18_0.toNat) (by omega)) (by omega)) rfl I_ (Mk.refl _ _ _) rfl
                refine rga [(6, some 64)] (by kernel_rfl) ?_ ?_
                · rintro u_ I_ _ rfl
                  have zu_ := I_.1.size
                  refine rg_val (xfieldAddr fo77f3 rfl) rfl I_ (Mk.refl _ _ _) rfl
                exact rga_nil
              ·
                rintro w8 I_ _ ⟨g63_0, rfl, f63_0⟩ _ rfl
                have m8 := I_.1
                have z8 := m8.size
                have E := E.trans m8
                replace S := I_.2
                replace h9_2 := h9_2.off m8 (by omega)
                replace O1 := m8.own O1 (by omega)
                replace O4 := m8.own O4 (by omega)
                refine ostoreOwF (i := r18_0.toNat) (off := 3) (y := { (r9_0.Chain[r18_0.toNat]'(by omega)) with Seal := g63_0 }) Try.sizeOf2 h9_2 (by omega) rfl rfl (by decide) rfl rfl rfl ?_
                intro w9 m9 g9
                have z9 := m9.size
                have E := E.young m9 (by omega)
                replace S := S.off m9 (by omega)
                try replace O1 := m9.own O1 (by omega)
                try replace O4 := m9.own O4 (by omega)
                replace h9_2 := g9
                refine ops_nil ?_
                refine run_inBlock ?_
                refine run_seq ?_
                refine run_seq ?_
                refine run_region ?_
                have hq0 := h9_0.2.2.2.2
                have hqk := hq0 _ (List.getElem_mem (by omega : r18_0.toNat < r9_0.Chain.length))
                have hall0 : ∀ h ∈ (r9_0.Chain.set r18_0.toNat { (r9_0.Chain[r18_0.toNat]'(by omega)) with Seal := g63_0 }), hanOk h := set_ok3 hq0 (by unfold hanOk at hqk ⊢; dsimp only; omega)
                have hl0 := h9_2.len
                refine ov (xmove rfl) rfl rfl rfl ?_
                refine oc (xcall Try.call114 rfl) rfl rfl rfl (l01Next_ok b cb (40) _ S) ?_
                rintro _ w10 ⟨r67_0, rfl, h67_0, h67_1, m10, S10⟩
                have z10 := m10.size
                have E := E.trans m10
                replace h9_2 := h9_2.off m10 (by omega)
                replace O1 := m10.own O1 (by omega)
                replace O4 := m10.own O4 (by omega)
                replace S := S10
                refine ops_nil ?_
                refine run_block ?_
                refine run_seq ?_
                refine run_region ?_
                refine ov (xeql rfl rfl _ rfl) rfl rfl rfl ?_
                refine ods (fun c69 => ?_) (fun c69 => ?_)
                ·
                  refine ov (xassign rfl) rfl rfl rfl ?_
                  refine ops_nil ?_
                  refine run_cond_t rfl ?_
                  refine run_region ?_
                  refine ov (xmove rfl) rfl rfl rfl ?_
                  refine oc (xcall Try.call121 rfl) rfl rfl rfl (l01DrawWord_ok b cb _ S) ?_
                  rintro _ w11 ⟨r71_0, rfl, h71_0, m11, S11⟩
                  have z11 := m11.size
                  have E := E.trans m11
                  replace h9_2 := h9_2.off m11 (by omega)
                  replace O1 := m11.own O1 (by omega)
                  replace O4 := m11.own O4 (by omega)
                  replace S := S11
                  refine ov (xfieldAddr fo49f1 rfl) rfl rfl rfl ?_
                  refine ostore1 Try.sizeOf9 rfl rfl O4 (by simp) rfl rfl ?_
                  intro w12 on12 O12
                  have hz12 := on12.size
                  have E : Mk b (b + 1) w w12 := by first | exact E.trans (Mk.ofOnly on12 (by omega) (by omega)) | exact E.young (Mk.ofOnly on12 (Nat.le_refl _) (Nat.lt_succ_self _)) (by omega)
                  replace S := S.off (Mk.ofOnly on12 (Nat.le_refl _) (Nat.lt_succ_self _)) (by omega)
                  replace h9_2 := h9_2.onlyT O4 (by decide) on12
                  replace O1 := on12.own O1 (by omega)
                  replace O12 : Own w12 b3 [.string (r9_0).Code, .string r71_0, .int .i64 (r9_0).Day, .int .i64 (r9_0).Seal, .slice r9_1 r9_2 r9_3] 49 := O12
                  refine ops_nil ?_
                  refine run_inBlock ?_
                  refine run_seq ?_
                  refine run_region ?_
                  refine ov (v := .agg #[.string (r9_0).Code, .string r71_0, .int .i64 (r9_0).Day, .int .i64 (r9_0).Seal, .slice r9_1 r9_2 r9_3]) (xloadN Try.isAgg49 Try.sizeOf49 rfl (O12.cells) rfl) rfl rfl rfl ?_
                  refine ostoreN (vs := _) Try.sizeOf49 rfl rfl O1 rfl (by simp) (by simp [Value.oneCell']) rfl ?_
                  intro w13 on13 O13
                  have hz13 := on13.size
                  have E : Mk b (b + 1) w w13 := by first | exact E.trans (Mk.ofOnly on13 (by omega) (by omega)) | exact E.young (Mk.ofOnly on13 (Nat.le_refl _) (Nat.lt_succ_self _)) (by omega)
                  replace S := S.off (Mk.ofOnly on13 (Nat.le_refl _) (Nat.lt_succ_self _)) (by omega)
                  replace h9_2 := h9_2.onlyT O1 (by decide) on13
                  replace O12 := on13.own O12 (by omega)
                  replace O13 : Own w13 b1 [.string (r9_0).Code, .string r71_0, .int .i64 (r9_0).Day, .int .i64 (r9_0).Seal, .slice r9_1 r9_2 r9_3] 49 := O13
                  refine ops_nil ?_
                  refine run_ret Try.func113 (resc1 rfl rfl (run_loadVar_cells Try.isAgg49 Try.sizeOf49 O13.cells rfl)) ?_
                  exact ⟨_, rfl, ⟨r9_0.Code, r71_0, r9_0.Day, r9_0.Seal, (r9_0.Chain.set r18_0.toNat { (r9_0.Chain[r18_0.toNat]'(by omega)) with Seal := g63_0 })⟩, _, _, _, rfl, ⟨h9_0.1, h71_0, h9_0.2.2.1, h9_0.2.2.2.1, hall0⟩, by omega, h9_2.wide (by omega) (by omega), E, S⟩
                ·
                  refine ov (xassign rfl) rfl rfl rfl ?_
                  refine ops_nil ?_
                  refine run_cond_f rfl ?_
                  refine run_seq ?_
                  refine run_region ?_
                  refine ov (xeql rfl rfl _ rfl) rfl rfl rfl ?_
                  refine ods (fun c74 => ?_) (fun c74 => ?_)
                  ·
                    refine ov (xassign rfl) rfl rfl rfl ?_
                    refine ops_nil ?_
                    refine run_cond_t rfl ?_
                    refine run_block ?_
                    refine run_loop (ι := Option Addr × Nat × Nat × List Handing × World) (fun x_ => match x_ with | (q, m, d, zs, wr) => (Mk b (b + 1) w wr) ∧ (Own wr b1 ([.string ⟨#[]⟩, .string ⟨#[]⟩, .int .i64 0, .int .i64 0, .slice none 0 0]) 49) ∧ (Own wr b3 ([.string r9_0.Code, .string r9_0.Found, .int .i64 r9_0.Day, .int .i64 r9_0.Seal, .slice q m d]) 49) ∧ (Src wr b cb) ∧ (Ow Handing.cells 4 77 wr w.heap.size wr.heap.size q m d zs) ∧ (w10.heap.size ≤ wr.heap.size) ∧ (m ≤ 13) ∧ (∀ h ∈ zs, hanOk h)) (fun x_ => match x_ with | (q, m, d, zs, wr) => [(0, .pointer (some ⟨b, 0, none⟩)), (4, .pointer (some ⟨b1, 0, none⟩)), (5, .pointer (some ⟨b3, 0, none⟩))]) (fun x_ => match x_ with | (q, m, d, zs, wr) => wr) (fun x_ => match x_ with | (q, m, d, zs, wr) => 14 - m) ?_ (r9_1, r9_2, r9_3, (r9_0.Chain.set r18_0.toNat { (r9_0.Chain[r18_0.toNat]'(by omega)) with Seal := g63_0 }), w10) (⟨E, O1, O4, S, h9_2.wide (by omega) (by omega), Nat.le_refl _, by omega, hall0⟩) ⟨rfl, rfl, rfl, trivial⟩ rfl
                    intro i_ hI_ hback18
                    obtain ⟨q, m, d, zs, wr⟩ := i_
                    obtain ⟨E, O_b1, O_b3, S, GC, lz_wr, hm13, hall⟩ := hI_
                    try dsimp only
                    have zr := E.size
                    have lt_b1 := O_b1.lt
                    have lt_b3 := O_b3.lt
                    refine run_seq ?_
                    refine run_seq ?_
                    refine run_rg (τ := [(0, .pointer (some ⟨b, 0, none⟩)), (4, .pointer (some ⟨b1, 0, none⟩)), (5, .pointer (some ⟨b3, 0, none⟩))]) 7 [75, 76, 77, 78, 79, 80, 81] (fun u_ => Mk b (b + 1) wr u_ ∧ Src u_ b cb) (fun i_ => Mk b (b + 1)) (fun i_ v_ u_ => match i_ with | 0 => v_ = .pointer (some ⟨b3, 0 + 4, none⟩) | 1 => v_ = .slice q m d | 2 => v_ = .int .i64 (m : Int) | 3 => v_ = .pointer (some ⟨b, 0, none⟩) | 4 => ∃ (y0_ : Int), v_ = .int .i64 y0_ ∧ 0 ≤ y0_ ∧ (y0_ < 2 ∨ y0_ = 0) | 5 => ∃ (y0_ : Int), v_ = .int .i64 (12 + y0_) ∧ 0 ≤ y0_ ∧ (y0_ < 2 ∨ y0_ = 0) | 6 => ∃ (y0_ : Int), v_ = .bool (decide ((m : Int) < (12 + y0_))) ∧ 0 ≤ y0_ ∧ (y0_ < 2 ∨ y0_ = 0) | _ => True) [(6, some 81)] (by kernel_rfl) (by kernel_rfl) (by kernel_rfl) (by kernel_rfl) (by kernel_rfl) (by kernel_rfl) ⟨rfl, rfl, rfl, trivial⟩ rfl (fun u_ e_ z_ => ⟨Mk.ofExt e_, S.ext e_⟩) ?_ ?_ ?_
                    · intro i_ j_ hi_ hj_ hij_ v_ u_ u2_ I_ I2_ r_ g_
                      have zu_ := I_.1.size
                      clear hi_
                      rcases (by omega : j_ = 0 ∨ j_ = 1 ∨ j_ = 2 ∨ j_ = 3 ∨ j_ = 4 ∨ j_ = 5 ∨ j_ = 6) with rfl | rfl | rfl | rfl | rfl | rfl | rfl
                      · exact g_
                      · exact g_
                      · exact g_
                      · exact g_
                      · exact g_
                      · exact g_
                      · exact g_
                    ·
                      refine rga [] (by kernel_rfl) ?_ ?_
                      · intro u_ I_
                        have zu_ := I_.1.size
                        refine rg_val (xfieldAddr fo49f4 rfl) rfl I_ (Mk.refl _ _ _) rfl
                      refine rga [(0, some 75)] (by kernel_rfl) ?_ ?_
                      · rintro u_ I_ _ rfl
                        have zu_ := I_.1.size
                        have OB_ := I_.1.own O_b3 (by omega)
                        refine rg_val (xload1 Try.isAgg47 rfl (OB_.cells) rfl) rfl I_ (Mk.refl _ _ _) rfl
                      refine rga [(1, some 76)] (by kernel_rfl) ?_ ?_
                      · rintro u_ I_ _ rfl
                        have zu_ := I_.1.size
                        refine rg_val (xlen Try.underlying47 rfl) rfl I_ (Mk.refl _ _ _) rfl
                      refine rga [] (by kernel_rfl) ?_ ?_
                      · intro u_ I_
                        have zu_ := I_.1.size
                        refine rg_val (xmove rfl) rfl I_ (Mk.refl _ _ _) rfl
                      refine rga [(3, some 78)] (by kernel_rfl) ?_ ?_
                      · rintro u_ I_ _ rfl
                        have zu_ := I_.1.size
                        refine rg_call (xcall Try.call114 rfl) rfl (l01Next_ok b cb (2) _ I_.2) ?_
                        rintro _ w_ ⟨r_0, rfl, h_0, h_1, m_, S_⟩
                        exact ⟨⟨I_.1.trans m_, S_⟩, m_, ⟨r_0, rfl, h_0, h_1⟩⟩
                      refine rga [(4, some 79)] (by kernel_rfl) ?_ ?_
                      · rintro u_ I_ _ ⟨g79_0, rfl, f79_0, f79_1⟩
                        have zu_ := I_.1.size
                        refine rg_val (xadd rfl rfl (by unfold I64; omega)) rfl I_ (Mk.refl _ _ _) ⟨g79_0, rfl, f79_0, f79_1⟩
                      refine rga [(2, some 77), (5, some 80)] (by kernel_rfl) ?_ ?_
                      · rintro u_ I_ _ rfl _ ⟨g80_0, rfl, f80_0, f80_1⟩
                        have zu_ := I_.1.size
                        refine rg_val (xlss rfl rfl _ rfl) rfl I_ (Mk.refl _ _ _) ⟨g80_0, rfl, f80_0, f80_1⟩
                      exact rga_nil
                    ·
                      rintro w11 I_ _ ⟨g81_0, rfl, f81_0, f81_1⟩
                      have m11 := I_.1
                      have z11 := m11.size
                      have E := E.trans m11
                      replace S := I_.2
                      replace GC := GC.off m11 (by omega)
                      replace O_b1 := m11.own O_b1 (by omega)
                      replace O_b3 := m11.own O_b3 (by omega)
                      refine ops_nil ?_
                      refine run_cond_s rfl (fun c81 => ?_) (fun c81 => ?_)
                      · replace c81 := of_decide_eq_true c81
                        refine run_skip ?_
                        refine run_block ?_
                        refine run_region ?_
                        refine ov (xfieldAddr fo49f4 rfl) rfl rfl rfl ?_
                        refine ov (v := .slice q m d) (xload1 Try.isAgg47 rfl (O_b3.cells) rfl) rfl rfl rfl ?_
                        refine ov (xbuild (vs := [.int .i64 300, .string ⟨#[97, 100, 97]⟩, .string ⟨#[97, 100, 97]⟩, .int .i64 5]) (cells := #[.int .i64 300, .string ⟨#[97, 100, 97]⟩, .string ⟨#[97, 100, 97]⟩, .int .i64 5]) rfl (by kernel_rfl)) rfl rfl rfl ?_
                        refine obuild (cs := [.int .i64 300, .string ⟨#[97, 100, 97]⟩, .string ⟨#[97, 100, 97]⟩, .int .i64 5]) (sz := 4) Try.underlying47 inf77 rfl rfl (by decide) rfl rfl (by simp [Value.cells]) rfl rfl rfl ?_
                        intro b12 w12 e12 hb12 hz12 O12
                        have E := E.trans (Mk.ofExt e12)
                        replace S := S.ext e12
                        replace GC := GC.ext e12
                        replace O_b1 := O_b1.ext e12
                        replace O_b3 := O_b3.ext e12
                        refine oappT (bytes := 48) (nm := (m + 1)) GC rfl rfl elem77 (Own.sl1 (y := (⟨300, ⟨#[97, 100, 97]⟩, ⟨#[97, 100, 97]⟩, 5⟩ : Handing)) O12) (by intro h; cases h) (by intro y hy; rfl) (by intro y hy u hu; rw [List.mem_singleton] at hy; subst hy; revert u; simp [Value.oneCell', Handing.cells, i64c]) (by omega) (by omega) (by omega) (by omega) rfl rfl ?_
                        intro p13 c13_ w13 m13 k13 G13
                        have hz13 := m13.size
                        have E := E.young m13 (by omega)
                        replace S := S.off m13 (by omega)
                        replace O_b1 := (by first | exact m13.own O_b1 (by omega) | exact k13.off_own O_b1 (GC.neT O_b1 (by decide)))
                        replace O_b3 := (by first | exact m13.own O_b3 (by omega) | exact k13.off_own O_b3 (GC.neT O_b3 (by decide)))
                        try replace O12 := m13.own O12 (by omega)
                        refine ov (xfieldAddr fo49f4 rfl) rfl rfl rfl ?_
                        refine ostore1 Try.sizeOf47 rfl rfl O_b3 (by simp) rfl rfl ?_
                        intro w14 on14 O14
                        have hz14 := on14.size
                        have E : Mk b (b + 1) w w14 := by first | exact E.trans (Mk.ofOnly on14 (by omega) (by omega)) | exact E.young (Mk.ofOnly on14 (Nat.le_refl _) (Nat.lt_succ_self _)) (by omega)
                        replace S := S.off (Mk.ofOnly on14 (Nat.le_refl _) (Nat.lt_succ_self _)) (by omega)
                        replace G13 := G13.onlyT O_b3 (by decide) on14
                        replace O_b1 := on14.own O_b1 (by omega)
                        replace O12 := on14.own O12 (by omega)
                        replace O14 : Own w14 b3 [.string r9_0.Code, .string r9_0.Found, .int .i64 r9_0.Day, .int .i64 r9_0.Seal, .slice p13 (m + 1) c13_] 49 := O14
                        refine ops_nil ?_
                        refine run_inBlock ?_
                        refine run_sub ?_ (hback18 (p13, (m + 1), c13_, (zs ++ [(⟨300, ⟨#[97, 100, 97]⟩, ⟨#[97, 100, 97]⟩, 5⟩ : Handing)]), w14) (⟨E, O_b1, O14, S, G13.wide (by omega) (by omega), by omega, by omega, ok_app3 hall ⟨by dsimp only; omega, by dsimp only; decide, by dsimp only; decide, by dsimp only; omega⟩⟩) (by first | omega | (dsimp only; omega)))
                        exact ⟨rfl, rfl, rfl, trivial⟩
                      · replace c81 := of_decide_eq_false c81
                        refine run_exit rfl ?_
                        refine run_inBlock ?_
                        refine run_seq ?_
                        refine run_region ?_
                        refine ov (v := .agg #[.string r9_0.Code, .string r9_0.Found, .int .i64 r9_0.Day, .int .i64 r9_0.Seal, .slice q m d]) (xloadN Try.isAgg49 Try.sizeOf49 rfl (O_b3.cells) rfl) rfl rfl rfl ?_
                        refine ostoreN (vs := _) Try.sizeOf49 rfl rfl O_b1 rfl (by simp) (by simp [Value.oneCell']) rfl ?_
                        intro w12 on12 O12
                        have hz12 := on12.size
                        have E : Mk b (b + 1) w w12 := by first | exact E.trans (Mk.ofOnly on12 (by omega) (by omega)) | exact E.young (Mk.ofOnly on12 (Nat.le_refl _) (Nat.lt_succ_self _)) (by omega)
                        replace S := S.off (Mk.ofOnly on12 (Nat.le_refl _) (Nat.lt_succ_self _)) (by omega)
                        replace GC := GC.onlyT O_b1 (by decide) on12
                        replace O_b3 := on12.own O_b3 (by omega)
                        replace O12 : Own w12 b1 [.string r9_0.Code, .string r9_0.Found, .int .i64 r9_0.Day, .int .i64 r9_0.Seal, .slice q m d] 49 := O12
                        refine ops_nil ?_
                        refine run_ret Try.func113 (resc1 rfl rfl (run_loadVar_cells Try.isAgg49 Try.sizeOf49 O12.cells rfl)) ?_
                        exact ⟨_, rfl, ⟨r9_0.Code, r9_0.Found, r9_0.Day, r9_0.Seal, zs⟩, _, _, _, rfl, ⟨h9_0.1, h9_0.2.1, h9_0.2.2.1, h9_0.2.2.2.1, hall⟩, by omega, GC.wide (by omega) (by omega), E, S⟩
                  ·
                    refine ov (xassign rfl) rfl rfl rfl ?_
                    refine ops_nil ?_
                    refine run_cond_f rfl ?_
                    refine run_skip ?_
                    refine run_inBlock ?_
                    refine run_seq ?_
                    refine run_region ?_
                    refine ov (v := .agg #[.string (r9_0).Code, .string (r9_0).Found, .int .i64 (r9_0).Day, .int .i64 (r9_0).Seal, .slice r9_1 r9_2 r9_3]) (xloadN Try.isAgg49 Try.sizeOf49 rfl (O4.cells) rfl) rfl rfl rfl ?_
                    refine ostoreN (vs := _) Try.sizeOf49 rfl rfl O1 rfl (by simp) (by simp [Value.oneCell']) rfl ?_
                    intro w11 on11 O11
                    have hz11 := on11.size
                    have E : Mk b (b + 1) w w11 := by first | exact E.trans (Mk.ofOnly on11 (by omega) (by omega)) | exact E.young (Mk.ofOnly on11 (Nat.le_refl _) (Nat.lt_succ_self _)) (by omega)
                    replace S := S.off (Mk.ofOnly on11 (Nat.le_refl _) (Nat.lt_succ_self _)) (by omega)
                    replace h9_2 := h9_2.onlyT O1 (by decide) on11
                    replace O4 := on11.own O4 (by omega)
                    replace O11 : Own w11 b1 [.string (r9_0).Code, .string (r9_0).Found, .int .i64 (r9_0).Day, .int .i64 (r9_0).Seal, .slice r9_1 r9_2 r9_3] 49 := O11
                    refine ops_nil ?_
                    refine run_ret Try.func113 (resc1 rfl rfl (run_loadVar_cells Try.isAgg49 Try.sizeOf49 O11.cells rfl)) ?_
                    exact ⟨_, rfl, ⟨r9_0.Code, (r9_0).Found, r9_0.Day, r9_0.Seal, (r9_0.Chain.set r18_0.toNat { (r9_0.Chain[r18_0.toNat]'(by omega)) with Seal := g63_0 })⟩, _, _, _, rfl, ⟨h9_0.1, h9_0.2.1, h9_0.2.2.1, h9_0.2.2.2.1, hall0⟩, by omega, h9_2.wide (by omega) (by omega), E, S⟩
            ·
              refine ops_nil ?_
              refine run_cond_f rfl ?_
              refine run_skip ?_
              refine run_inBlock ?_
              refine run_seq ?_
              refine run_seq ?_
              refine run_region ?_
              have hq0 := h9_0.2.2.2.2
              have hall0 : ∀ h ∈ r9_0.Chain, hanOk h := hq0
              have hl0 := h9_2.len
              refine ov (xmove rfl) rfl rfl rfl ?_
              refine oc (xcall Try.call114 rfl) rfl rfl rfl (l01Next_ok b cb (40) _ S) ?_
              rintro _ w8 ⟨r67_0, rfl, h67_0, h67_1, m8, S8⟩
              have z8 := m8.size
              have E := E.trans m8
              replace h9_2 := h9_2.off m8 (by omega)
              replace O1 := m8.own O1 (by omega)
              replace O4 := m8.own O4 (by omega)
              replace S := S8
              refine ops_nil ?_
              refine run_block ?_
              refine run_seq ?_
              refine run_region ?_
              refine ov (xeql rfl rfl _ rfl) rfl rfl rfl ?_
              refine ods (fun c69 => ?_) (fun c69 => ?_)
              ·
                refine ov (xassign rfl) rfl rfl rfl ?_
                refine ops_nil ?_
                refine run_cond_t rfl ?_
                refine run_region ?_
                refine ov (xmove rfl) rfl rfl rfl ?_
                refine oc (xcall Try.call121 rfl) rfl rfl rfl (l01DrawWord_ok b cb _ S) ?_
                rintro _ w9 ⟨r71_0, rfl, h71_0, m9, S9⟩
                have z9 := m9.size
                have E := E.trans m9
                replace h9_2 := h9_2.off m9 (by omega)
                replace O1 := m9.own O1 (by omega)
                replace O4 := m9.own O4 (by omega)
                replace S := S9
                refine ov (xfieldAddr fo49f1 rfl) rfl rfl rfl ?_
                refine ostore1 Try.sizeOf9 rfl rfl O4 (by simp) rfl rfl ?_
                intro w10 on10 O10
                have hz10 := on10.size
                have E : Mk b (b + 1) w w10 := by first | exact E.trans (Mk.ofOnly on10 (by omega) (by omega)) | exact E.young (Mk.ofOnly on10 (Nat.le_refl _) (Nat.lt_succ_self _)) (by omega)
                replace S := S.off (Mk.ofOnly on10 (Nat.le_refl _) (Nat.lt_succ_self _)) (by omega)
                replace h9_2 := h9_2.onlyT O4 (by decide) on10
                replace O1 := on10.own O1 (by omega)
                replace O10 : Own w10 b3 [.string (r9_0).Code, .string r71_0, .int .i64 (r9_0).Day, .int .i64 (r9_0).Seal, .slice r9_1 r9_2 r9_3] 49 := O10
                refine ops_nil ?_
                refine run_inBlock ?_
                refine run_seq ?_
                refine run_region ?_
                refine ov (v := .agg #[.string (r9_0).Code, .string r71_0, .int .i64 (r9_0).Day, .int .i64 (r9_0).Seal, .slice r9_1 r9_2 r9_3]) (xloadN Try.isAgg49 Try.sizeOf49 rfl (O10.cells) rfl) rfl rfl rfl ?_
                refine ostoreN (vs := _) Try.sizeOf49 rfl rfl O1 rfl (by simp) (by simp [Value.oneCell']) rfl ?_
                intro w11 on11 O11
                have hz11 := on11.size
                have E : Mk b (b + 1) w w11 := by first | exact E.trans (Mk.ofOnly on11 (by omega) (by omega)) | exact E.young (Mk.ofOnly on11 (Nat.le_refl _) (Nat.lt_succ_self _)) (by omega)
                replace S := S.off (Mk.ofOnly on11 (Nat.le_refl _) (Nat.lt_succ_self _)) (by omega)
                replace h9_2 := h9_2.onlyT O1 (by decide) on11
                replace O10 := on11.own O10 (by omega)
                replace O11 : Own w11 b1 [.string (r9_0).Code, .string r71_0, .int .i64 (r9_0).Day, .int .i64 (r9_0).Seal, .slice r9_1 r9_2 r9_3] 49 := O11
                refine ops_nil ?_
                refine run_ret Try.func113 (resc1 rfl rfl (run_loadVar_cells Try.isAgg49 Try.sizeOf49 O11.cells rfl)) ?_
                exact ⟨_, rfl, ⟨r9_0.Code, r71_0, r9_0.Day, r9_0.Seal, r9_0.Chain⟩, _, _, _, rfl, ⟨h9_0.1, h71_0, h9_0.2.2.1, h9_0.2.2.2.1, hall0⟩, by omega, h9_2.wide (by omega) (by omega), E, S⟩
              ·
                refine ov (xassign rfl) rfl rfl rfl ?_
                refine ops_nil ?_
                refine run_cond_f rfl ?_
                refine run_seq ?_
                refine run_region ?_
                refine ov (xeql rfl rfl _ rfl) rfl rfl rfl ?_
                refine ods (fun c74 => ?_) (fun c74 => ?_)
                ·
                  refine ov (xassign rfl) rfl rfl rfl ?_
                  refine ops_nil ?_
                  refine run_cond_t rfl ?_
                  refine run_block ?_
                  refine run_loop (ι := Option Addr × Nat × Nat × List Handing × World) (fun x_ => match x_ with | (q, m, d, zs, wr) => (Mk b (b + 1) w wr) ∧ (Own wr b1 ([.string ⟨#[]⟩, .string ⟨#[]⟩, .int .i64 0, .int .i64 0, .slice none 0 0]) 49) ∧ (Own wr b3 ([.string r9_0.Code, .string r9_0.Found, .int .i64 r9_0.Day, .int .i64 r9_0.Seal, .slice q m d]) 49) ∧ (Src wr b cb) ∧ (Ow Handing.cells 4 77 wr w.heap.size wr.heap.size q m d zs) ∧ (w8.heap.size ≤ wr.heap.size) ∧ (m ≤ 13) ∧ (∀ h ∈ zs, hanOk h)) (fun x_ => match x_ with | (q, m, d, zs, wr) => [(0, .pointer (some ⟨b, 0, none⟩)), (4, .pointer (some ⟨b1, 0, none⟩)), (5, .pointer (some ⟨b3, 0, none⟩))]) (fun x_ => match x_ with | (q, m, d, zs, wr) => wr) (fun x_ => match x_ with | (q, m, d, zs, wr) => 14 - m) ?_ (r9_1, r9_2, r9_3, r9_0.Chain, w8) (⟨E, O1, O4, S, h9_2.wide (by omega) (by omega), Nat.le_refl _, by omega, hall0⟩) ⟨rfl, rfl, rfl, trivial⟩ rfl
                  intro i_ hI_ hback18
                  obtain ⟨q, m, d, zs, wr⟩ := i_
                  obtain ⟨E, O_b1, O_b3, S, GC, lz_wr, hm13, hall⟩ := hI_
                  try dsimp only
                  have zr := E.size
                  have lt_b1 := O_b1.lt
                  have lt_b3 := O_b3.lt
                  refine run_seq ?_
                  refine run_seq ?_
                  refine run_rg (τ := [(0, .pointer (some ⟨b, 0, none⟩)), (4, .pointer (some ⟨b1, 0, none⟩)), (5, .pointer (some ⟨b3, 0, none⟩))]) 7 [75, 76, 77, 78, 79, 80, 81] (fun u_ => Mk b (b + 1) wr u_ ∧ Src u_ b cb) (fun i_ => Mk b (b + 1)) (fun i_ v_ u_ => match i_ with | 0 => v_ = .pointer (some ⟨b3, 0 + 4, none⟩) | 1 => v_ = .slice q m d | 2 => v_ = .int .i64 (m : Int) | 3 => v_ = .pointer (some ⟨b, 0, none⟩) | 4 => ∃ (y0_ : Int), v_ = .int .i64 y0_ ∧ 0 ≤ y0_ ∧ (y0_ < 2 ∨ y0_ = 0) | 5 => ∃ (y0_ : Int), v_ = .int .i64 (12 + y0_) ∧ 0 ≤ y0_ ∧ (y0_ < 2 ∨ y0_ = 0) | 6 => ∃ (y0_ : Int), v_ = .bool (decide ((m : Int) < (12 + y0_))) ∧ 0 ≤ y0_ ∧ (y0_ < 2 ∨ y0_ = 0) | _ => True) [(6, some 81)] (by kernel_rfl) (by kernel_rfl) (by kernel_rfl) (by kernel_rfl) (by kernel_rfl) (by kernel_rfl) ⟨rfl, rfl, rfl, trivial⟩ rfl (fun u_ e_ z_ => ⟨Mk.ofExt e_, S.ext e_⟩) ?_ ?_ ?_
                  · intro i_ j_ hi_ hj_ hij_ v_ u_ u2_ I_ I2_ r_ g_
                    have zu_ := I_.1.size
                    clear hi_
                    rcases (by omega : j_ = 0 ∨ j_ = 1 ∨ j_ = 2 ∨ j_ = 3 ∨ j_ = 4 ∨ j_ = 5 ∨ j_ = 6) with rfl | rfl | rfl | rfl | rfl | rfl | rfl
                    · exact g_
                    · exact g_
                    · exact g_
                    · exact g_
                    · exact g_
                    · exact g_
                    · exact g_
                  ·
                    refine rga [] (by kernel_rfl) ?_ ?_
                    · intro u_ I_
                      have zu_ := I_.1.size
                      refine rg_val (xfieldAddr fo49f4 rfl) rfl I_ (Mk.refl _ _ _) rfl
                    refine rga [(0, some 75)] (by kernel_rfl) ?_ ?_
                    · rintro u_ I_ _ rfl
                      have zu_ := I_.1.size
                      have OB_ := I_.1.own O_b3 (by omega)
                      refine rg_val (xload1 Try.isAgg47 rfl (OB_.cells) rfl) rfl I_ (Mk.refl _ _ _) rfl
                    refine rga [(1, some 76)] (by kernel_rfl) ?_ ?_
                    · rintro u_ I_ _ rfl
                      have zu_ := I_.1.size
                      refine rg_val (xlen Try.underlying47 rfl) rfl I_ (Mk.refl _ _ _) rfl
                    refine rga [] (by kernel_rfl) ?_ ?_
                    · intro u_ I_
                      have zu_ := I_.1.size
                      refine rg_val (xmove rfl) rfl I_ (Mk.refl _ _ _) rfl
                    refine rga [(3, some 78)] (by kernel_rfl) ?_ ?_
                    · rintro u_ I_ _ rfl
                      have zu_ := I_.1.size
                      refine rg_call (xcall Try.call114 rfl) rfl (l01Next_ok b cb (2) _ I_.2) ?_
                      rintro _ w_ ⟨r_0, rfl, h_0, h_1, m_, S_⟩
                      exact ⟨⟨I_.1.trans m_, S_⟩, m_, ⟨r_0, rfl, h_0, h_1⟩⟩
                    refine rga [(4, some 79)] (by kernel_rfl) ?_ ?_
                    · rintro u_ I_ _ ⟨g79_0, rfl, f79_0, f79_1⟩
                      have zu_ := I_.1.size
                      refine rg_val (xadd rfl rfl (by unfold I64; omega)) rfl I_ (Mk.refl _ _ _) ⟨g79_0, rfl, f79_0, f79_1⟩
                    refine rga [(2, some 77), (5, some 80)] (by kernel_rfl) ?_ ?_
                    · rintro u_ I_ _ rfl _ ⟨g80_0, rfl, f80_0, f80_1⟩
                      have zu_ := I_.1.size
                      refine rg_val (xlss rfl rfl _ rfl) rfl I_ (Mk.refl _ _ _) ⟨g80_0, rfl, f80_0, f80_1⟩
                    exact rga_nil
                  ·
                    rintro w9 I_ _ ⟨g81_0, rfl, f81_0, f81_1⟩
                    have m9 := I_.1
                    have z9 := m9.size
                    have E := E.trans m9
                    replace S := I_.2
                    replace GC := GC.off m9 (by omega)
                    replace O_b1 := m9.own O_b1 (by omega)
                    replace O_b3 := m9.own O_b3 (by omega)
                    refine ops_nil ?_
                    refine run_cond_s rfl (fun c81 => ?_) (fun c81 => ?_)
                    · replace c81 := of_decide_eq_true c81
                      refine run_skip ?_
                      refine run_block ?_
                      refine run_region ?_
                      refine ov (xfieldAddr fo49f4 rfl) rfl rfl rfl ?_
                      refine ov (v := .slice q m d) (xload1 Try.isAgg47 rfl (O_b3.cells) rfl) rfl rfl rfl ?_
                      refine ov (xbuild (vs := [.int .i64 300, .string ⟨#[97, 100, 97]⟩, .string ⟨#[97, 100, 97]⟩, .int .i64 5]) (cells := #[.int .i64 300, .string ⟨#[97, 100, 97]⟩, .string ⟨#[97, 100, 97]⟩, .int .i64 5]) rfl (by kernel_rfl)) rfl rfl rfl ?_
                      refine obuild (cs := [.int .i64 300, .string ⟨#[97, 100, 97]⟩, .string ⟨#[97, 100, 97]⟩, .int .i64 5]) (sz := 4) Try.underlying47 inf77 rfl rfl (by decide) rfl rfl (by simp [Value.cells]) rfl rfl rfl ?_
                      intro b10 w10 e10 hb10 hz10 O10
                      have E := E.trans (Mk.ofExt e10)
                      replace S := S.ext e10
                      replace GC := GC.ext e10
                      replace O_b1 := O_b1.ext e10
                      replace O_b3 := O_b3.ext e10
                      refine oappT (bytes := 48) (nm := (m + 1)) GC rfl rfl elem77 (Own.sl1 (y := (⟨300, ⟨#[97, 100, 97]⟩, ⟨#[97, 100, 97]⟩, 5⟩ : Handing)) O10) (by intro h; cases h) (by intro y hy; rfl) (by intro y hy u hu; rw [List.mem_singleton] at hy; subst hy; revert u; simp [Value.oneCell', Handing.cells, i64c]) (by omega) (by omega) (by omega) (by omega) rfl rfl ?_
                      intro p11 c11_ w11 m11 k11 G11
                      have hz11 := m11.size
                      have E := E.young m11 (by omega)
                      replace S := S.off m11 (by omega)
                      replace O_b1 := (by first | exact m11.own O_b1 (by omega) | exact k11.off_own O_b1 (GC.neT O_b1 (by decide)))
                      replace O_b3 := (by first | exact m11.own O_b3 (by omega) | exact k11.off_own O_b3 (GC.neT O_b3 (by decide)))
                      try replace O10 := m11.own O10 (by omega)
                      refine ov (xfieldAddr fo49f4 rfl) rfl rfl rfl ?_
                      refine ostore1 Try.sizeOf47 rfl rfl O_b3 (by simp) rfl rfl ?_
                      intro w12 on12 O12
                      have hz12 := on12.size
                      have E : Mk b (b + 1) w w12 := by first | exact E.trans (Mk.ofOnly on12 (by omega) (by omega)) | exact E.young (Mk.ofOnly on12 (Nat.le_refl _) (Nat.lt_succ_self _)) (by omega)
                      replace S := S.off (Mk.ofOnly on12 (Nat.le_refl _) (Nat.lt_succ_self _)) (by omega)
                      replace G11 := G11.onlyT O_b3 (by decide) on12
                      replace O_b1 := on12.own O_b1 (by omega)
                      replace O10 := on12.own O10 (by omega)
                      replace O12 : Own w12 b3 [.string r9_0.Code, .string r9_0.Found, .int .i64 r9_0.Day, .int .i64 r9_0.Seal, .slice p11 (m + 1) c11_] 49 := O12
                      refine ops_nil ?_
                      refine run_inBlock ?_
                      refine run_sub ?_ (hback18 (p11, (m + 1), c11_, (zs ++ [(⟨300, ⟨#[97, 100, 97]⟩, ⟨#[97, 100, 97]⟩, 5⟩ : Handing)]), w12) (⟨E, O_b1, O12, S, G11.wide (by omega) (by omega), by omega, by omega, ok_app3 hall ⟨by dsimp only; omega, by dsimp only; decide, by dsimp only; decide, by dsimp only; omega⟩⟩) (by first | omega | (dsimp only; omega)))
                      exact ⟨rfl, rfl, rfl, trivial⟩
                    · replace c81 := of_decide_eq_false c81
                      refine run_exit rfl ?_
                      refine run_inBlock ?_
                      refine run_seq ?_
                      refine run_region ?_
                      refine ov (v := .agg #[.string r9_0.Code, .string r9_0.Found, .int .i64 r9_0.Day, .int .i64 r9_0.Seal, .slice q m d]) (xloadN Try.isAgg49 Try.sizeOf49 rfl (O_b3.cells) rfl) rfl rfl rfl ?_
                      refine ostoreN (vs := _) Try.sizeOf49 rfl rfl O_b1 rfl (by simp) (by simp [Value.oneCell']) rfl ?_
                      intro w10 on10 O10
                      have hz10 := on10.size
                      have E : Mk b (b + 1) w w10 := by first | exact E.trans (Mk.ofOnly on10 (by omega) (by omega)) | exact E.young (Mk.ofOnly on10 (Nat.le_refl _) (Nat.lt_succ_self _)) (by omega)
                      replace S := S.off (Mk.ofOnly on10 (Nat.le_refl _) (Nat.lt_succ_self _)) (by omega)
                      replace GC := GC.onlyT O_b1 (by decide) on10
                      replace O_b3 := on10.own O_b3 (by omega)
                      replace O10 : Own w10 b1 [.string r9_0.Code, .string r9_0.Found, .int .i64 r9_0.Day, .int .i64 r9_0.Seal, .slice q m d] 49 := O10
                      refine ops_nil ?_
                      refine run_ret Try.func113 (resc1 rfl rfl (run_loadVar_cells Try.isAgg49 Try.sizeOf49 O10.cells rfl)) ?_
                      exact ⟨_, rfl, ⟨r9_0.Code, r9_0.Found, r9_0.Day, r9_0.Seal, zs⟩, _, _, _, rfl, ⟨h9_0.1, h9_0.2.1, h9_0.2.2.1, h9_0.2.2.2.1, hall⟩, by omega, GC.wide (by omega) (by omega), E, S⟩
                ·
                  refine ov (xassign rfl) rfl rfl rfl ?_
                  refine ops_nil ?_
                  refine run_cond_f rfl ?_
                  refine run_skip ?_
                  refine run_inBlock ?_
                  refine run_seq ?_
                  refine run_region ?_
                  refine ov (v := .agg #[.string (r9_0).Code, .string (r9_0).Found, .int .i64 (r9_0).Day, .int .i64 (r9_0).Seal, .slice r9_1 r9_2 r9_3]) (xloadN Try.isAgg49 Try.sizeOf49 rfl (O4.cells) rfl) rfl rfl rfl ?_
                  refine ostoreN (vs := _) Try.sizeOf49 rfl rfl O1 rfl (by simp) (by simp [Value.oneCell']) rfl ?_
                  intro w9 on9 O9
                  have hz9 := on9.size
                  have E : Mk b (b + 1) w w9 := by first | exact E.trans (Mk.ofOnly on9 (by omega) (by omega)) | exact E.young (Mk.ofOnly on9 (Nat.le_refl _) (Nat.lt_succ_self _)) (by omega)
                  replace S := S.off (Mk.ofOnly on9 (Nat.le_refl _) (Nat.lt_succ_self _)) (by omega)
                  replace h9_2 := h9_2.onlyT O1 (by decide) on9
                  replace O4 := on9.own O4 (by omega)
                  replace O9 : Own w9 b1 [.string (r9_0).Code, .string (r9_0).Found, .int .i64 (r9_0).Day, .int .i64 (r9_0).Seal, .slice r9_1 r9_2 r9_3] 49 := O9
                  refine ops_nil ?_
                  refine run_ret Try.func113 (resc1 rfl rfl (run_loadVar_cells Try.isAgg49 Try.sizeOf49 O9.cells rfl)) ?_
                  exact ⟨_, rfl, ⟨r9_0.Code, (r9_0).Found, r9_0.Day, r9_0.Seal, r9_0.Chain⟩, _, _, _, rfl, ⟨h9_0.1, h9_0.2.1, h9_0.2.2.1, h9_0.2.2.2.1, hall0⟩, by omega, h9_2.wide (by omega) (by omega), E, S⟩
          ·
            refine ov (xassign rfl) rfl rfl rfl ?_
            refine ops_nil ?_
            refine run_cond_f rfl ?_
            refine run_skip ?_
            refine run_inBlock ?_
            refine run_seq ?_
            refine run_seq ?_
            refine run_region ?_
            have hq0 := h9_0.2.2.2.2
            have hall0 : ∀ h ∈ r9_0.Chain, hanOk h := hq0
            have hl0 := h9_2.len
            refine ov (xmove rfl) rfl rfl rfl ?_
            refine oc (xcall Try.call114 rfl) rfl rfl rfl (l01Next_ok b cb (40) _ S) ?_
            rintro _ w7 ⟨r67_0, rfl, h67_0, h67_1, m7, S7⟩
            have z7 := m7.size
            have E := E.trans m7
            replace h9_2 := h9_2.off m7 (by omega)
            replace O1 := m7.own O1 (by omega)
            replace O4 := m7.own O4 (by omega)
            replace S := S7
            refine ops_nil ?_
            refine run_block ?_
            refine run_seq ?_
            refine run_region ?_
            refine ov (xeql rfl rfl _ rfl) rfl rfl rfl ?_
            refine ods (fun c69 => ?_) (fun c69 => ?_)
            ·
              refine ov (xassign rfl) rfl rfl rfl ?_
              refine ops_nil ?_
              refine run_cond_t rfl ?_
              refine run_region ?_
              refine ov (xmove rfl) rfl rfl rfl ?_
              refine oc (xcall Try.call121 rfl) rfl rfl rfl (l01DrawWord_ok b cb _ S) ?_
              rintro _ w8 ⟨r71_0, rfl, h71_0, m8, S8⟩
              have z8 := m8.size
              have E := E.trans m8
              replace h9_2 := h9_2.off m8 (by omega)
              replace O1 := m8.own O1 (by omega)
              replace O4 := m8.own O4 (by omega)
              replace S := S8
              refine ov (xfieldAddr fo49f1 rfl) rfl rfl rfl ?_
              refine ostore1 Try.sizeOf9 rfl rfl O4 (by simp) rfl rfl ?_
              intro w9 on9 O9
              have hz9 := on9.size
              have E : Mk b (b + 1) w w9 := by first | exact E.trans (Mk.ofOnly on9 (by omega) (by omega)) | exact E.young (Mk.ofOnly on9 (Nat.le_refl _) (Nat.lt_succ_self _)) (by omega)
              replace S := S.off (Mk.ofOnly on9 (Nat.le_refl _) (Nat.lt_succ_self _)) (by omega)
              replace h9_2 := h9_2.onlyT O4 (by decide) on9
              replace O1 := on9.own O1 (by omega)
              replace O9 : Own w9 b3 [.string (r9_0).Code, .string r71_0, .int .i64 (r9_0).Day, .int .i64 (r9_0).Seal, .slice r9_1 r9_2 r9_3] 49 := O9
              refine ops_nil ?_
              refine run_inBlock ?_
              refine run_seq ?_
              refine run_region ?_
              refine ov (v := .agg #[.string (r9_0).Code, .string r71_0, .int .i64 (r9_0).Day, .int .i64 (r9_0).Seal, .slice r9_1 r9_2 r9_3]) (xloadN Try.isAgg49 Try.sizeOf49 rfl (O9.cells) rfl) rfl rfl rfl ?_
              refine ostoreN (vs := _) Try.sizeOf49 rfl rfl O1 rfl (by simp) (by simp [Value.oneCell']) rfl ?_
              intro w10 on10 O10
              have hz10 := on10.size
              have E : Mk b (b + 1) w w10 := by first | exact E.trans (Mk.ofOnly on10 (by omega) (by omega)) | exact E.young (Mk.ofOnly on10 (Nat.le_refl _) (Nat.lt_succ_self _)) (by omega)
              replace S := S.off (Mk.ofOnly on10 (Nat.le_refl _) (Nat.lt_succ_self _)) (by omega)
              replace h9_2 := h9_2.onlyT O1 (by decide) on10
              replace O9 := on10.own O9 (by omega)
              replace O10 : Own w10 b1 [.string (r9_0).Code, .string r71_0, .int .i64 (r9_0).Day, .int .i64 (r9_0).Seal, .slice r9_1 r9_2 r9_3] 49 := O10
              refine ops_nil ?_
              refine run_ret Try.func113 (resc1 rfl rfl (run_loadVar_cells Try.isAgg49 Try.sizeOf49 O10.cells rfl)) ?_
              exact ⟨_, rfl, ⟨r9_0.Code, r71_0, r9_0.Day, r9_0.Seal, r9_0.Chain⟩, _, _, _, rfl, ⟨h9_0.1, h71_0, h9_0.2.2.1, h9_0.2.2.2.1, hall0⟩, by omega, h9_2.wide (by omega) (by omega), E, S⟩
            ·
              refine ov (xassign rfl) rfl rfl rfl ?_
              refine ops_nil ?_
              refine run_cond_f rfl ?_
              refine run_seq ?_
              refine run_region ?_
              refine ov (xeql rfl rfl _ rfl) rfl rfl rfl ?_
              refine ods (fun c74 => ?_) (fun c74 => ?_)
              ·
                refine ov (xassign rfl) rfl rfl rfl ?_
                refine ops_nil ?_
                refine run_cond_t rfl ?_
                refine run_block ?_
                refine run_loop (ι := Option Addr × Nat × Nat × List Handing × World) (fun x_ => match x_ with | (q, m, d, zs, wr) => (Mk b (b + 1) w wr) ∧ (Own wr b1 ([.string ⟨#[]⟩, .string ⟨#[]⟩, .int .i64 0, .int .i64 0, .slice none 0 0]) 49) ∧ (Own wr b3 ([.string r9_0.Code, .string r9_0.Found, .int .i64 r9_0.Day, .int .i64 r9_0.Seal, .slice q m d]) 49) ∧ (Src wr b cb) ∧ (Ow Handing.cells 4 77 wr w.heap.size wr.heap.size q m d zs) ∧ (w7.heap.size ≤ wr.heap.size) ∧ (m ≤ 13) ∧ (∀ h ∈ zs, hanOk h)) (fun x_ => match x_ with | (q, m, d, zs, wr) => [(0, .pointer (some ⟨b, 0, none⟩)), (4, .pointer (some ⟨b1, 0, none⟩)), (5, .pointer (some ⟨b3, 0, none⟩))]) (fun x_ => match x_ with | (q, m, d, zs, wr) => wr) (fun x_ => match x_ with | (q, m, d, zs, wr) => 14 - m) ?_ (r9_1, r9_2, r9_3, r9_0.Chain, w7) (⟨E, O1, O4, S, h9_2.wide (by omega) (by omega), Nat.le_refl _, by omega, hall0⟩) ⟨rfl, rfl, rfl, trivial⟩ rfl
                intro i_ hI_ hback18
                obtain ⟨q, m, d, zs, wr⟩ := i_
                obtain ⟨E, O_b1, O_b3, S, GC, lz_wr, hm13, hall⟩ := hI_
                try dsimp only
                have zr := E.size
                have lt_b1 := O_b1.lt
                have lt_b3 := O_b3.lt
                refine run_seq ?_
                refine run_seq ?_
                refine run_rg (τ := [(0, .pointer (some ⟨b, 0, none⟩)), (4, .pointer (some ⟨b1, 0, none⟩)), (5, .pointer (some ⟨b3, 0, none⟩))]) 7 [75, 76, 77, 78, 79, 80, 81] (fun u_ => Mk b (b + 1) wr u_ ∧ Src u_ b cb) (fun i_ => Mk b (b + 1)) (fun i_ v_ u_ => match i_ with | 0 => v_ = .pointer (some ⟨b3, 0 + 4, none⟩) | 1 => v_ = .slice q m d | 2 => v_ = .int .i64 (m : Int) | 3 => v_ = .pointer (some ⟨b, 0, none⟩) | 4 => ∃ (y0_ : Int), v_ = .int .i64 y0_ ∧ 0 ≤ y0_ ∧ (y0_ < 2 ∨ y0_ = 0) | 5 => ∃ (y0_ : Int), v_ = .int .i64 (12 + y0_) ∧ 0 ≤ y0_ ∧ (y0_ < 2 ∨ y0_ = 0) | 6 => ∃ (y0_ : Int), v_ = .bool (decide ((m : Int) < (12 + y0_))) ∧ 0 ≤ y0_ ∧ (y0_ < 2 ∨ y0_ = 0) | _ => True) [(6, some 81)] (by kernel_rfl) (by kernel_rfl) (by kernel_rfl) (by kernel_rfl) (by kernel_rfl) (by kernel_rfl) ⟨rfl, rfl, rfl, trivial⟩ rfl (fun u_ e_ z_ => ⟨Mk.ofExt e_, S.ext e_⟩) ?_ ?_ ?_
                · intro i_ j_ hi_ hj_ hij_ v_ u_ u2_ I_ I2_ r_ g_
                  have zu_ := I_.1.size
                  clear hi_
                  rcases (by omega : j_ = 0 ∨ j_ = 1 ∨ j_ = 2 ∨ j_ = 3 ∨ j_ = 4 ∨ j_ = 5 ∨ j_ = 6) with rfl | rfl | rfl | rfl | rfl | rfl | rfl
                  · exact g_
                  · exact g_
                  · exact g_
                  · exact g_
                  · exact g_
                  · exact g_
                  · exact g_
                ·
                  refine rga [] (by kernel_rfl) ?_ ?_
                  · intro u_ I_
                    have zu_ := I_.1.size
                    refine rg_val (xfieldAddr fo49f4 rfl) rfl I_ (Mk.refl _ _ _) rfl
                  refine rga [(0, some 75)] (by kernel_rfl) ?_ ?_
                  · rintro u_ I_ _ rfl
                    have zu_ := I_.1.size
                    have OB_ := I_.1.own O_b3 (by omega)
                    refine rg_val (xload1 Try.isAgg47 rfl (OB_.cells) rfl) rfl I_ (Mk.refl _ _ _) rfl
                  refine rga [(1, some 76)] (by kernel_rfl) ?_ ?_
                  · rintro u_ I_ _ rfl
                    have zu_ := I_.1.size
                    refine rg_val (xlen Try.underlying47 rfl) rfl I_ (Mk.refl _ _ _) rfl
                  refine rga [] (by kernel_rfl) ?_ ?_
                  · intro u_ I_
                    have zu_ := I_.1.size
                    refine rg_val (xmove rfl) rfl I_ (Mk.refl _ _ _) rfl
                  refine rga [(3, some 78)] (by kernel_rfl) ?_ ?_
                  · rintro u_ I_ _ rfl
                    have zu_ := I_.1.size
                    refine rg_call (xcall Try.call114 rfl) rfl (l01Next_ok b cb (2) _ I_.2) ?_
                    rintro _ w_ ⟨r_0, rfl, h_0, h_1, m_, S_⟩
                    exact ⟨⟨I_.1.trans m_, S_⟩, m_, ⟨r_0, rfl, h_0, h_1⟩⟩
                  refine rga [(4, some 79)] (by kernel_rfl) ?_ ?_
                  · rintro u_ I_ _ ⟨g79_0, rfl, f79_0, f79_1⟩
                    have zu_ := I_.1.size
                    refine rg_val (xadd rfl rfl (by unfold I64; omega)) rfl I_ (Mk.refl _ _ _) ⟨g79_0, rfl, f79_0, f79_1⟩
                  refine rga [(2, some 77), (5, some 80)] (by kernel_rfl) ?_ ?_
                  · rintro u_ I_ _ rfl _ ⟨g80_0, rfl, f80_0, f80_1⟩
                    have zu_ := I_.1.size
                    refine rg_val (xlss rfl rfl _ rfl) rfl I_ (Mk.refl _ _ _) ⟨g80_0, rfl, f80_0, f80_1⟩
                  exact rga_nil
                ·
                  rintro w8 I_ _ ⟨g81_0, rfl, f81_0, f81_1⟩
                  have m8 := I_.1
                  have z8 := m8.size
                  have E := E.trans m8
                  replace S := I_.2
                  replace GC := GC.off m8 (by omega)
                  replace O_b1 := m8.own O_b1 (by omega)
                  replace O_b3 := m8.own O_b3 (by omega)
                  refine ops_nil ?_
                  refine run_cond_s rfl (fun c81 => ?_) (fun c81 => ?_)
                  · replace c81 := of_decide_eq_true c81
                    refine run_skip ?_
                    refine run_block ?_
                    refine run_region ?_
                    refine ov (xfieldAddr fo49f4 rfl) rfl rfl rfl ?_
                    refine ov (v := .slice q m d) (xload1 Try.isAgg47 rfl (O_b3.cells) rfl) rfl rfl rfl ?_
                    refine ov (xbuild (vs := [.int .i64 300, .string ⟨#[97, 100, 97]⟩, .string ⟨#[97, 100, 97]⟩, .int .i64 5]) (cells := #[.int .i64 300, .string ⟨#[97, 100, 97]⟩, .string ⟨#[97, 100, 97]⟩, .int .i64 5]) rfl (by kernel_rfl)) rfl rfl rfl ?_
                    refine obuild (cs := [.int .i64 300, .string ⟨#[97, 100, 97]⟩, .string ⟨#[97, 100, 97]⟩, .int .i64 5]) (sz := 4) Try.underlying47 inf77 rfl rfl (by decide) rfl rfl (by simp [Value.cells]) rfl rfl rfl ?_
                    intro b9 w9 e9 hb9 hz9 O9
                    have E := E.trans (Mk.ofExt e9)
                    replace S := S.ext e9
                    replace GC := GC.ext e9
                    replace O_b1 := O_b1.ext e9
                    replace O_b3 := O_b3.ext e9
                    refine oappT (bytes := 48) (nm := (m + 1)) GC rfl rfl elem77 (Own.sl1 (y := (⟨300, ⟨#[97, 100, 97]⟩, ⟨#[97, 100, 97]⟩, 5⟩ : Handing)) O9) (by intro h; cases h) (by intro y hy; rfl) (by intro y hy u hu; rw [List.mem_singleton] at hy; subst hy; revert u; simp [Value.oneCell', Handing.cells, i64c]) (by omega) (by omega) (by omega) (by omega) rfl rfl ?_
                    intro p10 c10_ w10 m10 k10 G10
                    have hz10 := m10.size
                    have E := E.young m10 (by omega)
                    replace S := S.off m10 (by omega)
                    replace O_b1 := (by first | exact m10.own O_b1 (by omega) | exact k10.off_own O_b1 (GC.neT O_b1 (by decide)))
                    replace O_b3 := (by first | exact m10.own O_b3 (by omega) | exact k10.off_own O_b3 (GC.neT O_b3 (by decide)))
                    try replace O9 := m10.own O9 (by omega)
                    refine ov (xfieldAddr fo49f4 rfl) rfl rfl rfl ?_
                    refine ostore1 Try.sizeOf47 rfl rfl O_b3 (by simp) rfl rfl ?_
                    intro w11 on11 O11
                    have hz11 := on11.size
                    have E : Mk b (b + 1) w w11 := by first | exact E.trans (Mk.ofOnly on11 (by omega) (by omega)) | exact E.young (Mk.ofOnly on11 (Nat.le_refl _) (Nat.lt_succ_self _)) (by omega)
                    replace S := S.off (Mk.ofOnly on11 (Nat.le_refl _) (Nat.lt_succ_self _)) (by omega)
                    replace G10 := G10.onlyT O_b3 (by decide) on11
                    replace O_b1 := on11.own O_b1 (by omega)
                    replace O9 := on11.own O9 (by omega)
                    replace O11 : Own w11 b3 [.string r9_0.Code, .string r9_0.Found, .int .i64 r9_0.Day, .int .i64 r9_0.Seal, .slice p10 (m + 1) c10_] 49 := O11
                    refine ops_nil ?_
                    refine run_inBlock ?_
                    refine run_sub ?_ (hback18 (p10, (m + 1), c10_, (zs ++ [(⟨300, ⟨#[97, 100, 97]⟩, ⟨#[97, 100, 97]⟩, 5⟩ : Handing)]), w11) (⟨E, O_b1, O11, S, G10.wide (by omega) (by omega), by omega, by omega, ok_app3 hall ⟨by dsimp only; omega, by dsimp only; decide, by dsimp only; decide, by dsimp only; omega⟩⟩) (by first | omega | (dsimp only; omega)))
                    exact ⟨rfl, rfl, rfl, trivial⟩
                  · replace c81 := of_decide_eq_false c81
                    refine run_exit rfl ?_
                    refine run_inBlock ?_
                    refine run_seq ?_
                    refine run_region ?_
                    refine ov (v := .agg #[.string r9_0.Code, .string r9_0.Found, .int .i64 r9_0.Day, .int .i64 r9_0.Seal, .slice q m d]) (xloadN Try.isAgg49 Try.sizeOf49 rfl (O_b3.cells) rfl) rfl rfl rfl ?_
                    refine ostoreN (vs := _) Try.sizeOf49 rfl rfl O_b1 rfl (by simp) (by simp [Value.oneCell']) rfl ?_
                    intro w9 on9 O9
                    have hz9 := on9.size
                    have E : Mk b (b + 1) w w9 := by first | exact E.trans (Mk.ofOnly on9 (by omega) (by omega)) | exact E.young (Mk.ofOnly on9 (Nat.le_refl _) (Nat.lt_succ_self _)) (by omega)
                    replace S := S.off (Mk.ofOnly on9 (Nat.le_refl _) (Nat.lt_succ_self _)) (by omega)
                    replace GC := GC.onlyT O_b1 (by decide) on9
                    replace O_b3 := on9.own O_b3 (by omega)
                    replace O9 : Own w9 b1 [.string r9_0.Code, .string r9_0.Found, .int .i64 r9_0.Day, .int .i64 r9_0.Seal, .slice q m d] 49 := O9
                    refine ops_nil ?_
                    refine run_ret Try.func113 (resc1 rfl rfl (run_loadVar_cells Try.isAgg49 Try.sizeOf49 O9.cells rfl)) ?_
                    exact ⟨_, rfl, ⟨r9_0.Code, r9_0.Found, r9_0.Day, r9_0.Seal, zs⟩, _, _, _, rfl, ⟨h9_0.1, h9_0.2.1, h9_0.2.2.1, h9_0.2.2.2.1, hall⟩, by omega, GC.wide (by omega) (by omega), E, S⟩
              ·
                refine ov (xassign rfl) rfl rfl rfl ?_
                refine ops_nil ?_
                refine run_cond_f rfl ?_
                refine run_skip ?_
                refine run_inBlock ?_
                refine run_seq ?_
                refine run_region ?_
                refine ov (v := .agg #[.string (r9_0).Code, .string (r9_0).Found, .int .i64 (r9_0).Day, .int .i64 (r9_0).Seal, .slice r9_1 r9_2 r9_3]) (xloadN Try.isAgg49 Try.sizeOf49 rfl (O4.cells) rfl) rfl rfl rfl ?_
                refine ostoreN (vs := _) Try.sizeOf49 rfl rfl O1 rfl (by simp) (by simp [Value.oneCell']) rfl ?_
                intro w8 on8 O8
                have hz8 := on8.size
                have E : Mk b (b + 1) w w8 := by first | exact E.trans (Mk.ofOnly on8 (by omega) (by omega)) | exact E.young (Mk.ofOnly on8 (Nat.le_refl _) (Nat.lt_succ_self _)) (by omega)
                replace S := S.off (Mk.ofOnly on8 (Nat.le_refl _) (Nat.lt_succ_self _)) (by omega)
                replace h9_2 := h9_2.onlyT O1 (by decide) on8
                replace O4 := on8.own O4 (by omega)
                replace O8 : Own w8 b1 [.string (r9_0).Code, .string (r9_0).Found, .int .i64 (r9_0).Day, .int .i64 (r9_0).Seal, .slice r9_1 r9_2 r9_3] 49 := O8
                refine ops_nil ?_
                refine run_ret Try.func113 (resc1 rfl rfl (run_loadVar_cells Try.isAgg49 Try.sizeOf49 O8.cells rfl)) ?_
                exact ⟨_, rfl, ⟨r9_0.Code, (r9_0).Found, r9_0.Day, r9_0.Seal, r9_0.Chain⟩, _, _, _, rfl, ⟨h9_0.1, h9_0.2.1, h9_0.2.2.1, h9_0.2.2.2.1, hall0⟩, by omega, h9_2.wide (by omega) (by omega), E, S⟩
  ·
    refine ops_nil ?_
    refine run_cond_f rfl ?_
    refine run_skip ?_
    refine run_seq ?_
    refine run_seq ?_
    refine run_region ?_
    have hq0 := h9_0.2.2.2.2
    have hall0 : ∀ h ∈ r9_0.Chain, hanOk h := hq0
    have hl0 := h9_2.len
    refine ov (xmove rfl) rfl rfl rfl ?_
    refine oc (xcall Try.call114 rfl) rfl rfl rfl (l01Next_ok b cb (40) _ S) ?_
    rintro _ w5 ⟨r67_0, rfl, h67_0, h67_1, m5, S5⟩
    have z5 := m5.size
    have E := E.trans m5
    replace h9_2 := h9_2.off m5 (by omega)
    replace O1 := m5.own O1 (by omega)
    replace O4 := m5.own O4 (by omega)
    replace S := S5
    refine ops_nil ?_
    refine run_block ?_
    refine run_seq ?_
    refine run_region ?_
    refine ov (xeql rfl rfl _ rfl) rfl rfl rfl ?_
    refine ods (fun c69 => ?_) (fun c69 => ?_)
    ·
      refine ov (xassign rfl) rfl rfl rfl ?_
      refine ops_nil ?_
      refine run_cond_t rfl ?_
      refine run_region ?_
      refine ov (xmove rfl) rfl rfl rfl ?_
      refine oc (xcall Try.call121 rfl) rfl rfl rfl (l01DrawWord_ok b cb _ S) ?_
      rintro _ w6 ⟨r71_0, rfl, h71_0, m6, S6⟩
      have z6 := m6.size
      have E := E.trans m6
      replace h9_2 := h9_2.off m6 (by omega)
      replace O1 := m6.own O1 (by omega)
      replace O4 := m6.own O4 (by omega)
      replace S := S6
      refine ov (xfieldAddr fo49f1 rfl) rfl rfl rfl ?_
      refine ostore1 Try.sizeOf9 rfl rfl O4 (by simp) rfl rfl ?_
      intro w7 on7 O7
      have hz7 := on7.size
      have E : Mk b (b + 1) w w7 := by first | exact E.trans (Mk.ofOnly on7 (by omega) (by omega)) | exact E.young (Mk.ofOnly on7 (Nat.le_refl _) (Nat.lt_succ_self _)) (by omega)
      replace S := S.off (Mk.ofOnly on7 (Nat.le_refl _) (Nat.lt_succ_self _)) (by omega)
      replace h9_2 := h9_2.onlyT O4 (by decide) on7
      replace O1 := on7.own O1 (by omega)
      replace O7 : Own w7 b3 [.string (r9_0).Code, .string r71_0, .int .i64 (r9_0).Day, .int .i64 (r9_0).Seal, .slice r9_1 r9_2 r9_3] 49 := O7
      refine ops_nil ?_
      refine run_inBlock ?_
      refine run_seq ?_
      refine run_region ?_
      refine ov (v := .agg #[.string (r9_0).Code, .string r71_0, .int .i64 (r9_0).Day, .int .i64 (r9_0).Seal, .slice r9_1 r9_2 r9_3]) (xloadN Try.isAgg49 Try.sizeOf49 rfl (O7.cells) rfl) rfl rfl rfl ?_
      refine ostoreN (vs := _) Try.sizeOf49 rfl rfl O1 rfl (by simp) (by simp [Value.oneCell']) rfl ?_
      intro w8 on8 O8
      have hz8 := on8.size
      have E : Mk b (b + 1) w w8 := by first | exact E.trans (Mk.ofOnly on8 (by omega) (by omega)) | exact E.young (Mk.ofOnly on8 (Nat.le_refl _) (Nat.lt_succ_self _)) (by omega)
      replace S := S.off (Mk.ofOnly on8 (Nat.le_refl _) (Nat.lt_succ_self _)) (by omega)
      replace h9_2 := h9_2.onlyT O1 (by decide) on8
      replace O7 := on8.own O7 (by omega)
      replace O8 : Own w8 b1 [.string (r9_0).Code, .string r71_0, .int .i64 (r9_0).Day, .int .i64 (r9_0).Seal, .slice r9_1 r9_2 r9_3] 49 := O8
      refine ops_nil ?_
      refine run_ret Try.func113 (resc1 rfl rfl (run_loadVar_cells Try.isAgg49 Try.sizeOf49 O8.cells rfl)) ?_
      exact ⟨_, rfl, ⟨r9_0.Code, r71_0, r9_0.Day, r9_0.Seal, r9_0.Chain⟩, _, _, _, rfl, ⟨h9_0.1, h71_0, h9_0.2.2.1, h9_0.2.2.2.1, hall0⟩, by omega, h9_2.wide (by omega) (by omega), E, S⟩
    ·
      refine ov (xassign rfl) rfl rfl rfl ?_
      refine ops_nil ?_
      refine run_cond_f rfl ?_
      refine run_seq ?_
      refine run_region ?_
      refine ov (xeql rfl rfl _ rfl) rfl rfl rfl ?_
      refine ods (fun c74 => ?_) (fun c74 => ?_)
      ·
        refine ov (xassign rfl) rfl rfl rfl ?_
        refine ops_nil ?_
        refine run_cond_t rfl ?_
        refine run_block ?_
        refine run_loop (ι := Option Addr × Nat × Nat × List Handing × World) (fun x_ => match x_ with | (q, m, d, zs, wr) => (Mk b (b + 1) w wr) ∧ (Own wr b1 ([.string ⟨#[]⟩, .string ⟨#[]⟩, .int .i64 0, .int .i64 0, .slice none 0 0]) 49) ∧ (Own wr b3 ([.string r9_0.Code, .string r9_0.Found, .int .i64 r9_0.Day, .int .i64 r9_0.Seal, .slice q m d]) 49) ∧ (Src wr b cb) ∧ (Ow Handing.cells 4 77 wr w.heap.size wr.heap.size q m d zs) ∧ (w5.heap.size ≤ wr.heap.size) ∧ (m ≤ 13) ∧ (∀ h ∈ zs, hanOk h)) (fun x_ => match x_ with | (q, m, d, zs, wr) => [(0, .pointer (some ⟨b, 0, none⟩)), (4, .pointer (some ⟨b1, 0, none⟩)), (5, .pointer (some ⟨b3, 0, none⟩))]) (fun x_ => match x_ with | (q, m, d, zs, wr) => wr) (fun x_ => match x_ with | (q, m, d, zs, wr) => 14 - m) ?_ (r9_1, r9_2, r9_3, r9_0.Chain, w5) (⟨E, O1, O4, S, h9_2.wide (by omega) (by omega), Nat.le_refl _, by omega, hall0⟩) ⟨rfl, rfl, rfl, trivial⟩ rfl
        intro i_ hI_ hback18
        obtain ⟨q, m, d, zs, wr⟩ := i_
        obtain ⟨E, O_b1, O_b3, S, GC, lz_wr, hm13, hall⟩ := hI_
        try dsimp only
        have zr := E.size
        have lt_b1 := O_b1.lt
        have lt_b3 := O_b3.lt
        refine run_seq ?_
        refine run_seq ?_
        refine run_rg (τ := [(0, .pointer (some ⟨b, 0, none⟩)), (4, .pointer (some ⟨b1, 0, none⟩)), (5, .pointer (some ⟨b3, 0, none⟩))]) 7 [75, 76, 77, 78, 79, 80, 81] (fun u_ => Mk b (b + 1) wr u_ ∧ Src u_ b cb) (fun i_ => Mk b (b + 1)) (fun i_ v_ u_ => match i_ with | 0 => v_ = .pointer (some ⟨b3, 0 + 4, none⟩) | 1 => v_ = .slice q m d | 2 => v_ = .int .i64 (m : Int) | 3 => v_ = .pointer (some ⟨b, 0, none⟩) | 4 => ∃ (y0_ : Int), v_ = .int .i64 y0_ ∧ 0 ≤ y0_ ∧ (y0_ < 2 ∨ y0_ = 0) | 5 => ∃ (y0_ : Int), v_ = .int .i64 (12 + y0_) ∧ 0 ≤ y0_ ∧ (y0_ < 2 ∨ y0_ = 0) | 6 => ∃ (y0_ : Int), v_ = .bool (decide ((m : Int) < (12 + y0_))) ∧ 0 ≤ y0_ ∧ (y0_ < 2 ∨ y0_ = 0) | _ => True) [(6, some 81)] (by kernel_rfl) (by kernel_rfl) (by kernel_rfl) (by kernel_rfl) (by kernel_rfl) (by kernel_rfl) ⟨rfl, rfl, rfl, trivial⟩ rfl (fun u_ e_ z_ => ⟨Mk.ofExt e_, S.ext e_⟩) ?_ ?_ ?_
        · intro i_ j_ hi_ hj_ hij_ v_ u_ u2_ I_ I2_ r_ g_
          have zu_ := I_.1.size
          clear hi_
          rcases (by omega : j_ = 0 ∨ j_ = 1 ∨ j_ = 2 ∨ j_ = 3 ∨ j_ = 4 ∨ j_ = 5 ∨ j_ = 6) with rfl | rfl | rfl | rfl | rfl | rfl | rfl
          · exact g_
          · exact g_
          · exact g_
          · exact g_
          · exact g_
          · exact g_
          · exact g_
        ·
          refine rga [] (by kernel_rfl) ?_ ?_
          · intro u_ I_
            have zu_ := I_.1.size
            refine rg_val (xfieldAddr fo49f4 rfl) rfl I_ (Mk.refl _ _ _) rfl
          refine rga [(0, some 75)] (by kernel_rfl) ?_ ?_
          · rintro u_ I_ _ rfl
            have zu_ := I_.1.size
            have OB_ := I_.1.own O_b3 (by omega)
            refine rg_val (xload1 Try.isAgg47 rfl (OB_.cells) rfl) rfl I_ (Mk.refl _ _ _) rfl
          refine rga [(1, some 76)] (by kernel_rfl) ?_ ?_
          · rintro u_ I_ _ rfl
            have zu_ := I_.1.size
            refine rg_val (xlen Try.underlying47 rfl) rfl I_ (Mk.refl _ _ _) rfl
          refine rga [] (by kernel_rfl) ?_ ?_
          · intro u_ I_
            have zu_ := I_.1.size
            refine rg_val (xmove rfl) rfl I_ (Mk.refl _ _ _) rfl
          refine rga [(3, some 78)] (by kernel_rfl) ?_ ?_
          · rintro u_ I_ _ rfl
            have zu_ := I_.1.size
            refine rg_call (xcall Try.call114 rfl) rfl (l01Next_ok b cb (2) _ I_.2) ?_
            rintro _ w_ ⟨r_0, rfl, h_0, h_1, m_, S_⟩
            exact ⟨⟨I_.1.trans m_, S_⟩, m_, ⟨r_0, rfl, h_0, h_1⟩⟩
          refine rga [(4, some 79)] (by kernel_rfl) ?_ ?_
          · rintro u_ I_ _ ⟨g79_0, rfl, f79_0, f79_1⟩
            have zu_ := I_.1.size
            refine rg_val (xadd rfl rfl (by unfold I64; omega)) rfl I_ (Mk.refl _ _ _) ⟨g79_0, rfl, f79_0, f79_1⟩
          refine rga [(2, some 77), (5, some 80)] (by kernel_rfl) ?_ ?_
          · rintro u_ I_ _ rfl _ ⟨g80_0, rfl, f80_0, f80_1⟩
            have zu_ := I_.1.size
            refine rg_val (xlss rfl rfl _ rfl) rfl I_ (Mk.refl _ _ _) ⟨g80_0, rfl, f80_0, f80_1⟩
          exact rga_nil
        ·
          rintro w6 I_ _ ⟨g81_0, rfl, f81_0, f81_1⟩
          have m6 := I_.1
          have z6 := m6.size
          have E := E.trans m6
          replace S := I_.2
          replace GC := GC.off m6 (by omega)
          replace O_b1 := m6.own O_b1 (by omega)
          replace O_b3 := m6.own O_b3 (by omega)
          refine ops_nil ?_
          refine run_cond_s rfl (fun c81 => ?_) (fun c81 => ?_)
          · replace c81 := of_decide_eq_true c81
            refine run_skip ?_
            refine run_block ?_
            refine run_region ?_
            refine ov (xfieldAddr fo49f4 rfl) rfl rfl rfl ?_
            refine ov (v := .slice q m d) (xload1 Try.isAgg47 rfl (O_b3.cells) rfl) rfl rfl rfl ?_
            refine ov (xbuild (vs := [.int .i64 300, .string ⟨#[97, 100, 97]⟩, .string ⟨#[97, 100, 97]⟩, .int .i64 5]) (cells := #[.int .i64 300, .string ⟨#[97, 100, 97]⟩, .string ⟨#[97, 100, 97]⟩, .int .i64 5]) rfl (by kernel_rfl)) rfl rfl rfl ?_
            refine obuild (cs := [.int .i64 300, .string ⟨#[97, 100, 97]⟩, .string ⟨#[97, 100, 97]⟩, .int .i64 5]) (sz := 4) Try.underlying47 inf77 rfl rfl (by decide) rfl rfl (by simp [Value.cells]) rfl rfl rfl ?_
            intro b7 w7 e7 hb7 hz7 O7
            have E := E.trans (Mk.ofExt e7)
            replace S := S.ext e7
            replace GC := GC.ext e7
            replace O_b1 := O_b1.ext e7
            replace O_b3 := O_b3.ext e7
            refine oappT (bytes := 48) (nm := (m + 1)) GC rfl rfl elem77 (Own.sl1 (y := (⟨300, ⟨#[97, 100, 97]⟩, ⟨#[97, 100, 97]⟩, 5⟩ : Handing)) O7) (by intro h; cases h) (by intro y hy; rfl) (by intro y hy u hu; rw [List.mem_singleton] at hy; subst hy; revert u; simp [Value.oneCell', Handing.cells, i64c]) (by omega) (by omega) (by omega) (by omega) rfl rfl ?_
            intro p8 c8_ w8 m8 k8 G8
            have hz8 := m8.size
            have E := E.young m8 (by omega)
            replace S := S.off m8 (by omega)
            replace O_b1 := (by first | exact m8.own O_b1 (by omega) | exact k8.off_own O_b1 (GC.neT O_b1 (by decide)))
            replace O_b3 := (by first | exact m8.own O_b3 (by omega) | exact k8.off_own O_b3 (GC.neT O_b3 (by decide)))
            try replace O7 := m8.own O7 (by omega)
            refine ov (xfieldAddr fo49f4 rfl) rfl rfl rfl ?_
            refine ostore1 Try.sizeOf47 rfl rfl O_b3 (by simp) rfl rfl ?_
            intro w9 on9 O9
            have hz9 := on9.size
            have E : Mk b (b + 1) w w9 := by first | exact E.trans (Mk.ofOnly on9 (by omega) (by omega)) | exact E.young (Mk.ofOnly on9 (Nat.le_refl _) (Nat.lt_succ_self _)) (by omega)
            replace S := S.off (Mk.ofOnly on9 (Nat.le_refl _) (Nat.lt_succ_self _)) (by omega)
            replace G8 := G8.onlyT O_b3 (by decide) on9
            replace O_b1 := on9.own O_b1 (by omega)
            replace O7 := on9.own O7 (by omega)
            replace O9 : Own w9 b3 [.string r9_0.Code, .string r9_0.Found, .int .i64 r9_0.Day, .int .i64 r9_0.Seal, .slice p8 (m + 1) c8_] 49 := O9
            refine ops_nil ?_
            refine run_inBlock ?_
            refine run_sub ?_ (hback18 (p8, (m + 1), c8_, (zs ++ [(⟨300, ⟨#[97, 100, 97]⟩, ⟨#[97, 100, 97]⟩, 5⟩ : Handing)]), w9) (⟨E, O_b1, O9, S, G8.wide (by omega) (by omega), by omega, by omega, ok_app3 hall ⟨by dsimp only; omega, by dsimp only; decide, by dsimp only; decide, by dsimp only; omega⟩⟩) (by first | omega | (dsimp only; omega)))
            exact ⟨rfl, rfl, rfl, trivial⟩
          · replace c81 := of_decide_eq_false c81
            refine run_exit rfl ?_
            refine run_inBlock ?_
            refine run_seq ?_
            refine run_region ?_
            refine ov (v := .agg #[.string r9_0.Code, .string r9_0.Found, .int .i64 r9_0.Day, .int .i64 r9_0.Seal, .slice q m d]) (xloadN Try.isAgg49 Try.sizeOf49 rfl (O_b3.cells) rfl) rfl rfl rfl ?_
            refine ostoreN (vs := _) Try.sizeOf49 rfl rfl O_b1 rfl (by simp) (by simp [Value.oneCell']) rfl ?_
            intro w7 on7 O7
            have hz7 := on7.size
            have E : Mk b (b + 1) w w7 := by first | exact E.trans (Mk.ofOnly on7 (by omega) (by omega)) | exact E.young (Mk.ofOnly on7 (Nat.le_refl _) (Nat.lt_succ_self _)) (by omega)
            replace S := S.off (Mk.ofOnly on7 (Nat.le_refl _) (Nat.lt_succ_self _)) (by omega)
            replace GC := GC.onlyT O_b1 (by decide) on7
            replace O_b3 := on7.own O_b3 (by omega)
            replace O7 : Own w7 b1 [.string r9_0.Code, .string r9_0.Found, .int .i64 r9_0.Day, .int .i64 r9_0.Seal, .slice q m d] 49 := O7
            refine ops_nil ?_
            refine run_ret Try.func113 (resc1 rfl rfl (run_loadVar_cells Try.isAgg49 Try.sizeOf49 O7.cells rfl)) ?_
            exact ⟨_, rfl, ⟨r9_0.Code, r9_0.Found, r9_0.Day, r9_0.Seal, zs⟩, _, _, _, rfl, ⟨h9_0.1, h9_0.2.1, h9_0.2.2.1, h9_0.2.2.2.1, hall⟩, by omega, GC.wide (by omega) (by omega), E, S⟩
      ·
        refine ov (xassign rfl) rfl rfl rfl ?_
        refine ops_nil ?_
        refine run_cond_f rfl ?_
        refine run_skip ?_
        refine run_inBlock ?_
        refine run_seq ?_
        refine run_region ?_
        refine ov (v := .agg #[.string (r9_0).Code, .string (r9_0).Found, .int .i64 (r9_0).Day, .int .i64 (r9_0).Seal, .slice r9_1 r9_2 r9_3]) (xloadN Try.isAgg49 Try.sizeOf49 rfl (O4.cells) rfl) rfl rfl rfl ?_
        refine ostoreN (vs := _) Try.sizeOf49 rfl rfl O1 rfl (by simp) (by simp [Value.oneCell']) rfl ?_
        intro w6 on6 O6
        have hz6 := on6.size
        have E : Mk b (b + 1) w w6 := by first | exact E.trans (Mk.ofOnly on6 (by omega) (by omega)) | exact E.young (Mk.ofOnly on6 (Nat.le_refl _) (Nat.lt_succ_self _)) (by omega)
        replace S := S.off (Mk.ofOnly on6 (Nat.le_refl _) (Nat.lt_succ_self _)) (by omega)
        replace h9_2 := h9_2.onlyT O1 (by decide) on6
        replace O4 := on6.own O4 (by omega)
        replace O6 : Own w6 b1 [.string (r9_0).Code, .string (r9_0).Found, .int .i64 (r9_0).Day, .int .i64 (r9_0).Seal, .slice r9_1 r9_2 r9_3] 49 := O6
        refine ops_nil ?_
        refine run_ret Try.func113 (resc1 rfl rfl (run_loadVar_cells Try.isAgg49 Try.sizeOf49 O6.cells rfl)) ?_
        exact ⟨_, rfl, ⟨r9_0.Code, (r9_0).Found, r9_0.Day, r9_0.Seal, r9_0.Chain⟩, _, _, _, rfl, ⟨h9_0.1, h9_0.2.1, h9_0.2.2.1, h9_0.2.2.2.1, hall0⟩, by omega, h9_2.wide (by omega) (by omega), E, S⟩
end Go.Proofs.Ytnjohcbamblilaa
