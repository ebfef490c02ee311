/-
  Handing an exhibit over. No condition beyond those written in each theorem.
-/
import Derived.Test.YtnjohcbamblilaaExhF
import Derived.Test.YtnjohcbamblilaaHeld
import Derived.Test.YtnjohcbamblilaaRg
namespace Go.Proofs.Ytnjohcbamblilaa
open Go.RowKit
set_option linter.unusedVariables false
set_option linter.unusedSimpArgs false
set_option linter.unusedSectionVars false
set_option maxRecDepth 4000

def putH (x : Exhibit) (r : Handing) : Exhibit := ⟨x.Code, x.Found, x.Day, x.Seal, x.Chain ++ [r]⟩
def zX : Exhibit := ⟨⟨#[]⟩, ⟨#[]⟩, 0, 0, []⟩
def handOver (x : Exhibit) (r : Handing) : Exhibit × Int :=
  if isExhibit x = false ∨ isHanding r = false then (zX, 1) else if x.Chain.length = 12 then (zX, 3) else if brk (putH x r) ≠ (putH x r).Chain.length then (zX, 5) else (putH x r, 0)
theorem handOver_len (x : Exhibit) (r : Handing) : (handOver x r).1.Chain.length ≤ 13 := by
  unfold handOver
  split
  · simp [zX]
  · rename_i h
    split
    · simp [zX]
    · split
      · simp [zX]
      · simp only [not_or, Bool.not_eq_false] at h
        have := isExhibit_len h.1
        simp only [putH, List.length_append, List.length_singleton]; omega

set_option maxHeartbeats 400000 in
theorem cloneHanding_ok (p : Option Addr) (n c : Nat) (xs : List Handing) (w : World) (H : Sl Handing.cells 4 w p n c xs) (hp : p = none → c = 0) (hn2 : n ≤ 1000000000) : Ret Try.prog 118 [.slice p n c] w (fun v w' => Ext w w' ∧ ∃ q c', v = .slice q n c' ∧ Ow Handing.cells 4 77 w' w.heap.size w'.heap.size q n c' xs) := by
  refine ret_of_run (N := 8) Try.func118 rfl rfl rfl ?_
  have hn := H.len
  have E : Ext w w := Ext.refl w
  refine run_seq ?_
  refine run_region ?_
  refine ov (xassign rfl) rfl rfl rfl ?_
  refine ops_nil ?_
  refine run_seq ?_
  refine run_region ?_
  refine ov (xmove rfl) rfl rfl rfl ?_
  refine ov (xlen Try.underlying47 rfl) rfl rfl rfl ?_
  refine omake0 Handing.cells (sz := 4) (n := n) Try.underlying47 inf77 rfl rfl rfl rfl rfl (by simp only [Try.t77]; omega) (by omega) rfl rfl ?_
  intro b1 w1 e1 hb1 hz1 G1
  have E := E.trans e1
  refine ov (xmove rfl) rfl rfl rfl ?_
  refine oapp (bytes := 48) (nm := n) G1 rfl rfl elem77 (H.ext E) hp (by intro y hy; rfl) (by intro y hy u hu; simp only [Handing.cells, List.mem_cons, List.not_mem_nil, or_false] at hu; rcases hu with rfl | rfl | rfl | rfl <;> rfl) (by omega) (by omega) (by omega) (by omega) rfl rfl ?_
  intro p2 c2_ w2 m2 G2
  have hz2 := m2.size
  have E := m2.toExt E (by omega)
  refine ov (xassign rfl) rfl rfl rfl ?_
  refine ops_nil ?_
  refine run_ret Try.func118 (res1 rfl rfl) ?_
  exact ⟨_, rfl, E, _, _, rfl, G2.wide (by omega) (by omega)⟩

set_option maxHeartbeats 1000000 in
theorem HandOver_ok (p : Option Addr) (n c : Nat) (x : Exhibit) (r : Handing) (w : World) (H : Sl Handing.cells 4 w p n c x.Chain) (hx : exSmall x) (hc : r.From.size ≤ 9223372036854775807 ∧ r.To.size ≤ 9223372036854775807) : Ret Try.prog 56 [.agg #[.string x.Code, .string x.Found, .int .i64 x.Day, .int .i64 x.Seal, .slice p n c], .agg #[.int .i64 r.Day, .string r.From, .string r.To, .int .i64 r.Seal]] w (fun v w' => Ext w w' ∧ ∃ q m d, v = .tuple #[.agg #[.string (handOver x r).1.Code, .string (handOver x r).1.Found, .int .i64 (handOver x r).1.Day, .int .i64 (handOver x r).1.Seal, .slice q m d], .int .i64 (handOver x r).2] ∧ Ow Handing.cells 4 77 w' w.heap.size w'.heap.size q m d (handOver x r).1.Chain) := by
  refine ret_of_run (N := 32) Try.func56 rfl rfl rfl ?_
  have hn := H.len
  have hn6 := H.n64
  have E : Ext w w := Ext.refl w
  refine run_seq ?_
  refine run_region ?_
  refine obox rfl rfl rfl ?_
  intro b1 w1 e1 hb1 hz1 O1
  have E := E.trans e1
  replace O1 : Own w1 b1 [.string x.Code, .string x.Found, .int .i64 x.Day, .int .i64 x.Seal, .slice p n c] 49 := O1
  refine obox rfl rfl rfl ?_
  intro b2 w2 e2 hb2 hz2 O2
  have E := E.trans e2
  replace O1 := O1.ext e2
  replace O2 : Own w2 b2 [.int .i64 r.Day, .string r.From, .string r.To, .int .i64 r.Seal] 77 := O2
  refine oalloc Try.zeroValue49 rfl rfl ?_
  intro b3 w3 e3 hb3 hz3 O3
  have E := E.trans e3
  replace O1 := O1.ext e3
  replace O2 := O2.ext e3
  replace O3 : Own w3 b3 [.string ⟨#[]⟩, .string ⟨#[]⟩, .int .i64 0, .int .i64 0, .slice none 0 0] 49 := O3
  refine ov (xassign rfl) rfl rfl rfl ?_
  refine ops_nil ?_
  refine run_seq ?_
  refine run_seq ?_
  refine run_region ?_
  refine ov (v := .agg #[.string x.Code, .string x.Found, .int .i64 x.Day, .int .i64 x.Seal, .slice p n c]) (xloadN Try.isAgg49 Try.sizeOf49 rfl (O1.cells) rfl) rfl rfl rfl ?_
  refine oc (xcall Try.call66 rfl) rfl rfl rfl (IsExhibit_ok _ _ _ _ _ (H.ext E) (by assumption)) ?_
  rintro _ w4 ⟨rfl, e4⟩
  have z4 := e4.size
  have E := E.trans e4
  replace O1 := O1.ext e4
  replace O2 := O2.ext e4
  replace O3 := O3.ext e4
  refine obs (fun c7 => ?_) (fun c7 => ?_)
  ·
    have hl := isExhibit_len c7
    refine ov (xnot rfl) rfl rfl rfl ?_
    refine ov (xmove rfl) rfl rfl rfl ?_
    refine ov (v := .agg #[.int .i64 r.Day, .string r.From, .string r.To, .int .i64 r.Seal]) (xloadN Try.isAgg77 Try.sizeOf77 rfl (O2.cells) rfl) rfl rfl rfl ?_
    refine oc (xcall Try.call117 rfl) rfl rfl rfl (isHanding_ok _ _ (by assumption)) ?_
    rintro _ w5 ⟨rfl, e5⟩
    have z5 := e5.size
    have E := E.trans e5
    replace O1 := O1.ext e5
    replace O2 := O2.ext e5
    replace O3 := O3.ext e5
    refine obs (fun c11 => ?_) (fun c11 => ?_)
    ·
      refine ov (xnot rfl) rfl rfl rfl ?_
      refine ov (xpick_f rfl rfl) rfl rfl rfl ?_
      refine ops_nil ?_
      refine run_cond_f rfl ?_
      refine run_skip ?_
      refine run_seq ?_
      refine run_seq ?_
      refine run_region ?_
      refine ov (xfieldAddr fo49f4 rfl) rfl rfl rfl ?_
      refine ov (v := .slice p n c) (xload1 Try.isAgg47 rfl (O1.cells) rfl) rfl rfl rfl ?_
      refine ov (xlen Try.underlying47 rfl) rfl rfl rfl ?_
      refine ov (xeql rfl rfl _ rfl) rfl rfl rfl ?_
      refine ods (fun c18 => ?_) (fun c18 => ?_)
      ·
        refine ops_nil ?_
        refine run_cond_t rfl ?_
        refine run_seq ?_
        refine run_region ?_
        refine ov (xbuild (vs := []) (cells := #[.string ⟨#[]⟩, .string ⟨#[]⟩, .int .i64 0, .int .i64 0, .slice none 0 0]) rfl (by kernel_rfl)) rfl rfl rfl ?_
        refine ostoreN (vs := _) Try.sizeOf49 rfl rfl O3 rfl (by simp) (by simp [Value.oneCell']) rfl ?_
        intro w6 on6 O6
        have hz6 := on6.size
        have E := on6.ext E (by omega)
        replace O1 := on6.own O1 (by omega)
        replace O2 := on6.own O2 (by omega)
        replace O6 : Own w6 b3 [.string ⟨#[]⟩, .string ⟨#[]⟩, .int .i64 0, .int .i64 0, .slice none 0 0] 49 := O6
        refine ov (xassign rfl) rfl rfl rfl ?_
        refine ops_nil ?_
        refine run_ret Try.func56 (resc2 rfl rfl (run_loadVar_cells Try.isAgg49 Try.sizeOf49 O6.cells rfl) rfl) ?_
        have he : handOver x r = (zX, 3) := by rw [handOver, if_neg (by simp [c7, c11]), if_pos (by omega)]
        exact ⟨_, rfl, E, none, 0, 0, by rw [he]; try rfl, by rw [he]; exact Ow.none _ _ _ _ _ _⟩
      ·
        refine ops_nil ?_
        refine run_cond_f rfl ?_
        refine run_skip ?_
        refine run_seq ?_
        have RE := E
        have RO1 := O1
        have RO2 := O2
        have RO3 := O3
        refine run_heldE E (ι := Option Addr × Nat) (fun x_ w' => match x_ with | (q, d) => Ext w w' ∧ Ow Handing.cells 4 77 w' w5.heap.size w'.heap.size q (n + 1) d (x.Chain ++ [r]) ∧ Own w' b1 [.string x.Code, .string x.Found, .int .i64 x.Day, .int .i64 x.Seal, .slice q (n + 1) d] 49 ∧ Own w' b3 [.string ⟨#[]⟩, .string ⟨#[]⟩, .int .i64 0, .int .i64 0, .slice none 0 0] 49) (fun x_ => match x_ with | (q, d) => [(2, .pointer (some ⟨b1, 0, none⟩)), (4, .pointer (some ⟨b3, 0, none⟩)), (5, .int .i64 0)]) (by kernel_rfl) ?_ ?_
        · intro w0_ F
          have z0_ := F.size
          have E := E.trans F
          replace O1 := O1.ext F
          replace O2 := O2.ext F
          replace O3 := O3.ext F
          replace F := E
          refine h_take 0 rfl (by kernel_rfl) (by kernel_rfl) (by kernel_rfl) (fun w' x_ => xfieldAddr fo49f4 rfl) rfl rfl rfl F ?_
          refine h_ready (rs := [1, 3]) (by kernel_rfl) (by decide) ⟨?_, ?_, trivial⟩
          ·
            refine hs_val (v := .slice p n c) rfl (xload1 Try.isAgg47 rfl (O1.cells) rfl) rfl rfl rfl F ?_
            refine h_ready (rs := [2, 3]) (by kernel_rfl) (by decide) ⟨?_, ?_, trivial⟩
            ·
              refine hs_call rfl (xcall Try.call118 rfl) rfl rfl rfl (cloneHanding_ok _ _ _ _ _ (H.ext E) (H.ext E).nil (by omega)) ?_
              rintro _ w6 ⟨e6, q22, c22_, rfl, G22⟩
              have z6 := e6.size
              have E := E.trans e6
              replace O1 := O1.ext e6
              replace O2 := O2.ext e6
              replace O3 := O3.ext e6
              have F := F.trans e6
              refine ⟨F, ?_⟩
              refine h_ready (rs := [3]) (by kernel_rfl) (by decide) ⟨?_, trivial⟩
              ·
                refine hs_val (v := .agg #[.int .i64 r.Day, .string r.From, .string r.To, .int .i64 r.Seal]) rfl (xloadN Try.isAgg77 Try.sizeOf77 rfl (O2.cells) rfl) rfl rfl rfl F ?_
                refine h_ready (rs := [4]) (by kernel_rfl) (by decide) ⟨?_, trivial⟩
                ·
                  refine hs_build (len := 1) (vs := [.agg #[.int .i64 r.Day, .string r.From, .string r.To, .int .i64 r.Seal]]) (cs := [.int .i64 r.Day, .string r.From, .string r.To, .int .i64 r.Seal]) (sz := 4) Try.underlying47 inf77 rfl rfl (by decide) (by rfl) (by rfl) (by simp [Value.cells]) rfl F rfl rfl rfl ?_
                  intro b7 w7 e7 hb7 hz7 O7
                  have E := E.trans e7
                  replace G22 := G22.ext e7
                  replace O1 := O1.ext e7
                  replace O2 := O2.ext e7
                  replace O3 := O3.ext e7
                  have F := F.trans e7
                  refine h_ready (rs := [5]) (by kernel_rfl) (by decide) ⟨?_, trivial⟩
                  ·
                    refine hs_app (bytes := 48) (nm := (n + 1)) G22 (by rfl) (by rfl) elem77 (Own.sl1 (y := r) O7) (by intro h; cases h) (by intro y hy; rfl) (by intro y hy u hu; rw [List.mem_singleton] at hy; subst hy; revert u; simp [Value.oneCell', Handing.cells]) (by omega) (by omega) (by omega) (by omega) F (by omega) rfl rfl rfl ?_
                    intro p8 c8_ w8 m8 G8
                    have hz8 := m8.size
                    have E := m8.toExt E (by omega)
                    have F := m8.toExt F (by omega)
                    try replace O1 := m8.own O1 (by omega)
                    try replace O2 := m8.own O2 (by omega)
                    try replace O3 := m8.own O3 (by omega)
                    try replace O7 := m8.own O7 (by omega)
                    refine h_take 6 rfl (by kernel_rfl) (by kernel_rfl) (by kernel_rfl) (fun w' x_ => xfieldAddr fo49f4 rfl) rfl rfl rfl F ?_
                    refine h_ready (rs := [7]) (by kernel_rfl) (by decide) ⟨?_, trivial⟩
                    ·
                      refine hs_store1 Try.sizeOf47 rfl rfl O1 (by simp) rfl F (by omega) rfl rfl ?_
                      intro w9 on9 O9
                      have hz9 := on9.size
                      have E := on9.ext E (by omega)
                      replace G8 := G8.only on9 (by omega)
                      replace O2 := on9.own O2 (by omega)
                      replace O3 := on9.own O3 (by omega)
                      replace O7 := on9.own O7 (by omega)
                      have F := on9.ext F (by omega)
                      replace O9 : Own w9 b1 [.string x.Code, .string x.Found, .int .i64 x.Day, .int .i64 x.Seal, .slice p8 (n + 1) c8_] 49 := O9
                      refine h_done (by kernel_rfl) ?_
                      intro a_ ha_
                      exact ⟨(p8, c8_), ⟨F, ⟨G8.wide (by omega) (by omega), O9, O3⟩⟩, ha_.sub ⟨rfl, rfl, rfl, trivial⟩⟩
            ·
              refine hs_val (v := .agg #[.int .i64 r.Day, .string r.From, .string r.To, .int .i64 r.Seal]) rfl (xloadN Try.isAgg77 Try.sizeOf77 rfl (O2.cells) rfl) rfl rfl rfl F ?_
              refine h_ready (rs := [2, 4]) (by kernel_rfl) (by decide) ⟨?_, ?_, trivial⟩
              ·
                refine hs_call rfl (xcall Try.call118 rfl) rfl rfl rfl (cloneHanding_ok _ _ _ _ _ (H.ext E) (H.ext E).nil (by omega)) ?_
                rintro _ w6 ⟨e6, q22, c22_, rfl, G22⟩
                have z6 := e6.size
                have E := E.trans e6
                replace O1 := O1.ext e6
                replace O2 := O2.ext e6
                replace O3 := O3.ext e6
                have F := F.trans e6
                refine ⟨F, ?_⟩
                refine h_ready (rs := [4]) (by kernel_rfl) (by decide) ⟨?_, trivial⟩
                ·
                  refine hs_build (len := 1) (vs := [.agg #[.int .i64 r.Day, .string r.From, .string r.To, .int .i64 r.Seal]]) (cs := [.int .i64 r.Day, .string r.From, .string r.To, .int .i64 r.Seal]) (sz := 4) Try.underlying47 inf77 rfl rfl (by decide) (by rfl) (by rfl) (by simp [Value.cells]) rfl F rfl rfl rfl ?_
                  intro b7 w7 e7 hb7 hz7 O7
                  have E := E.trans e7
                  replace G22 := G22.ext e7
                  replace O1 := O1.ext e7
                  replace O2 := O2.ext e7
                  replace O3 := O3.ext e7
                  have F := F.trans e7
                  refine h_ready (rs := [5]) (by kernel_rfl) (by decide) ⟨?_, trivial⟩
                  ·
                    refine hs_app (bytes := 48) (nm := (n + 1)) G22 (by rfl) (by rfl) elem77 (Own.sl1 (y := r) O7) (by intro h; cases h) (by intro y hy; rfl) (by intro y hy u hu; rw [List.mem_singleton] at hy; subst hy; revert u; simp [Value.oneCell', Handing.cells]) (by omega) (by omega) (by omega) (by omega) F (by omega) rfl rfl rfl ?_
                    intro p8 c8_ w8 m8 G8
                    have hz8 := m8.size
                    have E := m8.toExt E (by omega)
                    have F := m8.toExt F (by omega)
                    try replace O1 := m8.own O1 (by omega)
                    try replace O2 := m8.own O2 (by omega)
                    try replace O3 := m8.own O3 (by omega)
                    try replace O7 := m8.own O7 (by omega)
                    refine h_take 6 rfl (by kernel_rfl) (by kernel_rfl) (by kernel_rfl) (fun w' x_ => xfieldAddr fo49f4 rfl) rfl rfl rfl F ?_
                    refine h_ready (rs := [7]) (by kernel_rfl) (by decide) ⟨?_, trivial⟩
                    ·
                      refine hs_store1 Try.sizeOf47 rfl rfl O1 (by simp) rfl F (by omega) rfl rfl ?_
                      intro w9 on9 O9
                      have hz9 := on9.size
                      have E := on9.ext E (by omega)
                      replace G8 := G8.only on9 (by omega)
                      replace O2 := on9.own O2 (by omega)
                      replace O3 := on9.own O3 (by omega)
                      replace O7 := on9.own O7 (by omega)
                      have F := on9.ext F (by omega)
                      replace O9 : Own w9 b1 [.string x.Code, .string x.Found, .int .i64 x.Day, .int .i64 x.Seal, .slice p8 (n + 1) c8_] 49 := O9
                      refine h_done (by kernel_rfl) ?_
                      intro a_ ha_
                      exact ⟨(p8, c8_), ⟨F, ⟨G8.wide (by omega) (by omega), O9, O3⟩⟩, ha_.sub ⟨rfl, rfl, rfl, trivial⟩⟩
              ·
                refine hs_build (len := 1) (vs := [.agg #[.int .i64 r.Day, .string r.From, .string r.To, .int .i64 r.Seal]]) (cs := [.int .i64 r.Day, .string r.From, .string r.To, .int .i64 r.Seal]) (sz := 4) Try.underlying47 inf77 rfl rfl (by decide) (by rfl) (by rfl) (by simp [Value.cells]) rfl F rfl rfl rfl ?_
                intro b6 w6 e6 hb6 hz6 O6
                have E := E.trans e6
                replace O1 := O1.ext e6
                replace O2 := O2.ext e6
                replace O3 := O3.ext e6
                have F := F.trans e6
                refine h_ready (rs := [2]) (by kernel_rfl) (by decide) ⟨?_, trivial⟩
                ·
                  refine hs_call rfl (xcall Try.call118 rfl) rfl rfl rfl (cloneHanding_ok _ _ _ _ _ (H.ext E) (H.ext E).nil (by omega)) ?_
                  rintro _ w7 ⟨e7, q22, c22_, rfl, G22⟩
                  have z7 := e7.size
                  have E := E.trans e7
                  replace O1 := O1.ext e7
                  replace O2 := O2.ext e7
                  replace O3 := O3.ext e7
                  replace O6 := O6.ext e7
                  have F := F.trans e7
                  refine ⟨F, ?_⟩
                  refine h_ready (rs := [5]) (by kernel_rfl) (by decide) ⟨?_, trivial⟩
                  ·
                    refine hs_app (bytes := 48) (nm := (n + 1)) G22 (by rfl) (by rfl) elem77 (Own.sl1 (y := r) O6) (by intro h; cases h) (by intro y hy; rfl) (by intro y hy u hu; rw [List.mem_singleton] at hy; subst hy; revert u; simp [Value.oneCell', Handing.cells]) (by omega) (by omega) (by omega) (by omega) F (by omega) rfl rfl rfl ?_
                    intro p8 c8_ w8 m8 G8
                    have hz8 := m8.size
                    have E := m8.toExt E (by omega)
                    have F := m8.toExt F (by omega)
                    try replace O1 := m8.own O1 (by omega)
                    try replace O2 := m8.own O2 (by omega)
                    try replace O3 := m8.own O3 (by omega)
                    try replace O6 := m8.own O6 (by omega)
                    refine h_take 6 rfl (by kernel_rfl) (by kernel_rfl) (by kernel_rfl) (fun w' x_ => xfieldAddr fo49f4 rfl) rfl rfl rfl F ?_
                    refine h_ready (rs := [7]) (by kernel_rfl) (by decide) ⟨?_, trivial⟩
                    ·
                      refine hs_store1 Try.sizeOf47 rfl rfl O1 (by simp) rfl F (by omega) rfl rfl ?_
                      intro w9 on9 O9
                      have hz9 := on9.size
                      have E := on9.ext E (by omega)
                      replace G8 := G8.only on9 (by omega)
                      replace O2 := on9.own O2 (by omega)
                      replace O3 := on9.own O3 (by omega)
                      replace O6 := on9.own O6 (by omega)
                      have F := on9.ext F (by omega)
                      replace O9 : Own w9 b1 [.string x.Code, .string x.Found, .int .i64 x.Day, .int .i64 x.Seal, .slice p8 (n + 1) c8_] 49 := O9
                      refine h_done (by kernel_rfl) ?_
                      intro a_ ha_
                      exact ⟨(p8, c8_), ⟨F, ⟨G8.wide (by omega) (by omega), O9, O3⟩⟩, ha_.sub ⟨rfl, rfl, rfl, trivial⟩⟩
          ·
            refine hs_val (v := .agg #[.int .i64 r.Day, .string r.From, .string r.To, .int .i64 r.Seal]) rfl (xloadN Try.isAgg77 Try.sizeOf77 rfl (O2.cells) rfl) rfl rfl rfl F ?_
            refine h_ready (rs := [1, 4]) (by kernel_rfl) (by decide) ⟨?_, ?_, trivial⟩
            ·
              refine hs_val (v := .slice p n c) rfl (xload1 Try.isAgg47 rfl (O1.cells) rfl) rfl rfl rfl F ?_
              refine h_ready (rs := [2, 4]) (by kernel_rfl) (by decide) ⟨?_, ?_, trivial⟩
              ·
                refine hs_call rfl (xcall Try.call118 rfl) rfl rfl rfl (cloneHanding_ok _ _ _ _ _ (H.ext E) (H.ext E).nil (by omega)) ?_
                rintro _ w6 ⟨e6, q22, c22_, rfl, G22⟩
                have z6 := e6.size
                have E := E.trans e6
                replace O1 := O1.ext e6
                replace O2 := O2.ext e6
                replace O3 := O3.ext e6
                have F := F.trans e6
                refine ⟨F, ?_⟩
                refine h_ready (rs := [4]) (by kernel_rfl) (by decide) ⟨?_, trivial⟩
                ·
                  refine hs_build (len := 1) (vs := [.agg #[.int .i64 r.Day, .string r.From, .string r.To, .int .i64 r.Seal]]) (cs := [.int .i64 r.Day, .string r.From, .string r.To, .int .i64 r.Seal]) (sz := 4) Try.underlying47 inf77 rfl rfl (by decide) (by rfl) (by rfl) (by simp [Value.cells]) rfl F rfl rfl rfl ?_
                  intro b7 w7 e7 hb7 hz7 O7
                  have E := E.trans e7
                  replace G22 := G22.ext e7
                  replace O1 := O1.ext e7
                  replace O2 := O2.ext e7
                  replace O3 := O3.ext e7
                  have F := F.trans e7
                  refine h_ready (rs := [5]) (by kernel_rfl) (by decide) ⟨?_, trivial⟩
                  ·
                    refine hs_app (bytes := 48) (nm := (n + 1)) G22 (by rfl) (by rfl) elem77 (Own.sl1 (y := r) O7) (by intro h; cases h) (by intro y hy; rfl) (by intro y hy u hu; rw [List.mem_singleton] at hy; subst hy; revert u; simp [Value.oneCell', Handing.cells]) (by omega) (by omega) (by omega) (by omega) F (by omega) rfl rfl rfl ?_
                    intro p8 c8_ w8 m8 G8
                    have hz8 := m8.size
                    have E := m8.toExt E (by omega)
                    have F := m8.toExt F (by omega)
                    try replace O1 := m8.own O1 (by omega)
                    try replace O2 := m8.own O2 (by omega)
                    try replace O3 := m8.own O3 (by omega)
                    try replace O7 := m8.own O7 (by omega)
                    refine h_take 6 rfl (by kernel_rfl) (by kernel_rfl) (by kernel_rfl) (fun w' x_ => xfieldAddr fo49f4 rfl) rfl rfl rfl F ?_
                    refine h_ready (rs := [7]) (by kernel_rfl) (by decide) ⟨?_, trivial⟩
                    ·
                      refine hs_store1 Try.sizeOf47 rfl rfl O1 (by simp) rfl F (by omega) rfl rfl ?_
                      intro w9 on9 O9
                      have hz9 := on9.size
                      have E := on9.ext E (by omega)
                      replace G8 := G8.only on9 (by omega)
                      replace O2 := on9.own O2 (by omega)
                      replace O3 := on9.own O3 (by omega)
                      replace O7 := on9.own O7 (by omega)
                      have F := on9.ext F (by omega)
                      replace O9 : Own w9 b1 [.string x.Code, .string x.Found, .int .i64 x.Day, .int .i64 x.Seal, .slice p8 (n + 1) c8_] 49 := O9
                      refine h_done (by kernel_rfl) ?_
                      intro a_ ha_
                      exact ⟨(p8, c8_), ⟨F, ⟨G8.wide (by omega) (by omega), O9, O3⟩⟩, ha_.sub ⟨rfl, rfl, rfl, trivial⟩⟩
              ·
                refine hs_build (len := 1) (vs := [.agg #[.int .i64 r.Day, .string r.From, .string r.To, .int .i64 r.Seal]]) (cs := [.int .i64 r.Day, .string r.From, .string r.To, .int .i64 r.Seal]) (sz := 4) Try.underlying47 inf77 rfl rfl (by decide) (by rfl) (by rfl) (by simp [Value.cells]) rfl F rfl rfl rfl ?_
                intro b6 w6 e6 hb6 hz6 O6
                have E := E.trans e6
                replace O1 := O1.ext e6
                replace O2 := O2.ext e6
                replace O3 := O3.ext e6
                have F := F.trans e6
                refine h_ready (rs := [2]) (by kernel_rfl) (by decide) ⟨?_, trivial⟩
                ·
                  refine hs_call rfl (xcall Try.call118 rfl) rfl rfl rfl (cloneHanding_ok _ _ _ _ _ (H.ext E) (H.ext E).nil (by omega)) ?_
                  rintro _ w7 ⟨e7, q22, c22_, rfl, G22⟩
                  have z7 := e7.size
                  have E := E.trans e7
                  replace O1 := O1.ext e7
                  replace O2 := O2.ext e7
                  replace O3 := O3.ext e7
                  replace O6 := O6.ext e7
                  have F := F.trans e7
                  refine ⟨F, ?_⟩
                  refine h_ready (rs := [5]) (by kernel_rfl) (by decide) ⟨?_, trivial⟩
                  ·
                    refine hs_app (bytes := 48) (nm := (n + 1)) G22 (by rfl) (by rfl) elem77 (Own.sl1 (y := r) O6) (by intro h; cases h) (by intro y hy; rfl) (by intro y hy u hu; rw [List.mem_singleton] at hy; subst hy; revert u; simp [Value.oneCell', Handing.cells]) (by omega) (by omega) (by omega) (by omega) F (by omega) rfl rfl rfl ?_
                    intro p8 c8_ w8 m8 G8
                    have hz8 := m8.size
                    have E := m8.toExt E (by omega)
                    have F := m8.toExt F (by omega)
                    try replace O1 := m8.own O1 (by omega)
                    try replace O2 := m8.own O2 (by omega)
                    try replace O3 := m8.own O3 (by omega)
                    try replace O6 := m8.own O6 (by omega)
                    refine h_take 6 rfl (by kernel_rfl) (by kernel_rfl) (by kernel_rfl) (fun w' x_ => xfieldAddr fo49f4 rfl) rfl rfl rfl F ?_
                    refine h_ready (rs := [7]) (by kernel_rfl) (by decide) ⟨?_, trivial⟩
                    ·
                      refine hs_store1 Try.sizeOf47 rfl rfl O1 (by simp) rfl F (by omega) rfl rfl ?_
                      intro w9 on9 O9
                      have hz9 := on9.size
                      have E := on9.ext E (by omega)
                      replace G8 := G8.only on9 (by omega)
                      replace O2 := on9.own O2 (by omega)
                      replace O3 := on9.own O3 (by omega)
                      replace O6 := on9.own O6 (by omega)
                      have F := on9.ext F (by omega)
                      replace O9 : Own w9 b1 [.string x.Code, .string x.Found, .int .i64 x.Day, .int .i64 x.Seal, .slice p8 (n + 1) c8_] 49 := O9
                      refine h_done (by kernel_rfl) ?_
                      intro a_ ha_
                      exact ⟨(p8, c8_), ⟨F, ⟨G8.wide (by omega) (by omega), O9, O3⟩⟩, ha_.sub ⟨rfl, rfl, rfl, trivial⟩⟩
            ·
              refine hs_build (len := 1) (vs := [.agg #[.int .i64 r.Day, .string r.From, .string r.To, .int .i64 r.Seal]]) (cs := [.int .i64 r.Day, .string r.From, .string r.To, .int .i64 r.Seal]) (sz := 4) Try.underlying47 inf77 rfl rfl (by decide) (by rfl) (by rfl) (by simp [Value.cells]) rfl F rfl rfl rfl ?_
              intro b6 w6 e6 hb6 hz6 O6
              have E := E.trans e6
              replace O1 := O1.ext e6
              replace O2 := O2.ext e6
              replace O3 := O3.ext e6
              have F := F.trans e6
              refine h_ready (rs := [1]) (by kernel_rfl) (by decide) ⟨?_, trivial⟩
              ·
                refine hs_val (v := .slice p n c) rfl (xload1 Try.isAgg47 rfl (O1.cells) rfl) rfl rfl rfl F ?_
                refine h_ready (rs := [2]) (by kernel_rfl) (by decide) ⟨?_, trivial⟩
                ·
                  refine hs_call rfl (xcall Try.call118 rfl) rfl rfl rfl (cloneHanding_ok _ _ _ _ _ (H.ext E) (H.ext E).nil (by omega)) ?_
                  rintro _ w7 ⟨e7, q22, c22_, rfl, G22⟩
                  have z7 := e7.size
                  have E := E.trans e7
                  replace O1 := O1.ext e7
                  replace O2 := O2.ext e7
                  replace O3 := O3.ext e7
                  replace O6 := O6.ext e7
                  have F := F.trans e7
                  refine ⟨F, ?_⟩
                  refine h_ready (rs := [5]) (by kernel_rfl) (by decide) ⟨?_, trivial⟩
                  ·
                    refine hs_app (bytes := 48) (nm := (n + 1)) G22 (by rfl) (by rfl) elem77 (Own.sl1 (y := r) O6) (by intro h; cases h) (by intro y hy; rfl) (by intro y hy u hu; rw [List.mem_singleton] at hy; subst hy; revert u; simp [Value.oneCell', Handing.cells]) (by omega) (by omega) (by omega) (by omega) F (by omega) rfl rfl rfl ?_
                    intro p8 c8_ w8 m8 G8
                    have hz8 := m8.size
                    have E := m8.toExt E (by omega)
                    have F := m8.toExt F (by omega)
                    try replace O1 := m8.own O1 (by omega)
                    try replace O2 := m8.own O2 (by omega)
                    try replace O3 := m8.own O3 (by omega)
                    try replace O6 := m8.own O6 (by omega)
                    refine h_take 6 rfl (by kernel_rfl) (by kernel_rfl) (by kernel_rfl) (fun w' x_ => xfieldAddr fo49f4 rfl) rfl rfl rfl F ?_
                    refine h_ready (rs := [7]) (by kernel_rfl) (by decide) ⟨?_, trivial⟩
                    ·
                      refine hs_store1 Try.sizeOf47 rfl rfl O1 (by simp) rfl F (by omega) rfl rfl ?_
                      intro w9 on9 O9
                      have hz9 := on9.size
                      have E := on9.ext E (by omega)
                      replace G8 := G8.only on9 (by omega)
                      replace O2 := on9.own O2 (by omega)
                      replace O3 := on9.own O3 (by omega)
                      replace O6 := on9.own O6 (by omega)
                      have F := on9.ext F (by omega)
                      replace O9 : Own w9 b1 [.string x.Code, .string x.Found, .int .i64 x.Day, .int .i64 x.Seal, .slice p8 (n + 1) c8_] 49 := O9
                      refine h_done (by kernel_rfl) ?_
                      intro a_ ha_
                      exact ⟨(p8, c8_), ⟨F, ⟨G8.wide (by omega) (by omega), O9, O3⟩⟩, ha_.sub ⟨rfl, rfl, rfl, trivial⟩⟩
        · intro x_
          obtain ⟨q, d⟩ := x_
          rintro w6 ⟨e6, G5, OX1, OX3⟩
          have z6 := e6.size
          replace E := e6
          refine run_seq ?_
          refine run_seq ?_
          refine run_region ?_
          refine ov (v := .agg #[.string x.Code, .string x.Found, .int .i64 x.Day, .int .i64 x.Seal, .slice q (n + 1) d]) (xloadN Try.isAgg49 Try.sizeOf49 rfl (OX1.cells) rfl) rfl rfl rfl ?_
          refine oc (xcall Try.call109 rfl) rfl rfl rfl (unbroken_ok _ _ _ (putH x r) _ (G5.sl)) ?_
          rintro _ w7 ⟨rfl, e7⟩
          have z7 := e7.size
          have E := E.trans e7
          replace G5 := G5.ext e7
          replace OX1 := OX1.ext e7
          replace OX3 := OX3.ext e7
          refine obs (fun c28 => ?_) (fun c28 => ?_)
          ·
            refine ov (xnot rfl) rfl rfl rfl ?_
            refine ops_nil ?_
            refine run_cond_f rfl ?_
            refine run_skip ?_
            refine run_seq ?_
            refine run_region ?_
            refine ov (v := .agg #[.string x.Code, .string x.Found, .int .i64 x.Day, .int .i64 x.Seal, .slice q (n + 1) d]) (xloadN Try.isAgg49 Try.sizeOf49 rfl (OX1.cells) rfl) rfl rfl rfl ?_
            refine ostoreN (vs := _) Try.sizeOf49 rfl rfl OX3 rfl (by simp) (by simp [Value.oneCell']) rfl ?_
            intro w8 on8 O8
            have hz8 := on8.size
            have E := on8.ext E (by omega)
            replace G5 := G5.only on8 (by omega)
            replace OX1 := on8.own OX1 (by omega)
            replace O8 : Own w8 b3 [.string x.Code, .string x.Found, .int .i64 x.Day, .int .i64 x.Seal, .slice q (n + 1) d] 49 := O8
            refine ov (xassign rfl) rfl rfl rfl ?_
            refine ops_nil ?_
            refine run_ret Try.func56 (resc2 rfl rfl (run_loadVar_cells Try.isAgg49 Try.sizeOf49 O8.cells rfl) rfl) ?_
            have he : handOver x r = (putH x r, 0) := by rw [handOver, if_neg (by simp [c7, c11]), if_neg (by omega), if_neg (by simpa using c28)]
            exact ⟨_, rfl, E, q, n + 1, d, by rw [he]; try rfl, by rw [he]; exact G5.wide (by omega) (by omega)⟩
          ·
            refine ov (xnot rfl) rfl rfl rfl ?_
            refine ops_nil ?_
            refine run_cond_t rfl ?_
            refine run_seq ?_
            refine run_region ?_
            refine ov (xbuild (vs := []) (cells := #[.string ⟨#[]⟩, .string ⟨#[]⟩, .int .i64 0, .int .i64 0, .slice none 0 0]) rfl (by kernel_rfl)) rfl rfl rfl ?_
            refine ostoreN (vs := _) Try.sizeOf49 rfl rfl OX3 rfl (by simp) (by simp [Value.oneCell']) rfl ?_
            intro w8 on8 O8
            have hz8 := on8.size
            have E := on8.ext E (by omega)
            replace G5 := G5.only on8 (by omega)
            replace OX1 := on8.own OX1 (by omega)
            replace O8 : Own w8 b3 [.string ⟨#[]⟩, .string ⟨#[]⟩, .int .i64 0, .int .i64 0, .slice none 0 0] 49 := O8
            refine ov (xassign rfl) rfl rfl rfl ?_
            refine ops_nil ?_
            refine run_ret Try.func56 (resc2 rfl rfl (run_loadVar_cells Try.isAgg49 Try.sizeOf49 O8.cells rfl) rfl) ?_
            have he : handOver x r = (zX, 5) := by rw [handOver, if_neg (by simp [c7, c11]), if_neg (by omega), if_pos (by simpa using c28)]
            exact ⟨_, rfl, E, none, 0, 0, by rw [he]; try rfl, by rw [he]; exact Ow.none _ _ _ _ _ _⟩
    ·
      refine ov (xnot rfl) rfl rfl rfl ?_
      refine ov (xpick_f rfl rfl) rfl rfl rfl ?_
      refine ops_nil ?_
      refine run_cond_t rfl ?_
      refine run_seq ?_
      refine run_region ?_
      refine ov (xbuild (vs := []) (cells := #[.string ⟨#[]⟩, .string ⟨#[]⟩, .int .i64 0, .int .i64 0, .slice none 0 0]) rfl (by kernel_rfl)) rfl rfl rfl ?_
      refine ostoreN (vs := _) Try.sizeOf49 rfl rfl O3 rfl (by simp) (by simp [Value.oneCell']) rfl ?_
      intro w6 on6 O6
      have hz6 := on6.size
      have E := on6.ext E (by omega)
      replace O1 := on6.own O1 (by omega)
      replace O2 := on6.own O2 (by omega)
      replace O6 : Own w6 b3 [.string ⟨#[]⟩, .string ⟨#[]⟩, .int .i64 0, .int .i64 0, .slice none 0 0] 49 := O6
      refine ov (xassign rfl) rfl rfl rfl ?_
      refine ops_nil ?_
      refine run_ret Try.func56 (resc2 rfl rfl (run_loadVar_cells Try.isAgg49 Try.sizeOf49 O6.cells rfl) rfl) ?_
      have he : handOver x r = (zX, 1) := by rw [handOver, if_pos (by simp [c11])]
      exact ⟨_, rfl, E, none, 0, 0, by rw [he]; try rfl, by rw [he]; exact Ow.none _ _ _ _ _ _⟩
  ·
    refine ov (xnot rfl) rfl rfl rfl ?_
    refine ov (xmove rfl) rfl rfl rfl ?_
    refine og rfl rfl rfl ?_
    refine og rfl rfl rfl ?_
    refine og rfl rfl rfl ?_
    refine ov (xpick_t rfl rfl) rfl rfl rfl ?_
    refine ops_nil ?_
    refine run_cond_t rfl ?_
    refine run_seq ?_
    refine run_region ?_
    refine ov (xbuild (vs := []) (cells := #[.string ⟨#[]⟩, .string ⟨#[]⟩, .int .i64 0, .int .i64 0, .slice none 0 0]) rfl (by kernel_rfl)) rfl rfl rfl ?_
    refine ostoreN (vs := _) Try.sizeOf49 rfl rfl O3 rfl (by simp) (by simp [Value.oneCell']) rfl ?_
    intro w5 on5 O5
    have hz5 := on5.size
    have E := on5.ext E (by omega)
    replace O1 := on5.own O1 (by omega)
    replace O2 := on5.own O2 (by omega)
    replace O5 : Own w5 b3 [.string ⟨#[]⟩, .string ⟨#[]⟩, .int .i64 0, .int .i64 0, .slice none 0 0] 49 := O5
    refine ov (xassign rfl) rfl rfl rfl ?_
    refine ops_nil ?_
    refine run_ret Try.func56 (resc2 rfl rfl (run_loadVar_cells Try.isAgg49 Try.sizeOf49 O5.cells rfl) rfl) ?_
    have he : handOver x r = (zX, 1) := by rw [handOver, if_pos (by simp [c7])]
    exact ⟨_, rfl, E, none, 0, 0, by rw [he]; try rfl, by rw [he]; exact Ow.none _ _ _ _ _ _⟩

set_option maxHeartbeats 1000000 in
theorem sHandOver_ok (p : Option Addr) (n c : Nat) (x : Exhibit) (r : Handing) (w : World) (H : Sl Handing.cells 4 w p n c x.Chain) (hx : exSmall x) (hc : r.From.size ≤ 9223372036854775807 ∧ r.To.size ≤ 9223372036854775807) : Ret Try.prog 54 [.agg #[.string x.Code, .string x.Found, .int .i64 x.Day, .int .i64 x.Seal, .slice p n c], .agg #[.int .i64 r.Day, .string r.From, .string r.To, .int .i64 r.Seal]] w (fun v w' => Ext w w' ∧ ∃ q m d, v = .tuple #[.agg #[.string (handOver x r).1.Code, .string (handOver x r).1.Found, .int .i64 (handOver x r).1.Day, .int .i64 (handOver x r).1.Seal, .slice q m d], .int .i64 (handOver x r).2] ∧ Ow Handing.cells 4 77 w' w.heap.size w'.heap.size q m d (handOver x r).1.Chain) := by
  refine ret_of_run (N := 42) Try.func54 rfl rfl rfl ?_
  have hn := H.len
  have hn6 := H.n64
  have hz := brkZ_or (putH x r)
  have E : Ext w w := Ext.refl w
  refine run_seq ?_
  refine run_region ?_
  refine obox rfl rfl rfl ?_
  intro b1 w1 e1 hb1 hz1 O1
  have E := E.trans e1
  replace O1 : Own w1 b1 [.string x.Code, .string x.Found, .int .i64 x.Day, .int .i64 x.Seal, .slice p n c] 49 := O1
  refine obox rfl rfl rfl ?_
  intro b2 w2 e2 hb2 hz2 O2
  have E := E.trans e2
  replace O1 := O1.ext e2
  replace O2 : Own w2 b2 [.int .i64 r.Day, .string r.From, .string r.To, .int .i64 r.Seal] 77 := O2
  refine oalloc Try.zeroValue49 rfl rfl ?_
  intro b3 w3 e3 hb3 hz3 O3
  have E := E.trans e3
  replace O1 := O1.ext e3
  replace O2 := O2.ext e3
  replace O3 : Own w3 b3 [.string ⟨#[]⟩, .string ⟨#[]⟩, .int .i64 0, .int .i64 0, .slice none 0 0] 49 := O3
  refine ov (xassign rfl) rfl rfl rfl ?_
  refine ops_nil ?_
  refine run_seq ?_
  refine run_seq ?_
  refine run_region ?_
  refine ov (v := .agg #[.string x.Code, .string x.Found, .int .i64 x.Day, .int .i64 x.Seal, .slice p n c]) (xloadN Try.isAgg49 Try.sizeOf49 rfl (O1.cells) rfl) rfl rfl rfl ?_
  refine oc (xcall Try.call101 rfl) rfl rfl rfl (sIsExhibit_ok _ _ _ _ _ (H.ext E) (by assumption)) ?_
  rintro _ w4 ⟨rfl, e4⟩
  have z4 := e4.size
  have E := E.trans e4
  replace O1 := O1.ext e4
  replace O2 := O2.ext e4
  replace O3 := O3.ext e4
  refine obs (fun c8 => ?_) (fun c8 => ?_)
  ·
    have hl := isExhibit_len c8
    refine ov (xnot rfl) rfl rfl rfl ?_
    refine ov (xmove rfl) rfl rfl rfl ?_
    refine ov (v := .agg #[.int .i64 r.Day, .string r.From, .string r.To, .int .i64 r.Seal]) (xloadN Try.isAgg77 Try.sizeOf77 rfl (O2.cells) rfl) rfl rfl rfl ?_
    refine oc (xcall Try.call116 rfl) rfl rfl rfl (l23Handing_ok _ _ (by assumption)) ?_
    rintro _ w5 ⟨rfl, e5⟩
    have z5 := e5.size
    have E := E.trans e5
    replace O1 := O1.ext e5
    replace O2 := O2.ext e5
    replace O3 := O3.ext e5
    refine obs (fun c12 => ?_) (fun c12 => ?_)
    ·
      refine ov (xnot rfl) rfl rfl rfl ?_
      refine ov (xpick_f rfl rfl) rfl rfl rfl ?_
      refine ops_nil ?_
      refine run_cond_f rfl ?_
      refine run_skip ?_
      refine run_seq ?_
      refine run_seq ?_
      refine run_region ?_
      refine ov (xfieldAddr fo49f4 rfl) rfl rfl rfl ?_
      refine ov (v := .slice p n c) (xload1 Try.isAgg47 rfl (O1.cells) rfl) rfl rfl rfl ?_
      refine ov (xlen Try.underlying47 rfl) rfl rfl rfl ?_
      refine ov (xeql rfl rfl _ rfl) rfl rfl rfl ?_
      refine ods (fun c19 => ?_) (fun c19 => ?_)
      ·
        refine ops_nil ?_
        refine run_cond_t rfl ?_
        refine run_seq ?_
        refine run_region ?_
        refine ov (xbuild (vs := []) (cells := #[.string ⟨#[]⟩, .string ⟨#[]⟩, .int .i64 0, .int .i64 0, .slice none 0 0]) rfl (by kernel_rfl)) rfl rfl rfl ?_
        refine ostoreN (vs := _) Try.sizeOf49 rfl rfl O3 rfl (by simp) (by simp [Value.oneCell']) rfl ?_
        intro w6 on6 O6
        have hz6 := on6.size
        have E := on6.ext E (by omega)
        replace O1 := on6.own O1 (by omega)
        replace O2 := on6.own O2 (by omega)
        replace O6 : Own w6 b3 [.string ⟨#[]⟩, .string ⟨#[]⟩, .int .i64 0, .int .i64 0, .slice none 0 0] 49 := O6
        refine ov (xassign rfl) rfl rfl rfl ?_
        refine ops_nil ?_
        refine run_ret Try.func54 (resc2 rfl rfl (run_loadVar_cells Try.isAgg49 Try.sizeOf49 O6.cells rfl) rfl) ?_
        have he : handOver x r = (zX, 3) := by rw [handOver, if_neg (by simp [c8, c12]), if_pos (by omega)]
        exact ⟨_, rfl, E, none, 0, 0, by rw [he]; try rfl, by rw [he]; exact Ow.none _ _ _ _ _ _⟩
      ·
        refine ops_nil ?_
        refine run_cond_f rfl ?_
        refine run_skip ?_
        refine run_seq ?_
        have RE := E
        have RO1 := O1
        have RO2 := O2
        have RO3 := O3
        refine run_held (ι := Option Addr × Nat × Nat) (fun x_ w' => match x_ with | (q, d, b6) => Ext w5 w' ∧ Ow Handing.cells 4 77 w' w5.heap.size w'.heap.size q (n + 1) d (x.Chain ++ [r]) ∧ w5.heap.size ≤ b6 ∧ Own w' b6 [.string x.Code, .string x.Found, .int .i64 x.Day, .int .i64 x.Seal, .slice q (n + 1) d] 49) (fun x_ => match x_ with | (q, d, b6) => [(4, .pointer (some ⟨b3, 0, none⟩)), (5, .int .i64 0), (6, .pointer (some ⟨b6, 0, none⟩))]) (by kernel_rfl) ?_ ?_
        · intro w0_ F
          have z0_ := F.size
          have E := E.trans F
          replace O1 := O1.ext F
          replace O2 := O2.ext F
          replace O3 := O3.ext F
          refine h_take 0 rfl (by kernel_rfl) (by kernel_rfl) (by kernel_rfl) (fun w' x_ => xfieldAddr fo49f0 rfl) rfl rfl rfl F ?_
          refine h_take 1 (v := .string x.Code) rfl (by kernel_rfl) (by kernel_rfl) (by kernel_rfl) (fun w' x_ => xload1 Try.isAgg9 rfl ((RO1.cells).ext x_) rfl) rfl rfl rfl F ?_
          refine h_take 2 rfl (by kernel_rfl) (by kernel_rfl) (by kernel_rfl) (fun w' x_ => xfieldAddr fo49f1 rfl) rfl rfl rfl F ?_
          refine h_take 3 (v := .string x.Found) rfl (by kernel_rfl) (by kernel_rfl) (by kernel_rfl) (fun w' x_ => xload1 Try.isAgg9 rfl ((RO1.cells).ext x_) rfl) rfl rfl rfl F ?_
          refine h_take 4 rfl (by kernel_rfl) (by kernel_rfl) (by kernel_rfl) (fun w' x_ => xfieldAddr fo49f2 rfl) rfl rfl rfl F ?_
          refine h_take 5 (v := .int .i64 x.Day) rfl (by kernel_rfl) (by kernel_rfl) (by kernel_rfl) (fun w' x_ => xload1 Try.isAgg2 rfl ((RO1.cells).ext x_) rfl) rfl rfl rfl F ?_
          refine h_take 6 rfl (by kernel_rfl) (by kernel_rfl) (by kernel_rfl) (fun w' x_ => xfieldAddr fo49f3 rfl) rfl rfl rfl F ?_
          refine h_take 7 (v := .int .i64 x.Seal) rfl (by kernel_rfl) (by kernel_rfl) (by kernel_rfl) (fun w' x_ => xload1 Try.isAgg2 rfl ((RO1.cells).ext x_) rfl) rfl rfl rfl F ?_
          refine h_take 9 rfl (by kernel_rfl) (by kernel_rfl) (by kernel_rfl) (fun w' x_ => xfieldAddr fo49f4 rfl) rfl rfl rfl F ?_
          refine h_take 10 (v := .slice p n c) rfl (by kernel_rfl) (by kernel_rfl) (by kernel_rfl) (fun w' x_ => xload1 Try.isAgg47 rfl ((RO1.cells).ext x_) rfl) rfl rfl rfl F ?_
          refine h_take 12 (v := .agg #[.int .i64 r.Day, .string r.From, .string r.To, .int .i64 r.Seal]) rfl (by kernel_rfl) (by kernel_rfl) (by kernel_rfl) (fun w' x_ => xloadN Try.isAgg77 Try.sizeOf77 rfl ((RO2.cells).ext x_) rfl) rfl rfl rfl F ?_
          refine h_ready (rs := [8, 13, 16]) (by kernel_rfl) (by decide) ⟨?_, ?_, ?_, trivial⟩
          ·
            refine hs_build (len := 0) (vs := []) (cs := []) (sz := 4) Try.underlying47 inf77 rfl rfl (by decide) (by rfl) (by rfl) (by simp [Value.cells]) rfl F rfl rfl rfl ?_
            intro b6 w6 e6 hb6 hz6 O6
            have E := E.trans e6
            replace O1 := O1.ext e6
            replace O2 := O2.ext e6
            replace O3 := O3.ext e6
            have G6 : Ow Handing.cells 4 77 w6 b6 (b6 + 1) (some ⟨b6, 0, none⟩) 0 0 ([] : List Handing) := Own.ow (by simpa [Handing.cells] using O6) rfl (by omega) (Nat.le_refl _) (by omega) (by intro x hx; rfl)
            have F := F.trans e6
            refine h_ready (rs := [11, 13, 16]) (by kernel_rfl) (by decide) ⟨?_, ?_, ?_, trivial⟩
            ·
              refine hs_appT (bytes := 48) (nm := n) G6 (by rfl) (by rfl) elem77 (H.ext E) (H.ext E).nil (by intro y hy; rfl) (by intro y hy u hu; simp only [Handing.cells, List.mem_cons, List.not_mem_nil, or_false] at hu; rcases hu with rfl | rfl | rfl | rfl <;> rfl) (by omega) (by omega) (by omega) (by omega) F (by omega) rfl rfl rfl ?_
              intro p7 c7_ w7 m7 k7 G7
              have hz7 := m7.size
              have E := m7.toExt E (by omega)
              have F := m7.toExt F (by omega)
              replace O1 := k7 _ _ _ (by decide) O1
              try replace O2 := m7.own O2 (by omega)
              replace O3 := k7 _ _ _ (by decide) O3
              refine h_ready (rs := [13, 16]) (by kernel_rfl) (by decide) ⟨?_, ?_, trivial⟩
              ·
                refine hs_build (len := 1) (vs := [.agg #[.int .i64 r.Day, .string r.From, .string r.To, .int .i64 r.Seal]]) (cs := [.int .i64 r.Day, .string r.From, .string r.To, .int .i64 r.Seal]) (sz := 4) Try.underlying47 inf77 rfl rfl (by decide) (by rfl) (by rfl) (by simp [Value.cells]) rfl F rfl rfl rfl ?_
                intro b8 w8 e8 hb8 hz8 O8
                have E := E.trans e8
                replace G7 := G7.ext e8
                replace O1 := O1.ext e8
                replace O2 := O2.ext e8
                replace O3 := O3.ext e8
                have F := F.trans e8
                refine h_ready (rs := [14, 16]) (by kernel_rfl) (by decide) ⟨?_, ?_, trivial⟩
                ·
                  refine hs_appT (bytes := 48) (nm := (n + 1)) G7 (by rfl) (by rfl) elem77 (Own.sl1 (y := r) O8) (by intro h; cases h) (by intro y hy; rfl) (by intro y hy u hu; rw [List.mem_singleton] at hy; subst hy; revert u; simp [Value.oneCell', Handing.cells]) (by omega) (by omega) (by omega) (by omega) F (by omega) rfl rfl rfl ?_
                  intro p9 c9_ w9 m9 k9 G9
                  have hz9 := m9.size
                  have E := m9.toExt E (by omega)
                  have F := m9.toExt F (by omega)
                  replace O1 := k9 _ _ _ (by decide) O1
                  try replace O2 := m9.own O2 (by omega)
                  replace O3 := k9 _ _ _ (by decide) O3
                  try replace O8 := m9.own O8 (by omega)
                  refine h_take 15 rfl (by kernel_rfl) (by kernel_rfl) (by kernel_rfl) (fun w' x_ => xbuild (vs := [.string x.Code, .string x.Found, .int .i64 x.Day, .int .i64 x.Seal, .slice p9 (n + 1) c9_]) (cells := #[.string x.Code, .string x.Found, .int .i64 x.Day, .int .i64 x.Seal, .slice p9 (n + 1) c9_]) rfl (by kernel_rfl)) rfl rfl rfl F ?_
                  refine h_ready (rs := [16]) (by kernel_rfl) (by decide) ⟨?_, trivial⟩
                  ·
                    refine hs_alloc Try.zeroValue49 F rfl rfl rfl ?_
                    intro b10 w10 e10 hb10 hz10 O10
                    have E := E.trans e10
                    replace G9 := G9.ext e10
                    replace O1 := O1.ext e10
                    replace O2 := O2.ext e10
                    replace O3 := O3.ext e10
                    have F := F.trans e10
                    replace O10 : Own w10 b10 [.string ⟨#[]⟩, .string ⟨#[]⟩, .int .i64 0, .int .i64 0, .slice none 0 0] 49 := O10
                    refine h_ready (rs := [17]) (by kernel_rfl) (by decide) ⟨?_, trivial⟩
                    ·
                      refine hs_storeN (vs := [.string x.Code, .string x.Found, .int .i64 x.Day, .int .i64 x.Seal, .slice p9 (n + 1) c9_]) Try.sizeOf49 rfl rfl O10 rfl (by simp) (by simp [Value.oneCell']) F (by omega) rfl rfl ?_
                      intro w11 on11 O11
                      have hz11 := on11.size
                      have E := on11.ext E (by omega)
                      replace G9 := G9.onlyT O10 (by decide) on11
                      replace O1 := on11.own O1 (by omega)
                      replace O2 := on11.own O2 (by omega)
                      replace O3 := on11.own O3 (by omega)
                      have F := on11.ext F (by omega)
                      replace O11 : Own w11 b10 [.string x.Code, .string x.Found, .int .i64 x.Day, .int .i64 x.Seal, .slice p9 (n + 1) c9_] 49 := O11
                      refine h_done (by kernel_rfl) ?_
                      intro a_ ha_
                      exact ⟨(p9, c9_, b10), ⟨F, ⟨G9.wide (by omega) (by omega), by omega, O11⟩⟩, ha_.sub ⟨rfl, rfl, rfl, trivial⟩⟩
                ·
                  refine hs_alloc Try.zeroValue49 F rfl rfl rfl ?_
                  intro b9 w9 e9 hb9 hz9 O9
                  have E := E.trans e9
                  replace G7 := G7.ext e9
                  replace O1 := O1.ext e9
                  replace O2 := O2.ext e9
                  replace O3 := O3.ext e9
                  replace O8 := O8.ext e9
                  have F := F.trans e9
                  replace O9 : Own w9 b9 [.string ⟨#[]⟩, .string ⟨#[]⟩, .int .i64 0, .int .i64 0, .slice none 0 0] 49 := O9
                  refine h_ready (rs := [14]) (by kernel_rfl) (by decide) ⟨?_, trivial⟩
                  ·
                    refine hs_appT (bytes := 48) (nm := (n + 1)) G7 (by rfl) (by rfl) elem77 (Own.sl1 (y := r) O8) (by intro h; cases h) (by intro y hy; rfl) (by intro y hy u hu; rw [List.mem_singleton] at hy; subst hy; revert u; simp [Value.oneCell', Handing.cells]) (by omega) (by omega) (by omega) (by omega) F (by omega) rfl rfl rfl ?_
                    intro p10 c10_ w10 m10 k10 G10
                    have hz10 := m10.size
                    have E := m10.toExt E (by omega)
                    have F := m10.toExt F (by omega)
                    replace O1 := k10 _ _ _ (by decide) O1
                    try replace O2 := m10.own O2 (by omega)
                    replace O3 := k10 _ _ _ (by decide) O3
                    try replace O8 := m10.own O8 (by omega)
                    replace O9 := k10 _ _ _ (by decide) O9
                    refine h_take 15 rfl (by kernel_rfl) (by kernel_rfl) (by kernel_rfl) (fun w' x_ => xbuild (vs := [.string x.Code, .string x.Found, .int .i64 x.Day, .int .i64 x.Seal, .slice p10 (n + 1) c10_]) (cells := #[.string x.Code, .string x.Found, .int .i64 x.Day, .int .i64 x.Seal, .slice p10 (n + 1) c10_]) rfl (by kernel_rfl)) rfl rfl rfl F ?_
                    refine h_ready (rs := [17]) (by kernel_rfl) (by decide) ⟨?_, trivial⟩
                    ·
                      refine hs_storeN (vs := [.string x.Code, .string x.Found, .int .i64 x.Day, .int .i64 x.Seal, .slice p10 (n + 1) c10_]) Try.sizeOf49 rfl rfl O9 rfl (by simp) (by simp [Value.oneCell']) F (by omega) rfl rfl ?_
                      intro w11 on11 O11
                      have hz11 := on11.size
                      have E := on11.ext E (by omega)
                      replace G10 := G10.onlyT O9 (by decide) on11
                      replace O1 := on11.own O1 (by omega)
                      replace O2 := on11.own O2 (by omega)
                      replace O3 := on11.own O3 (by omega)
                      have F := on11.ext F (by omega)
                      replace O11 : Own w11 b9 [.string x.Code, .string x.Found, .int .i64 x.Day, .int .i64 x.Seal, .slice p10 (n + 1) c10_] 49 := O11
                      refine h_done (by kernel_rfl) ?_
                      intro a_ ha_
                      exact ⟨(p10, c10_, b9), ⟨F, ⟨G10.wide (by omega) (by omega), by omega, O11⟩⟩, ha_.sub ⟨rfl, rfl, rfl, trivial⟩⟩
              ·
                refine hs_alloc Try.zeroValue49 F rfl rfl rfl ?_
                intro b8 w8 e8 hb8 hz8 O8
                have E := E.trans e8
                replace G7 := G7.ext e8
                replace O1 := O1.ext e8
                replace O2 := O2.ext e8
                replace O3 := O3.ext e8
                have F := F.trans e8
                replace O8 : Own w8 b8 [.string ⟨#[]⟩, .string ⟨#[]⟩, .int .i64 0, .int .i64 0, .slice none 0 0] 49 := O8
                refine h_ready (rs := [13]) (by kernel_rfl) (by decide) ⟨?_, trivial⟩
                ·
                  refine hs_build (len := 1) (vs := [.agg #[.int .i64 r.Day, .string r.From, .string r.To, .int .i64 r.Seal]]) (cs := [.int .i64 r.Day, .string r.From, .string r.To, .int .i64 r.Seal]) (sz := 4) Try.underlying47 inf77 rfl rfl (by decide) (by rfl) (by rfl) (by simp [Value.cells]) rfl F rfl rfl rfl ?_
                  intro b9 w9 e9 hb9 hz9 O9
                  have E := E.trans e9
                  replace G7 := G7.ext e9
                  replace O1 := O1.ext e9
                  replace O2 := O2.ext e9
                  replace O3 := O3.ext e9
                  replace O8 := O8.ext e9
                  have F := F.trans e9
                  refine h_ready (rs := [14]) (by kernel_rfl) (by decide) ⟨?_, trivial⟩
                  ·
                    refine hs_appT (bytes := 48) (nm := (n + 1)) G7 (by rfl) (by rfl) elem77 (Own.sl1 (y := r) O9) (by intro h; cases h) (by intro y hy; rfl) (by intro y hy u hu; rw [List.mem_singleton] at hy; subst hy; revert u; simp [Value.oneCell', Handing.cells]) (by omega) (by omega) (by omega) (by omega) F (by omega) rfl rfl rfl ?_
                    intro p10 c10_ w10 m10 k10 G10
                    have hz10 := m10.size
                    have E := m10.toExt E (by omega)
                    have F := m10.toExt F (by omega)
                    replace O1 := k10 _ _ _ (by decide) O1
                    try replace O2 := m10.own O2 (by omega)
                    replace O3 := k10 _ _ _ (by decide) O3
                    replace O8 := k10 _ _ _ (by decide) O8
                    try replace O9 := m10.own O9 (by omega)
                    refine h_take 15 rfl (by kernel_rfl) (by kernel_rfl) (by kernel_rfl) (fun w' x_ => xbuild (vs := [.string x.Code, .string x.Found, .int .i64 x.Day, .int .i64 x.Seal, .slice p10 (n + 1) c10_]) (cells := #[.string x.Code, .string x.Found, .int .i64 x.Day, .int .i64 x.Seal, .slice p10 (n + 1) c10_]) rfl (by kernel_rfl)) rfl rfl rfl F ?_
                    refine h_ready (rs := [17]) (by kernel_rfl) (by decide) ⟨?_, trivial⟩
                    ·
                      refine hs_storeN (vs := [.string x.Code, .string x.Found, .int .i64 x.Day, .int .i64 x.Seal, .slice p10 (n + 1) c10_]) Try.sizeOf49 rfl rfl O8 rfl (by simp) (by simp [Value.oneCell']) F (by omega) rfl rfl ?_
                      intro w11 on11 O11
                      have hz11 := on11.size
                      have E := on11.ext E (by omega)
                      replace G10 := G10.onlyT O8 (by decide) on11
                      replace O1 := on11.own O1 (by omega)
                      replace O2 := on11.own O2 (by omega)
                      replace O3 := on11.own O3 (by omega)
                      have F := on11.ext F (by omega)
                      replace O11 : Own w11 b8 [.string x.Code, .string x.Found, .int .i64 x.Day, .int .i64 x.Seal, .slice p10 (n + 1) c10_] 49 := O11
                      refine h_done (by kernel_rfl) ?_
                      intro a_ ha_
                      exact ⟨(p10, c10_, b8), ⟨F, ⟨G10.wide (by omega) (by omega), by omega, O11⟩⟩, ha_.sub ⟨rfl, rfl, rfl, trivial⟩⟩
            ·
              refine hs_build (len := 1) (vs := [.agg #[.int .i64 r.Day, .string r.From, .string r.To, .int .i64 r.Seal]]) (cs := [.int .i64 r.Day, .string r.From, .string r.To, .int .i64 r.Seal]) (sz := 4) Try.underlying47 inf77 rfl rfl (by decide) (by rfl) (by rfl) (by simp [Value.cells]) rfl F rfl rfl rfl ?_
              intro b7 w7 e7 hb7 hz7 O7
              have E := E.trans e7
              replace G6 := G6.ext e7
              replace O1 := O1.ext e7
              replace O2 := O2.ext e7
              replace O3 := O3.ext e7
              have F := F.trans e7
              refine h_ready (rs := [11, 16]) (by kernel_rfl) (by decide) ⟨?_, ?_, trivial⟩
              ·
                refine hs_appT (bytes := 48) (nm := n) G6 (by rfl) (by rfl) elem77 (H.ext E) (H.ext E).nil (by intro y hy; rfl) (by intro y hy u hu; simp only [Handing.cells, List.mem_cons, List.not_mem_nil, or_false] at hu; rcases hu with rfl | rfl | rfl | rfl <;> rfl) (by omega) (by omega) (by omega) (by omega) F (by omega) rfl rfl rfl ?_
                intro p8 c8_ w8 m8 k8 G8
                have hz8 := m8.size
                have E := m8.toExt E (by omega)
                have F := m8.toExt F (by omega)
                replace O1 := k8 _ _ _ (by decide) O1
                try replace O2 := m8.own O2 (by omega)
                replace O3 := k8 _ _ _ (by decide) O3
                try replace O7 := m8.own O7 (by omega)
                refine h_ready (rs := [14, 16]) (by kernel_rfl) (by decide) ⟨?_, ?_, trivial⟩
                ·
                  refine hs_appT (bytes := 48) (nm := (n + 1)) G8 (by rfl) (by rfl) elem77 (Own.sl1 (y := r) O7) (by intro h; cases h) (by intro y hy; rfl) (by intro y hy u hu; rw [List.mem_singleton] at hy; subst hy; revert u; simp [Value.oneCell', Handing.cells]) (by omega) (by omega) (by omega) (by omega) F (by omega) rfl rfl rfl ?_
                  intro p9 c9_ w9 m9 k9 G9
                  have hz9 := m9.size
                  have E := m9.toExt E (by omega)
                  have F := m9.toExt F (by omega)
                  replace O1 := k9 _ _ _ (by decide) O1
                  try replace O2 := m9.own O2 (by omega)
                  replace O3 := k9 _ _ _ (by decide) O3
                  try replace O7 := m9.own O7 (by omega)
                  refine h_take 15 rfl (by kernel_rfl) (by kernel_rfl) (by kernel_rfl) (fun w' x_ => xbuild (vs := [.string x.Code, .string x.Found, .int .i64 x.Day, .int .i64 x.Seal, .slice p9 (n + 1) c9_]) (cells := #[.string x.Code, .string x.Found, .int .i64 x.Day, .int .i64 x.Seal, .slice p9 (n + 1) c9_]) rfl (by kernel_rfl)) rfl rfl rfl F ?_
                  refine h_ready (rs := [16]) (by kernel_rfl) (by decide) ⟨?_, trivial⟩
                  ·
                    refine hs_alloc Try.zeroValue49 F rfl rfl rfl ?_
                    intro b10 w10 e10 hb10 hz10 O10
                    have E := E.trans e10
                    replace G9 := G9.ext e10
                    replace O1 := O1.ext e10
                    replace O2 := O2.ext e10
                    replace O3 := O3.ext e10
                    have F := F.trans e10
                    replace O10 : Own w10 b10 [.string ⟨#[]⟩, .string ⟨#[]⟩, .int .i64 0, .int .i64 0, .slice none 0 0] 49 := O10
                    refine h_ready (rs := [17]) (by kernel_rfl) (by decide) ⟨?_, trivial⟩
                    ·
                      refine hs_storeN (vs := [.string x.Code, .string x.Found, .int .i64 x.Day, .int .i64 x.Seal, .slice p9 (n + 1) c9_]) Try.sizeOf49 rfl rfl O10 rfl (by simp) (by simp [Value.oneCell']) F (by omega) rfl rfl ?_
                      intro w11 on11 O11
                      have hz11 := on11.size
                      have E := on11.ext E (by omega)
                      replace G9 := G9.onlyT O10 (by decide) on11
                      replace O1 := on11.own O1 (by omega)
                      replace O2 := on11.own O2 (by omega)
                      replace O3 := on11.own O3 (by omega)
                      have F := on11.ext F (by omega)
                      replace O11 : Own w11 b10 [.string x.Code, .string x.Found, .int .i64 x.Day, .int .i64 x.Seal, .slice p9 (n + 1) c9_] 49 := O11
                      refine h_done (by kernel_rfl) ?_
                      intro a_ ha_
                      exact ⟨(p9, c9_, b10), ⟨F, ⟨G9.wide (by omega) (by omega), by omega, O11⟩⟩, ha_.sub ⟨rfl, rfl, rfl, trivial⟩⟩
                ·
                  refine hs_alloc Try.zeroValue49 F rfl rfl rfl ?_
                  intro b9 w9 e9 hb9 hz9 O9
                  have E := E.trans e9
                  replace G8 := G8.ext e9
                  replace O1 := O1.ext e9
                  replace O2 := O2.ext e9
                  replace O3 := O3.ext e9
                  replace O7 := O7.ext e9
                  have F := F.trans e9
                  replace O9 : Own w9 b9 [.string ⟨#[]⟩, .string ⟨#[]⟩, .int .i64 0, .int .i64 0, .slice none 0 0] 49 := O9
                  refine h_ready (rs := [14]) (by kernel_rfl) (by decide) ⟨?_, trivial⟩
                  ·
                    refine hs_appT (bytes := 48) (nm := (n + 1)) G8 (by rfl) (by rfl) elem77 (Own.sl1 (y := r) O7) (by intro h; cases h) (by intro y hy; rfl) (by intro y hy u hu; rw [List.mem_singleton] at hy; subst hy; revert u; simp [Value.oneCell', Handing.cells]) (by omega) (by omega) (by omega) (by omega) F (by omega) rfl rfl rfl ?_
                    intro p10 c10_ w10 m10 k10 G10
                    have hz10 := m10.size
                    have E := m10.toExt E (by omega)
                    have F := m10.toExt F (by omega)
                    replace O1 := k10 _ _ _ (by decide) O1
                    try replace O2 := m10.own O2 (by omega)
                    replace O3 := k10 _ _ _ (by decide) O3
                    try replace O7 := m10.own O7 (by omega)
                    replace O9 := k10 _ _ _ (by decide) O9
                    refine h_take 15 rfl (by kernel_rfl) (by kernel_rfl) (by kernel_rfl) (fun w' x_ => xbuild (vs := [.string x.Code, .string x.Found, .int .i64 x.Day, .int .i64 x.Seal, .slice p10 (n + 1) c10_]) (cells := #[.string x.Code, .string x.Found, .int .i64 x.Day, .int .i64 x.Seal, .slice p10 (n + 1) c10_]) rfl (by kernel_rfl)) rfl rfl rfl F ?_
                    refine h_ready (rs := [17]) (by kernel_rfl) (by decide) ⟨?_, trivial⟩
                    ·
                      refine hs_storeN (vs := [.string x.Code, .string x.Found, .int .i64 x.Day, .int .i64 x.Seal, .slice p10 (n + 1) c10_]) Try.sizeOf49 rfl rfl O9 rfl (by simp) (by simp [Value.oneCell']) F (by omega) rfl rfl ?_
                      intro w11 on11 O11
                      have hz11 := on11.size
                      have E := on11.ext E (by omega)
                      replace G10 := G10.onlyT O9 (by decide) on11
                      replace O1 := on11.own O1 (by omega)
                      replace O2 := on11.own O2 (by omega)
                      replace O3 := on11.own O3 (by omega)
                      have F := on11.ext F (by omega)
                      replace O11 : Own w11 b9 [.string x.Code, .string x.Found, .int .i64 x.Day, .int .i64 x.Seal, .slice p10 (n + 1) c10_] 49 := O11
                      refine h_done (by kernel_rfl) ?_
                      intro a_ ha_
                      exact ⟨(p10, c10_, b9), ⟨F, ⟨G10.wide (by omega) (by omega), by omega, O11⟩⟩, ha_.sub ⟨rfl, rfl, rfl, trivial⟩⟩
              ·
                refine hs_alloc Try.zeroValue49 F rfl rfl rfl ?_
                intro b8 w8 e8 hb8 hz8 O8
                have E := E.trans e8
                replace G6 := G6.ext e8
                replace O1 := O1.ext e8
                replace O2 := O2.ext e8
                replace O3 := O3.ext e8
                replace O7 := O7.ext e8
                have F := F.trans e8
                replace O8 : Own w8 b8 [.string ⟨#[]⟩, .string ⟨#[]⟩, .int .i64 0, .int .i64 0, .slice none 0 0] 49 := O8
                refine h_ready (rs := [11]) (by kernel_rfl) (by decide) ⟨?_, trivial⟩
                ·
                  refine hs_appT (bytes := 48) (nm := n) G6 (by rfl) (by rfl) elem77 (H.ext E) (H.ext E).nil (by intro y hy; rfl) (by intro y hy u hu; simp only [Handing.cells, List.mem_cons, List.not_mem_nil, or_false] at hu; rcases hu with rfl | rfl | rfl | rfl <;> rfl) (by omega) (by omega) (by omega) (by omega) F (by omega) rfl rfl rfl ?_
                  intro p9 c9_ w9 m9 k9 G9
                  have hz9 := m9.size
                  have E := m9.toExt E (by omega)
                  have F := m9.toExt F (by omega)
                  replace O1 := k9 _ _ _ (by decide) O1
                  try replace O2 := m9.own O2 (by omega)
                  replace O3 := k9 _ _ _ (by decide) O3
                  try replace O7 := m9.own O7 (by omega)
                  replace O8 := k9 _ _ _ (by decide) O8
                  refine h_ready (rs := [14]) (by kernel_rfl) (by decide) ⟨?_, trivial⟩
                  ·
                    refine hs_appT (bytes := 48) (nm := (n + 1)) G9 (by rfl) (by rfl) elem77 (Own.sl1 (y := r) O7) (by intro h; cases h) (by intro y hy; rfl) (by intro y hy u hu; rw [List.mem_singleton] at hy; subst hy; revert u; simp [Value.oneCell', Handing.cells]) (by omega) (by omega) (by omega) (by omega) F (by omega) rfl rfl rfl ?_
                    intro p10 c10_ w10 m10 k10 G10
                    have hz10 := m10.size
                    have E := m10.toExt E (by omega)
                    have F := m10.toExt F (by omega)
                    replace O1 := k10 _ _ _ (by decide) O1
                    try replace O2 := m10.own O2 (by omega)
                    replace O3 := k10 _ _ _ (by decide) O3
                    try replace O7 := m10.own O7 (by omega)
                    replace O8 := k10 _ _ _ (by decide) O8
                    refine h_take 15 rfl (by kernel_rfl) (by kernel_rfl) (by kernel_rfl) (fun w' x_ => xbuild (vs := [.string x.Code, .string x.Found, .int .i64 x.Day, .int .i64 x.Seal, .slice p10 (n + 1) c10_]) (cells := #[.string x.Code, .string x.Found, .int .i64 x.Day, .int .i64 x.Seal, .slice p10 (n + 1) c10_]) rfl (by kernel_rfl)) rfl rfl rfl F ?_
                    refine h_ready (rs := [17]) (by kernel_rfl) (by decide) ⟨?_, trivial⟩
                    ·
                      refine hs_storeN (vs := [.string x.Code, .string x.Found, .int .i64 x.Day, .int .i64 x.Seal, .slice p10 (n + 1) c10_]) Try.sizeOf49 rfl rfl O8 rfl (by simp) (by simp [Value.oneCell']) F (by omega) rfl rfl ?_
                      intro w11 on11 O11
                      have hz11 := on11.size
                      have E := on11.ext E (by omega)
                      replace G10 := G10.onlyT O8 (by decide) on11
                      replace O1 := on11.own O1 (by omega)
                      replace O2 := on11.own O2 (by omega)
                      replace O3 := on11.own O3 (by omega)
                      have F := on11.ext F (by omega)
                      replace O11 : Own w11 b8 [.string x.Code, .string x.Found, .int .i64 x.Day, .int .i64 x.Seal, .slice p10 (n + 1) c10_] 49 := O11
                      refine h_done (by kernel_rfl) ?_
                      intro a_ ha_
                      exact ⟨(p10, c10_, b8), ⟨F, ⟨G10.wide (by omega) (by omega), by omega, O11⟩⟩, ha_.sub ⟨rfl, rfl, rfl, trivial⟩⟩
            ·
              refine hs_alloc Try.zeroValue49 F rfl rfl rfl ?_
              intro b7 w7 e7 hb7 hz7 O7
              have E := E.trans e7
              replace G6 := G6.ext e7
              replace O1 := O1.ext e7
              replace O2 := O2.ext e7
              replace O3 := O3.ext e7
              have F := F.trans e7
              replace O7 : Own w7 b7 [.string ⟨#[]⟩, .string ⟨#[]⟩, .int .i64 0, .int .i64 0, .slice none 0 0] 49 := O7
              refine h_ready (rs := [11, 13]) (by kernel_rfl) (by decide) ⟨?_, ?_, trivial⟩
              ·
                refine hs_appT (bytes := 48) (nm := n) G6 (by rfl) (by rfl) elem77 (H.ext E) (H.ext E).nil (by intro y hy; rfl) (by intro y hy u hu; simp only [Handing.cells, List.mem_cons, List.not_mem_nil, or_false] at hu; rcases hu with rfl | rfl | rfl | rfl <;> rfl) (by omega) (by omega) (by omega) (by omega) F (by omega) rfl rfl rfl ?_
                intro p8 c8_ w8 m8 k8 G8
                have hz8 := m8.size
                have E := m8.toExt E (by omega)
                have F := m8.toExt F (by omega)
                replace O1 := k8 _ _ _ (by decide) O1
                try replace O2 := m8.own O2 (by omega)
                replace O3 := k8 _ _ _ (by decide) O3
                replace O7 := k8 _ _ _ (by decide) O7
                refine h_ready (rs := [13]) (by kernel_rfl) (by decide) ⟨?_, trivial⟩
                ·
                  refine hs_build (len := 1) (vs := [.agg #[.int .i64 r.Day, .string r.From, .string r.To, .int .i64 r.Seal]]) (cs := [.int .i64 r.Day, .string r.From, .string r.To, .int .i64 r.Seal]) (sz := 4) Try.underlying47 inf77 rfl rfl (by decide) (by rfl) (by rfl) (by simp [Value.cells]) rfl F rfl rfl rfl ?_
                  intro b9 w9 e9 hb9 hz9 O9
                  have E := E.trans e9
                  replace G8 := G8.ext e9
                  replace O1 := O1.ext e9
                  replace O2 := O2.ext e9
                  replace O3 := O3.ext e9
                  replace O7 := O7.ext e9
                  have F := F.trans e9
                  refine h_ready (rs := [14]) (by kernel_rfl) (by decide) ⟨?_, trivial⟩
                  ·
                    refine hs_appT (bytes := 48) (nm := (n + 1)) G8 (by rfl) (by rfl) elem77 (Own.sl1 (y := r) O9) (by intro h; cases h) (by intro y hy; rfl) (by intro y hy u hu; rw [List.mem_singleton] at hy; subst hy; revert u; simp [Value.oneCell', Handing.cells]) (by omega) (by omega) (by omega) (by omega) F (by omega) rfl rfl rfl ?_
                    intro p10 c10_ w10 m10 k10 G10
                    have hz10 := m10.size
                    have E := m10.toExt E (by omega)
                    have F := m10.toExt F (by omega)
                    replace O1 := k10 _ _ _ (by decide) O1
                    try replace O2 := m10.own O2 (by omega)
                    replace O3 := k10 _ _ _ (by decide) O3
                    replace O7 := k10 _ _ _ (by decide) O7
                    try replace O9 := m10.own O9 (by omega)
                    refine h_take 15 rfl (by kernel_rfl) (by kernel_rfl) (by kernel_rfl) (fun w' x_ => xbuild (vs := [.string x.Code, .string x.Found, .int .i64 x.Day, .int .i64 x.Seal, .slice p10 (n + 1) c10_]) (cells := #[.string x.Code, .string x.Found, .int .i64 x.Day, .int .i64 x.Seal, .slice p10 (n + 1) c10_]) rfl (by kernel_rfl)) rfl rfl rfl F ?_
                    refine h_ready (rs := [17]) (by kernel_rfl) (by decide) ⟨?_, trivial⟩
                    ·
                      refine hs_storeN (vs := [.string x.Code, .string x.Found, .int .i64 x.Day, .int .i64 x.Seal, .slice p10 (n + 1) c10_]) Try.sizeOf49 rfl rfl O7 rfl (by simp) (by simp [Value.oneCell']) F (by omega) rfl rfl ?_
                      intro w11 on11 O11
                      have hz11 := on11.size
                      have E := on11.ext E (by omega)
                      replace G10 := G10.onlyT O7 (by decide) on11
                      replace O1 := on11.own O1 (by omega)
                      replace O2 := on11.own O2 (by omega)
                      replace O3 := on11.own O3 (by omega)
                      have F := on11.ext F (by omega)
                      replace O11 : Own w11 b7 [.string x.Code, .string x.Found, .int .i64 x.Day, .int .i64 x.Seal, .slice p10 (n + 1) c10_] 49 := O11
                      refine h_done (by kernel_rfl) ?_
                      intro a_ ha_
                      exact ⟨(p10, c10_, b7), ⟨F, ⟨G10.wide (by omega) (by omega), by omega, O11⟩⟩, ha_.sub ⟨rfl, rfl, rfl, trivial⟩⟩
              ·
                refine hs_build (len := 1) (vs := [.agg #[.int .i64 r.Day, .string r.From, .string r.To, .int .i64 r.Seal]]) (cs := [.int .i64 r.Day, .string r.From, .string r.To, .int .i64 r.Seal]) (sz := 4) Try.underlying47 inf77 rfl rfl (by decide) (by rfl) (by rfl) (by simp [Value.cells]) rfl F rfl rfl rfl ?_
                intro b8 w8 e8 hb8 hz8 O8
                have E := E.trans e8
                replace G6 := G6.ext e8
                replace O1 := O1.ext e8
                replace O2 := O2.ext e8
                replace O3 := O3.ext e8
                replace O7 := O7.ext e8
                have F := F.trans e8
                refine h_ready (rs := [11]) (by kernel_rfl) (by decide) ⟨?_, trivial⟩
                ·
                  refine hs_appT (bytes := 48) (nm := n) G6 (by rfl) (by rfl) elem77 (H.ext E) (H.ext E).nil (by intro y hy; rfl) (by intro y hy u hu; simp only [Handing.cells, List.mem_cons, List.not_mem_nil, or_false] at hu; rcases hu with rfl | rfl | rfl | rfl <;> rfl) (by omega) (by omega) (by omega) (by omega) F (by omega) rfl rfl rfl ?_
                  intro p9 c9_ w9 m9 k9 G9
                  have hz9 := m9.size
                  have E := m9.toExt E (by omega)
                  have F := m9.toExt F (by omega)
                  replace O1 := k9 _ _ _ (by decide) O1
                  try replace O2 := m9.own O2 (by omega)
                  replace O3 := k9 _ _ _ (by decide) O3
                  replace O7 := k9 _ _ _ (by decide) O7
                  try replace O8 := m9.own O8 (by omega)
                  refine h_ready (rs := [14]) (by kernel_rfl) (by decide) ⟨?_, trivial⟩
                  ·
                    refine hs_appT (bytes := 48) (nm := (n + 1)) G9 (by rfl) (by rfl) elem77 (Own.sl1 (y := r) O8) (by intro h; cases h) (by intro y hy; rfl) (by intro y hy u hu; rw [List.mem_singleton] at hy; subst hy; revert u; simp [Value.oneCell', Handing.cells]) (by omega) (by omega) (by omega) (by omega) F (by omega) rfl rfl rfl ?_
                    intro p10 c10_ w10 m10 k10 G10
                    have hz10 := m10.size
                    have E := m10.toExt E (by omega)
                    have F := m10.toExt F (by omega)
                    replace O1 := k10 _ _ _ (by decide) O1
                    try replace O2 := m10.own O2 (by omega)
                    replace O3 := k10 _ _ _ (by decide) O3
                    replace O7 := k10 _ _ _ (by decide) O7
                    try replace O8 := m10.own O8 (by omega)
                    refine h_take 15 rfl (by kernel_rfl) (by kernel_rfl) (by kernel_rfl) (fun w' x_ => xbuild (vs := [.string x.Code, .string x.Found, .int .i64 x.Day, .int .i64 x.Seal, .slice p10 (n + 1) c10_]) (cells := #[.string x.Code, .string x.Found, .int .i64 x.Day, .int .i64 x.Seal, .slice p10 (n + 1) c10_]) rfl (by kernel_rfl)) rfl rfl rfl F ?_
                    refine h_ready (rs := [17]) (by kernel_rfl) (by decide) ⟨?_, trivial⟩
                    ·
                      refine hs_storeN (vs := [.string x.Code, .string x.Found, .int .i64 x.Day, .int .i64 x.Seal, .slice p10 (n + 1) c10_]) Try.sizeOf49 rfl rfl O7 rfl (by simp) (by simp [Value.oneCell']) F (by omega) rfl rfl ?_
                      intro w11 on11 O11
                      have hz11 := on11.size
                      have E := on11.ext E (by omega)
                      replace G10 := G10.onlyT O7 (by decide) on11
                      replace O1 := on11.own O1 (by omega)
                      replace O2 := on11.own O2 (by omega)
                      replace O3 := on11.own O3 (by omega)
                      have F := on11.ext F (by omega)
                      replace O11 : Own w11 b7 [.string x.Code, .string x.Found, .int .i64 x.Day, .int .i64 x.Seal, .slice p10 (n + 1) c10_] 49 := O11
                      refine h_done (by kernel_rfl) ?_
                      intro a_ ha_
                      exact ⟨(p10, c10_, b7), ⟨F, ⟨G10.wide (by omega) (by omega), by omega, O11⟩⟩, ha_.sub ⟨rfl, rfl, rfl, trivial⟩⟩
          ·
            refine hs_build (len := 1) (vs := [.agg #[.int .i64 r.Day, .string r.From, .string r.To, .int .i64 r.Seal]]) (cs := [.int .i64 r.Day, .string r.From, .string r.To, .int .i64 r.Seal]) (sz := 4) Try.underlying47 inf77 rfl rfl (by decide) (by rfl) (by rfl) (by simp [Value.cells]) rfl F rfl rfl rfl ?_
            intro b6 w6 e6 hb6 hz6 O6
            have E := E.trans e6
            replace O1 := O1.ext e6
            replace O2 := O2.ext e6
            replace O3 := O3.ext e6
            have F := F.trans e6
            refine h_ready (rs := [8, 16]) (by kernel_rfl) (by decide) ⟨?_, ?_, trivial⟩
            ·
              refine hs_build (len := 0) (vs := []) (cs := []) (sz := 4) Try.underlying47 inf77 rfl rfl (by decide) (by rfl) (by rfl) (by simp [Value.cells]) rfl F rfl rfl rfl ?_
              intro b7 w7 e7 hb7 hz7 O7
              have E := E.trans e7
              replace O1 := O1.ext e7
              replace O2 := O2.ext e7
              replace O3 := O3.ext e7
              replace O6 := O6.ext e7
              have G7 : Ow Handing.cells 4 77 w7 b7 (b7 + 1) (some ⟨b7, 0, none⟩) 0 0 ([] : List Handing) := Own.ow (by simpa [Handing.cells] using O7) rfl (by omega) (Nat.le_refl _) (by omega) (by intro x hx; rfl)
              have F := F.trans e7
              refine h_ready (rs := [11, 16]) (by kernel_rfl) (by decide) ⟨?_, ?_, trivial⟩
              ·
                refine hs_appT (bytes := 48) (nm := n) G7 (by rfl) (by rfl) elem77 (H.ext E) (H.ext E).nil (by intro y hy; rfl) (by intro y hy u hu; simp only [Handing.cells, List.mem_cons, List.not_mem_nil, or_false] at hu; rcases hu with rfl | rfl | rfl | rfl <;> rfl) (by omega) (by omega) (by omega) (by omega) F (by omega) rfl rfl rfl ?_
                intro p8 c8_ w8 m8 k8 G8
                have hz8 := m8.size
                have E := m8.toExt E (by omega)
                have F := m8.toExt F (by omega)
                replace O1 := k8 _ _ _ (by decide) O1
                try replace O2 := m8.own O2 (by omega)
                replace O3 := k8 _ _ _ (by decide) O3
                try replace O6 := m8.own O6 (by omega)
                refine h_ready (rs := [14, 16]) (by kernel_rfl) (by decide) ⟨?_, ?_, trivial⟩
                ·
                  refine hs_appT (bytes := 48) (nm := (n + 1)) G8 (by rfl) (by rfl) elem77 (Own.sl1 (y := r) O6) (by intro h; cases h) (by intro y hy; rfl) (by intro y hy u hu; rw [List.mem_singleton] at hy; subst hy; revert u; simp [Value.oneCell', Handing.cells]) (by omega) (by omega) (by omega) (by omega) F (by omega) rfl rfl rfl ?_
                  intro p9 c9_ w9 m9 k9 G9
                  have hz9 := m9.size
                  have E := m9.toExt E (by omega)
                  have F := m9.toExt F (by omega)
                  replace O1 := k9 _ _ _ (by decide) O1
                  try replace O2 := m9.own O2 (by omega)
                  replace O3 := k9 _ _ _ (by decide) O3
                  try replace O6 := m9.own O6 (by omega)
                  refine h_take 15 rfl (by kernel_rfl) (by kernel_rfl) (by kernel_rfl) (fun w' x_ => xbuild (vs := [.string x.Code, .string x.Found, .int .i64 x.Day, .int .i64 x.Seal, .slice p9 (n + 1) c9_]) (cells := #[.string x.Code, .string x.Found, .int .i64 x.Day, .int .i64 x.Seal, .slice p9 (n + 1) c9_]) rfl (by kernel_rfl)) rfl rfl rfl F ?_
                  refine h_ready (rs := [16]) (by kernel_rfl) (by decide) ⟨?_, trivial⟩
                  ·
                    refine hs_alloc Try.zeroValue49 F rfl rfl rfl ?_
                    intro b10 w10 e10 hb10 hz10 O10
                    have E := E.trans e10
                    replace G9 := G9.ext e10
                    replace O1 := O1.ext e10
                    replace O2 := O2.ext e10
                    replace O3 := O3.ext e10
                    have F := F.trans e10
                    replace O10 : Own w10 b10 [.string ⟨#[]⟩, .string ⟨#[]⟩, .int .i64 0, .int .i64 0, .slice none 0 0] 49 := O10
                    refine h_ready (rs := [17]) (by kernel_rfl) (by decide) ⟨?_, trivial⟩
                    ·
                      refine hs_storeN (vs := [.string x.Code, .string x.Found, .int .i64 x.Day, .int .i64 x.Seal, .slice p9 (n + 1) c9_]) Try.sizeOf49 rfl rfl O10 rfl (by simp) (by simp [Value.oneCell']) F (by omega) rfl rfl ?_
                      intro w11 on11 O11
                      have hz11 := on11.size
                      have E := on11.ext E (by omega)
                      replace G9 := G9.onlyT O10 (by decide) on11
                      replace O1 := on11.own O1 (by omega)
                      replace O2 := on11.own O2 (by omega)
                      replace O3 := on11.own O3 (by omega)
                      have F := on11.ext F (by omega)
                      replace O11 : Own w11 b10 [.string x.Code, .string x.Found, .int .i64 x.Day, .int .i64 x.Seal, .slice p9 (n + 1) c9_] 49 := O11
                      refine h_done (by kernel_rfl) ?_
                      intro a_ ha_
                      exact ⟨(p9, c9_, b10), ⟨F, ⟨G9.wide (by omega) (by omega), by omega, O11⟩⟩, ha_.sub ⟨rfl, rfl, rfl, trivial⟩⟩
                ·
                  refine hs_alloc Try.zeroValue49 F rfl rfl rfl ?_
                  intro b9 w9 e9 hb9 hz9 O9
                  have E := E.trans e9
                  replace G8 := G8.ext e9
                  replace O1 := O1.ext e9
                  replace O2 := O2.ext e9
                  replace O3 := O3.ext e9
                  replace O6 := O6.ext e9
                  have F := F.trans e9
                  replace O9 : Own w9 b9 [.string ⟨#[]⟩, .string ⟨#[]⟩, .int .i64 0, .int .i64 0, .slice none 0 0] 49 := O9
                  refine h_ready (rs := [14]) (by kernel_rfl) (by decide) ⟨?_, trivial⟩
                  ·
                    refine hs_appT (bytes := 48) (nm := (n + 1)) G8 (by rfl) (by rfl) elem77 (Own.sl1 (y := r) O6) (by intro h; cases h) (by intro y hy; rfl) (by intro y hy u hu; rw [List.mem_singleton] at hy; subst hy; revert u; simp [Value.oneCell', Handing.cells]) (by omega) (by omega) (by omega) (by omega) F (by omega) rfl rfl rfl ?_
                    intro p10 c10_ w10 m10 k10 G10
                    have hz10 := m10.size
                    have E := m10.toExt E (by omega)
                    have F := m10.toExt F (by omega)
                    replace O1 := k10 _ _ _ (by decide) O1
                    try replace O2 := m10.own O2 (by omega)
                    replace O3 := k10 _ _ _ (by decide) O3
                    try replace O6 := m10.own O6 (by omega)
                    replace O9 := k10 _ _ _ (by decide) O9
                    refine h_take 15 rfl (by kernel_rfl) (by kernel_rfl) (by kernel_rfl) (fun w' x_ => xbuild (vs := [.string x.Code, .string x.Found, .int .i64 x.Day, .int .i64 x.Seal, .slice p10 (n + 1) c10_]) (cells := #[.string x.Code, .string x.Found, .int .i64 x.Day, .int .i64 x.Seal, .slice p10 (n + 1) c10_]) rfl (by kernel_rfl)) rfl rfl rfl F ?_
                    refine h_ready (rs := [17]) (by kernel_rfl) (by decide) ⟨?_, trivial⟩
                    ·
                      refine hs_storeN (vs := [.string x.Code, .string x.Found, .int .i64 x.Day, .int .i64 x.Seal, .slice p10 (n + 1) c10_]) Try.sizeOf49 rfl rfl O9 rfl (by simp) (by simp [Value.oneCell']) F (by omega) rfl rfl ?_
                      intro w11 on11 O11
                      have hz11 := on11.size
                      have E := on11.ext E (by omega)
                      replace G10 := G10.onlyT O9 (by decide) on11
                      replace O1 := on11.own O1 (by omega)
                      replace O2 := on11.own O2 (by omega)
                      replace O3 := on11.own O3 (by omega)
                      have F := on11.ext F (by omega)
                      replace O11 : Own w11 b9 [.string x.Code, .string x.Found, .int .i64 x.Day, .int .i64 x.Seal, .slice p10 (n + 1) c10_] 49 := O11
                      refine h_done (by kernel_rfl) ?_
                      intro a_ ha_
                      exact ⟨(p10, c10_, b9), ⟨F, ⟨G10.wide (by omega) (by omega), by omega, O11⟩⟩, ha_.sub ⟨rfl, rfl, rfl, trivial⟩⟩
              ·
                refine hs_alloc Try.zeroValue49 F rfl rfl rfl ?_
                intro b8 w8 e8 hb8 hz8 O8
                have E := E.trans e8
                replace G7 := G7.ext e8
                replace O1 := O1.ext e8
                replace O2 := O2.ext e8
                replace O3 := O3.ext e8
                replace O6 := O6.ext e8
                have F := F.trans e8
                replace O8 : Own w8 b8 [.string ⟨#[]⟩, .string ⟨#[]⟩, .int .i64 0, .int .i64 0, .slice none 0 0] 49 := O8
                refine h_ready (rs := [11]) (by kernel_rfl) (by decide) ⟨?_, trivial⟩
                ·
                  refine hs_appT (bytes := 48) (nm := n) G7 (by rfl) (by rfl) elem77 (H.ext E) (H.ext E).nil (by intro y hy; rfl) (by intro y hy u hu; simp only [Handing.cells, List.mem_cons, List.not_mem_nil, or_false] at hu; rcases hu with rfl | rfl | rfl | rfl <;> rfl) (by omega) (by omega) (by omega) (by omega) F (by omega) rfl rfl rfl ?_
                  intro p9 c9_ w9 m9 k9 G9
                  have hz9 := m9.size
                  have E := m9.toExt E (by omega)
                  have F := m9.toExt F (by omega)
                  replace O1 := k9 _ _ _ (by decide) O1
                  try replace O2 := m9.own O2 (by omega)
                  replace O3 := k9 _ _ _ (by decide) O3
                  try replace O6 := m9.own O6 (by omega)
                  replace O8 := k9 _ _ _ (by decide) O8
                  refine h_ready (rs := [14]) (by kernel_rfl) (by decide) ⟨?_, trivial⟩
                  ·
                    refine hs_appT (bytes := 48) (nm := (n + 1)) G9 (by rfl) (by rfl) elem77 (Own.sl1 (y := r) O6) (by intro h; cases h) (by intro y hy; rfl) (by intro y hy u hu; rw [List.mem_singleton] at hy; subst hy; revert u; simp [Value.oneCell', Handing.cells]) (by omega) (by omega) (by omega) (by omega) F (by omega) rfl rfl rfl ?_
                    intro p10 c10_ w10 m10 k10 G10
                    have hz10 := m10.size
                    have E := m10.toExt E (by omega)
                    have F := m10.toExt F (by omega)
                    replace O1 := k10 _ _ _ (by decide) O1
                    try replace O2 := m10.own O2 (by omega)
                    replace O3 := k10 _ _ _ (by decide) O3
                    try replace O6 := m10.own O6 (by omega)
                    replace O8 := k10 _ _ _ (by decide) O8
                    refine h_take 15 rfl (by kernel_rfl) (by kernel_rfl) (by kernel_rfl) (fun w' x_ => xbuild (vs := [.string x.Code, .string x.Found, .int .i64 x.Day, .int .i64 x.Seal, .slice p10 (n + 1) c10_]) (cells := #[.string x.Code, .string x.Found, .int .i64 x.Day, .int .i64 x.Seal, .slice p10 (n + 1) c10_]) rfl (by kernel_rfl)) rfl rfl rfl F ?_
                    refine h_ready (rs := [17]) (by kernel_rfl) (by decide) ⟨?_, trivial⟩
                    ·
                      refine hs_storeN (vs := [.string x.Code, .string x.Found, .int .i64 x.Day, .int .i64 x.Seal, .slice p10 (n + 1) c10_]) Try.sizeOf49 rfl rfl O8 rfl (by simp) (by simp [Value.oneCell']) F (by omega) rfl rfl ?_
                      intro w11 on11 O11
                      have hz11 := on11.size
                      have E := on11.ext E (by omega)
                      replace G10 := G10.onlyT O8 (by decide) on11
                      replace O1 := on11.own O1 (by omega)
                      replace O2 := on11.own O2 (by omega)
                      replace O3 := on11.own O3 (by omega)
                      have F := on11.ext F (by omega)
                      replace O11 : Own w11 b8 [.string x.Code, .string x.Found, .int .i64 x.Day, .int .i64 x.Seal, .slice p10 (n + 1) c10_] 49 := O11
                      refine h_done (by kernel_rfl) ?_
                      intro a_ ha_
                      exact ⟨(p10, c10_, b8), ⟨F, ⟨G10.wide (by omega) (by omega), by omega, O11⟩⟩, ha_.sub ⟨rfl, rfl, rfl, trivial⟩⟩
            ·
              refine hs_alloc Try.zeroValue49 F rfl rfl rfl ?_
              intro b7 w7 e7 hb7 hz7 O7
              have E := E.trans e7
              replace O1 := O1.ext e7
              replace O2 := O2.ext e7
              replace O3 := O3.ext e7
              replace O6 := O6.ext e7
              have F := F.trans e7
              replace O7 : Own w7 b7 [.string ⟨#[]⟩, .string ⟨#[]⟩, .int .i64 0, .int .i64 0, .slice none 0 0] 49 := O7
              refine h_ready (rs := [8]) (by kernel_rfl) (by decide) ⟨?_, trivial⟩
              ·
                refine hs_build (len := 0) (vs := []) (cs := []) (sz := 4) Try.underlying47 inf77 rfl rfl (by decide) (by rfl) (by rfl) (by simp [Value.cells]) rfl F rfl rfl rfl ?_
                intro b8 w8 e8 hb8 hz8 O8
                have E := E.trans e8
                replace O1 := O1.ext e8
                replace O2 := O2.ext e8
                replace O3 := O3.ext e8
                replace O6 := O6.ext e8
                replace O7 := O7.ext e8
                have G8 : Ow Handing.cells 4 77 w8 b8 (b8 + 1) (some ⟨b8, 0, none⟩) 0 0 ([] : List Handing) := Own.ow (by simpa [Handing.cells] using O8) rfl (by omega) (Nat.le_refl _) (by omega) (by intro x hx; rfl)
                have F := F.trans e8
                refine h_ready (rs := [11]) (by kernel_rfl) (by decide) ⟨?_, trivial⟩
                ·
                  refine hs_appT (bytes := 48) (nm := n) G8 (by rfl) (by rfl) elem77 (H.ext E) (H.ext E).nil (by intro y hy; rfl) (by intro y hy u hu; simp only [Handing.cells, List.mem_cons, List.not_mem_nil, or_false] at hu; rcases hu with rfl | rfl | rfl | rfl <;> rfl) (by omega) (by omega) (by omega) (by omega) F (by omega) rfl rfl rfl ?_
                  intro p9 c9_ w9 m9 k9 G9
                  have hz9 := m9.size
                  have E := m9.toExt E (by omega)
                  have F := m9.toExt F (by omega)
                  replace O1 := k9 _ _ _ (by decide) O1
                  try replace O2 := m9.own O2 (by omega)
                  replace O3 := k9 _ _ _ (by decide) O3
                  try replace O6 := m9.own O6 (by omega)
                  replace O7 := k9 _ _ _ (by decide) O7
                  refine h_ready (rs := [14]) (by kernel_rfl) (by decide) ⟨?_, trivial⟩
                  ·
                    refine hs_appT (bytes := 48) (nm := (n + 1)) G9 (by rfl) (by rfl) elem77 (Own.sl1 (y := r) O6) (by intro h; cases h) (by intro y hy; rfl) (by intro y hy u hu; rw [List.mem_singleton] at hy; subst hy; revert u; simp [Value.oneCell', Handing.cells]) (by omega) (by omega) (by omega) (by omega) F (by omega) rfl rfl rfl ?_
                    intro p10 c10_ w10 m10 k10 G10
                    have hz10 := m10.size
                    have E := m10.toExt E (by omega)
                    have F := m10.toExt F (by omega)
                    replace O1 := k10 _ _ _ (by decide) O1
                    try replace O2 := m10.own O2 (by omega)
                    replace O3 := k10 _ _ _ (by decide) O3
                    try replace O6 := m10.own O6 (by omega)
                    replace O7 := k10 _ _ _ (by decide) O7
                    refine h_take 15 rfl (by kernel_rfl) (by kernel_rfl) (by kernel_rfl) (fun w' x_ => xbuild (vs := [.string x.Code, .string x.Found, .int .i64 x.Day, .int .i64 x.Seal, .slice p10 (n + 1) c10_]) (cells := #[.string x.Code, .string x.Found, .int .i64 x.Day, .int .i64 x.Seal, .slice p10 (n + 1) c10_]) rfl (by kernel_rfl)) rfl rfl rfl F ?_
                    refine h_ready (rs := [17]) (by kernel_rfl) (by decide) ⟨?_, trivial⟩
                    ·
                      refine hs_storeN (vs := [.string x.Code, .string x.Found, .int .i64 x.Day, .int .i64 x.Seal, .slice p10 (n + 1) c10_]) Try.sizeOf49 rfl rfl O7 rfl (by simp) (by simp [Value.oneCell']) F (by omega) rfl rfl ?_
                      intro w11 on11 O11
                      have hz11 := on11.size
                      have E := on11.ext E (by omega)
                      replace G10 := G10.onlyT O7 (by decide) on11
                      replace O1 := on11.own O1 (by omega)
                      replace O2 := on11.own O2 (by omega)
                      replace O3 := on11.own O3 (by omega)
                      have F := on11.ext F (by omega)
                      replace O11 : Own w11 b7 [.string x.Code, .string x.Found, .int .i64 x.Day, .int .i64 x.Seal, .slice p10 (n + 1) c10_] 49 := O11
                      refine h_done (by kernel_rfl) ?_
                      intro a_ ha_
                      exact ⟨(p10, c10_, b7), ⟨F, ⟨G10.wide (by omega) (by omega), by omega, O11⟩⟩, ha_.sub ⟨rfl, rfl, rfl, trivial⟩⟩
          ·
            refine hs_alloc Try.zeroValue49 F rfl rfl rfl ?_
            intro b6 w6 e6 hb6 hz6 O6
            have E := E.trans e6
            replace O1 := O1.ext e6
            replace O2 := O2.ext e6
            replace O3 := O3.ext e6
            have F := F.trans e6
            replace O6 : Own w6 b6 [.string ⟨#[]⟩, .string ⟨#[]⟩, .int .i64 0, .int .i64 0, .slice none 0 0] 49 := O6
            refine h_ready (rs := [8, 13]) (by kernel_rfl) (by decide) ⟨?_, ?_, trivial⟩
            ·
              refine hs_build (len := 0) (vs := []) (cs := []) (sz := 4) Try.underlying47 inf77 rfl rfl (by decide) (by rfl) (by rfl) (by simp [Value.cells]) rfl F rfl rfl rfl ?_
              intro b7 w7 e7 hb7 hz7 O7
              have E := E.trans e7
              replace O1 := O1.ext e7
              replace O2 := O2.ext e7
              replace O3 := O3.ext e7
              replace O6 := O6.ext e7
              have G7 : Ow Handing.cells 4 77 w7 b7 (b7 + 1) (some ⟨b7, 0, none⟩) 0 0 ([] : List Handing) := Own.ow (by simpa [Handing.cells] using O7) rfl (by omega) (Nat.le_refl _) (by omega) (by intro x hx; rfl)
              have F := F.trans e7
              refine h_ready (rs := [11, 13]) (by kernel_rfl) (by decide) ⟨?_, ?_, trivial⟩
              ·
                refine hs_appT (bytes := 48) (nm := n) G7 (by rfl) (by rfl) elem77 (H.ext E) (H.ext E).nil (by intro y hy; rfl) (by intro y hy u hu; simp only [Handing.cells, List.mem_cons, List.not_mem_nil, or_false] at hu; rcases hu with rfl | rfl | rfl | rfl <;> rfl) (by omega) (by omega) (by omega) (by omega) F (by omega) rfl rfl rfl ?_
                intro p8 c8_ w8 m8 k8 G8
                have hz8 := m8.size
                have E := m8.toExt E (by omega)
                have F := m8.toExt F (by omega)
                replace O1 := k8 _ _ _ (by decide) O1
                try replace O2 := m8.own O2 (by omega)
                replace O3 := k8 _ _ _ (by decide) O3
                replace O6 := k8 _ _ _ (by decide) O6
                refine h_ready (rs := [13]) (by kernel_rfl) (by decide) ⟨?_, trivial⟩
                ·
                  refine hs_build (len := 1) (vs := [.agg #[.int .i64 r.Day, .string r.From, .string r.To, .int .i64 r.Seal]]) (cs := [.int .i64 r.Day, .string r.From, .string r.To, .int .i64 r.Seal]) (sz := 4) Try.underlying47 inf77 rfl rfl (by decide) (by rfl) (by rfl) (by simp [Value.cells]) rfl F rfl rfl rfl ?_
                  intro b9 w9 e9 hb9 hz9 O9
                  have E := E.trans e9
                  replace G8 := G8.ext e9
                  replace O1 := O1.ext e9
                  replace O2 := O2.ext e9
                  replace O3 := O3.ext e9
                  replace O6 := O6.ext e9
                  have F := F.trans e9
                  refine h_ready (rs := [14]) (by kernel_rfl) (by decide) ⟨?_, trivial⟩
                  ·
                    refine hs_appT (bytes := 48) (nm := (n + 1)) G8 (by rfl) (by rfl) elem77 (Own.sl1 (y := r) O9) (by intro h; cases h) (by intro y hy; rfl) (by intro y hy u hu; rw [List.mem_singleton] at hy; subst hy; revert u; simp [Value.oneCell', Handing.cells]) (by omega) (by omega) (by omega) (by omega) F (by omega) rfl rfl rfl ?_
                    intro p10 c10_ w10 m10 k10 G10
                    have hz10 := m10.size
                    have E := m10.toExt E (by omega)
                    have F := m10.toExt F (by omega)
                    replace O1 := k10 _ _ _ (by decide) O1
                    try replace O2 := m10.own O2 (by omega)
                    replace O3 := k10 _ _ _ (by decide) O3
                    replace O6 := k10 _ _ _ (by decide) O6
                    try replace O9 := m10.own O9 (by omega)
                    refine h_take 15 rfl (by kernel_rfl) (by kernel_rfl) (by kernel_rfl) (fun w' x_ => xbuild (vs := [.string x.Code, .string x.Found, .int .i64 x.Day, .int .i64 x.Seal, .slice p10 (n + 1) c10_]) (cells := #[.string x.Code, .string x.Found, .int .i64 x.Day, .int .i64 x.Seal, .slice p10 (n + 1) c10_]) rfl (by kernel_rfl)) rfl rfl rfl F ?_
                    refine h_ready (rs := [17]) (by kernel_rfl) (by decide) ⟨?_, trivial⟩
                    ·
                      refine hs_storeN (vs := [.string x.Code, .string x.Found, .int .i64 x.Day, .int .i64 x.Seal, .slice p10 (n + 1) c10_]) Try.sizeOf49 rfl rfl O6 rfl (by simp) (by simp [Value.oneCell']) F (by omega) rfl rfl ?_
                      intro w11 on11 O11
                      have hz11 := on11.size
                      have E := on11.ext E (by omega)
                      replace G10 := G10.onlyT O6 (by decide) on11
                      replace O1 := on11.own O1 (by omega)
                      replace O2 := on11.own O2 (by omega)
                      replace O3 := on11.own O3 (by omega)
                      have F := on11.ext F (by omega)
                      replace O11 : Own w11 b6 [.string x.Code, .string x.Found, .int .i64 x.Day, .int .i64 x.Seal, .slice p10 (n + 1) c10_] 49 := O11
                      refine h_done (by kernel_rfl) ?_
                      intro a_ ha_
                      exact ⟨(p10, c10_, b6), ⟨F, ⟨G10.wide (by omega) (by omega), by omega, O11⟩⟩, ha_.sub ⟨rfl, rfl, rfl, trivial⟩⟩
              ·
                refine hs_build (len := 1) (vs := [.agg #[.int .i64 r.Day, .string r.From, .string r.To, .int .i64 r.Seal]]) (cs := [.int .i64 r.Day, .string r.From, .string r.To, .int .i64 r.Seal]) (sz := 4) Try.underlying47 inf77 rfl rfl (by decide) (by rfl) (by rfl) (by simp [Value.cells]) rfl F rfl rfl rfl ?_
                intro b8 w8 e8 hb8 hz8 O8
                have E := E.trans e8
                replace G7 := G7.ext e8
                replace O1 := O1.ext e8
                replace O2 := O2.ext e8
                replace O3 := O3.ext e8
                replace O6 := O6.ext e8
                have F := F.trans e8
                refine h_ready (rs := [11]) (by kernel_rfl) (by decide) ⟨?_, trivial⟩
                ·
                  refine hs_appT (bytes := 48) (nm := n) G7 (by rfl) (by rfl) elem77 (H.ext E) (H.ext E).nil (by intro y hy; rfl) (by intro y hy u hu; simp only [Handing.cells, List.mem_cons, List.not_mem_nil, or_false] at hu; rcases hu with rfl | rfl | rfl | rfl <;> rfl) (by omega) (by omega) (by omega) (by omega) F (by omega) rfl rfl rfl ?_
                  intro p9 c9_ w9 m9 k9 G9
                  have hz9 := m9.size
                  have E := m9.toExt E (by omega)
                  have F := m9.toExt F (by omega)
                  replace O1 := k9 _ _ _ (by decide) O1
                  try replace O2 := m9.own O2 (by omega)
                  replace O3 := k9 _ _ _ (by decide) O3
                  replace O6 := k9 _ _ _ (by decide) O6
                  try replace O8 := m9.own O8 (by omega)
                  refine h_ready (rs := [14]) (by kernel_rfl) (by decide) ⟨?_, trivial⟩
                  ·
                    refine hs_appT (bytes := 48) (nm := (n + 1)) G9 (by rfl) (by rfl) elem77 (Own.sl1 (y := r) O8) (by intro h; cases h) (by intro y hy; rfl) (by intro y hy u hu; rw [List.mem_singleton] at hy; subst hy; revert u; simp [Value.oneCell', Handing.cells]) (by omega) (by omega) (by omega) (by omega) F (by omega) rfl rfl rfl ?_
                    intro p10 c10_ w10 m10 k10 G10
                    have hz10 := m10.size
                    have E := m10.toExt E (by omega)
                    have F := m10.toExt F (by omega)
                    replace O1 := k10 _ _ _ (by decide) O1
                    try replace O2 := m10.own O2 (by omega)
                    replace O3 := k10 _ _ _ (by decide) O3
                    replace O6 := k10 _ _ _ (by decide) O6
                    try replace O8 := m10.own O8 (by omega)
                    refine h_take 15 rfl (by kernel_rfl) (by kernel_rfl) (by kernel_rfl) (fun w' x_ => xbuild (vs := [.string x.Code, .string x.Found, .int .i64 x.Day, .int .i64 x.Seal, .slice p10 (n + 1) c10_]) (cells := #[.string x.Code, .string x.Found, .int .i64 x.Day, .int .i64 x.Seal, .slice p10 (n + 1) c10_]) rfl (by kernel_rfl)) rfl rfl rfl F ?_
                    refine h_ready (rs := [17]) (by kernel_rfl) (by decide) ⟨?_, trivial⟩
                    ·
                      refine hs_storeN (vs := [.string x.Code, .string x.Found, .int .i64 x.Day, .int .i64 x.Seal, .slice p10 (n + 1) c10_]) Try.sizeOf49 rfl rfl O6 rfl (by simp) (by simp [Value.oneCell']) F (by omega) rfl rfl ?_
                      intro w11 on11 O11
                      have hz11 := on11.size
                      have E := on11.ext E (by omega)
                      replace G10 := G10.onlyT O6 (by decide) on11
                      replace O1 := on11.own O1 (by omega)
                      replace O2 := on11.own O2 (by omega)
                      replace O3 := on11.own O3 (by omega)
                      have F := on11.ext F (by omega)
                      replace O11 : Own w11 b6 [.string x.Code, .string x.Found, .int .i64 x.Day, .int .i64 x.Seal, .slice p10 (n + 1) c10_] 49 := O11
                      refine h_done (by kernel_rfl) ?_
                      intro a_ ha_
                      exact ⟨(p10, c10_, b6), ⟨F, ⟨G10.wide (by omega) (by omega), by omega, O11⟩⟩, ha_.sub ⟨rfl, rfl, rfl, trivial⟩⟩
            ·
              refine hs_build (len := 1) (vs := [.agg #[.int .i64 r.Day, .string r.From, .string r.To, .int .i64 r.Seal]]) (cs := [.int .i64 r.Day, .string r.From, .string r.To, .int .i64 r.Seal]) (sz := 4) Try.underlying47 inf77 rfl rfl (by decide) (by rfl) (by rfl) (by simp [Value.cells]) rfl F rfl rfl rfl ?_
              intro b7 w7 e7 hb7 hz7 O7
              have E := E.trans e7
              replace O1 := O1.ext e7
              replace O2 := O2.ext e7
              replace O3 := O3.ext e7
              replace O6 := O6.ext e7
              have F := F.trans e7
              refine h_ready (rs := [8]) (by kernel_rfl) (by decide) ⟨?_, trivial⟩
              ·
                refine hs_build (len := 0) (vs := []) (cs := []) (sz := 4) Try.underlying47 inf77 rfl rfl (by decide) (by rfl) (by rfl) (by simp [Value.cells]) rfl F rfl rfl rfl ?_
                intro b8 w8 e8 hb8 hz8 O8
                have E := E.trans e8
                replace O1 := O1.ext e8
                replace O2 := O2.ext e8
                replace O3 := O3.ext e8
                replace O6 := O6.ext e8
                replace O7 := O7.ext e8
                have G8 : Ow Handing.cells 4 77 w8 b8 (b8 + 1) (some ⟨b8, 0, none⟩) 0 0 ([] : List Handing) := Own.ow (by simpa [Handing.cells] using O8) rfl (by omega) (Nat.le_refl _) (by omega) (by intro x hx; rfl)
                have F := F.trans e8
                refine h_ready (rs := [11]) (by kernel_rfl) (by decide) ⟨?_, trivial⟩
                ·
                  refine hs_appT (bytes := 48) (nm := n) G8 (by rfl) (by rfl) elem77 (H.ext E) (H.ext E).nil (by intro y hy; rfl) (by intro y hy u hu; simp only [Handing.cells, List.mem_cons, List.not_mem_nil, or_false] at hu; rcases hu with rfl | rfl | rfl | rfl <;> rfl) (by omega) (by omega) (by omega) (by omega) F (by omega) rfl rfl rfl ?_
                  intro p9 c9_ w9 m9 k9 G9
                  have hz9 := m9.size
                  have E := m9.toExt E (by omega)
                  have F := m9.toExt F (by omega)
                  replace O1 := k9 _ _ _ (by decide) O1
                  try replace O2 := m9.own O2 (by omega)
                  replace O3 := k9 _ _ _ (by decide) O3
                  replace O6 := k9 _ _ _ (by decide) O6
                  try replace O7 := m9.own O7 (by omega)
                  refine h_ready (rs := [14]) (by kernel_rfl) (by decide) ⟨?_, trivial⟩
                  ·
                    refine hs_appT (bytes := 48) (nm := (n + 1)) G9 (by rfl) (by rfl) elem77 (Own.sl1 (y := r) O7) (by intro h; cases h) (by intro y hy; rfl) (by intro y hy u hu; rw [List.mem_singleton] at hy; subst hy; revert u; simp [Value.oneCell', Handing.cells]) (by omega) (by omega) (by omega) (by omega) F (by omega) rfl rfl rfl ?_
                    intro p10 c10_ w10 m10 k10 G10
                    have hz10 := m10.size
                    have E := m10.toExt E (by omega)
                    have F := m10.toExt F (by omega)
                    replace O1 := k10 _ _ _ (by decide) O1
                    try replace O2 := m10.own O2 (by omega)
                    replace O3 := k10 _ _ _ (by decide) O3
                    replace O6 := k10 _ _ _ (by decide) O6
                    try replace O7 := m10.own O7 (by omega)
                    refine h_take 15 rfl (by kernel_rfl) (by kernel_rfl) (by kernel_rfl) (fun w' x_ => xbuild (vs := [.string x.Code, .string x.Found, .int .i64 x.Day, .int .i64 x.Seal, .slice p10 (n + 1) c10_]) (cells := #[.string x.Code, .string x.Found, .int .i64 x.Day, .int .i64 x.Seal, .slice p10 (n + 1) c10_]) rfl (by kernel_rfl)) rfl rfl rfl F ?_
                    refine h_ready (rs := [17]) (by kernel_rfl) (by decide) ⟨?_, trivial⟩
                    ·
                      refine hs_storeN (vs := [.string x.Code, .string x.Found, .int .i64 x.Day, .int .i64 x.Seal, .slice p10 (n + 1) c10_]) Try.sizeOf49 rfl rfl O6 rfl (by simp) (by simp [Value.oneCell']) F (by omega) rfl rfl ?_
                      intro w11 on11 O11
                      have hz11 := on11.size
                      have E := on11.ext E (by omega)
                      replace G10 := G10.onlyT O6 (by decide) on11
                      replace O1 := on11.own O1 (by omega)
                      replace O2 := on11.own O2 (by omega)
                      replace O3 := on11.own O3 (by omega)
                      have F := on11.ext F (by omega)
                      replace O11 : Own w11 b6 [.string x.Code, .string x.Found, .int .i64 x.Day, .int .i64 x.Seal, .slice p10 (n + 1) c10_] 49 := O11
                      refine h_done (by kernel_rfl) ?_
                      intro a_ ha_
                      exact ⟨(p10, c10_, b6), ⟨F, ⟨G10.wide (by omega) (by omega), by omega, O11⟩⟩, ha_.sub ⟨rfl, rfl, rfl, trivial⟩⟩
        · intro x_
          obtain ⟨q, d, b6⟩ := x_
          rintro w6 ⟨e6, G5, hb6, OX6⟩
          have z6 := e6.size
          have E := E.trans e6
          replace O1 := O1.ext e6
          replace O2 := O2.ext e6
          replace O3 := O3.ext e6
          refine run_seq ?_
          refine run_seq ?_
          refine run_region ?_
          refine ov (v := .agg #[.string x.Code, .string x.Found, .int .i64 x.Day, .int .i64 x.Seal, .slice q (n + 1) d]) (xloadN Try.isAgg49 Try.sizeOf49 rfl (OX6.cells) rfl) rfl rfl rfl ?_
          refine oc (xcall Try.call103 rfl) rfl rfl rfl (l23Break_ok _ _ _ (putH x r) _ (G5.sl)) ?_
          rintro _ w7 ⟨rfl, e7⟩
          have z7 := e7.size
          have E := E.trans e7
          replace G5 := G5.ext e7
          replace O1 := O1.ext e7
          replace O2 := O2.ext e7
          replace O3 := O3.ext e7
          replace OX6 := OX6.ext e7
          refine ov (xgeq rfl rfl _ rfl) rfl rfl rfl ?_
          refine ods (fun c39 => ?_) (fun c39 => ?_)
          ·
            refine ops_nil ?_
            refine run_cond_t rfl ?_
            refine run_seq ?_
            refine run_region ?_
            refine ov (xbuild (vs := []) (cells := #[.string ⟨#[]⟩, .string ⟨#[]⟩, .int .i64 0, .int .i64 0, .slice none 0 0]) rfl (by kernel_rfl)) rfl rfl rfl ?_
            refine ostoreN (vs := _) Try.sizeOf49 rfl rfl O3 rfl (by simp) (by simp [Value.oneCell']) rfl ?_
            intro w8 on8 O8
            have hz8 := on8.size
            have E := on8.ext E (by omega)
            replace G5 := G5.only on8 (by omega)
            replace O1 := on8.own O1 (by omega)
            replace O2 := on8.own O2 (by omega)
            replace OX6 := on8.own OX6 (by omega)
            replace O8 : Own w8 b3 [.string ⟨#[]⟩, .string ⟨#[]⟩, .int .i64 0, .int .i64 0, .slice none 0 0] 49 := O8
            refine ov (xassign rfl) rfl rfl rfl ?_
            refine ops_nil ?_
            refine run_ret Try.func54 (resc2 rfl rfl (run_loadVar_cells Try.isAgg49 Try.sizeOf49 O8.cells rfl) rfl) ?_
            have he : handOver x r = (zX, 5) := by rw [handOver, if_neg (by simp [c8, c12]), if_neg (by omega), if_pos (by omega)]
            exact ⟨_, rfl, E, none, 0, 0, by rw [he]; try rfl, by rw [he]; exact Ow.none _ _ _ _ _ _⟩
          ·
            refine ops_nil ?_
            refine run_cond_f rfl ?_
            refine run_skip ?_
            refine run_seq ?_
            refine run_region ?_
            refine ov (v := .agg #[.string x.Code, .string x.Found, .int .i64 x.Day, .int .i64 x.Seal, .slice q (n + 1) d]) (xloadN Try.isAgg49 Try.sizeOf49 rfl (OX6.cells) rfl) rfl rfl rfl ?_
            refine ostoreN (vs := _) Try.sizeOf49 rfl rfl O3 rfl (by simp) (by simp [Value.oneCell']) rfl ?_
            intro w8 on8 O8
            have hz8 := on8.size
            have E := on8.ext E (by omega)
            replace G5 := G5.only on8 (by omega)
            replace O1 := on8.own O1 (by omega)
            replace O2 := on8.own O2 (by omega)
            replace OX6 := on8.own OX6 (by omega)
            replace O8 : Own w8 b3 [.string x.Code, .string x.Found, .int .i64 x.Day, .int .i64 x.Seal, .slice q (n + 1) d] 49 := O8
            refine ov (xassign rfl) rfl rfl rfl ?_
            refine ops_nil ?_
            refine run_ret Try.func54 (resc2 rfl rfl (run_loadVar_cells Try.isAgg49 Try.sizeOf49 O8.cells rfl) rfl) ?_
            have he : handOver x r = (putH x r, 0) := by rw [handOver, if_neg (by simp [c8, c12]), if_neg (by omega), if_neg (by omega)]
            exact ⟨_, rfl, E, q, n + 1, d, by rw [he]; try rfl, by rw [he]; exact G5.wide (by omega) (by omega)⟩
    ·
      refine ov (xnot rfl) rfl rfl rfl ?_
      refine ov (xpick_f rfl rfl) rfl rfl rfl ?_
      refine ops_nil ?_
      refine run_cond_t rfl ?_
      refine run_seq ?_
      refine run_region ?_
      refine ov (xbuild (vs := []) (cells := #[.string ⟨#[]⟩, .string ⟨#[]⟩, .int .i64 0, .int .i64 0, .slice none 0 0]) rfl (by kernel_rfl)) rfl rfl rfl ?_
      refine ostoreN (vs := _) Try.sizeOf49 rfl rfl O3 rfl (by simp) (by simp [Value.oneCell']) rfl ?_
      intro w6 on6 O6
      have hz6 := on6.size
      have E := on6.ext E (by omega)
      replace O1 := on6.own O1 (by omega)
      replace O2 := on6.own O2 (by omega)
      replace O6 : Own w6 b3 [.string ⟨#[]⟩, .string ⟨#[]⟩, .int .i64 0, .int .i64 0, .slice none 0 0] 49 := O6
      refine ov (xassign rfl) rfl rfl rfl ?_
      refine ops_nil ?_
      refine run_ret Try.func54 (resc2 rfl rfl (run_loadVar_cells Try.isAgg49 Try.sizeOf49 O6.cells rfl) rfl) ?_
      have he : handOver x r = (zX, 1) := by rw [handOver, if_pos (by simp [c12])]
      exact ⟨_, rfl, E, none, 0, 0, by rw [he]; try rfl, by rw [he]; exact Ow.none _ _ _ _ _ _⟩
  ·
    refine ov (xnot rfl) rfl rfl rfl ?_
    refine ov (xmove rfl) rfl rfl rfl ?_
    refine og rfl rfl rfl ?_
    refine og rfl rfl rfl ?_
    refine og rfl rfl rfl ?_
    refine ov (xpick_t rfl rfl) rfl rfl rfl ?_
    refine ops_nil ?_
    refine run_cond_t rfl ?_
    refine run_seq ?_
    refine run_region ?_
    refine ov (xbuild (vs := []) (cells := #[.string ⟨#[]⟩, .string ⟨#[]⟩, .int .i64 0, .int .i64 0, .slice none 0 0]) rfl (by kernel_rfl)) rfl rfl rfl ?_
    refine ostoreN (vs := _) Try.sizeOf49 rfl rfl O3 rfl (by simp) (by simp [Value.oneCell']) rfl ?_
    intro w5 on5 O5
    have hz5 := on5.size
    have E := on5.ext E (by omega)
    replace O1 := on5.own O1 (by omega)
    replace O2 := on5.own O2 (by omega)
    replace O5 : Own w5 b3 [.string ⟨#[]⟩, .string ⟨#[]⟩, .int .i64 0, .int .i64 0, .slice none 0 0] 49 := O5
    refine ov (xassign rfl) rfl rfl rfl ?_
    refine ops_nil ?_
    refine run_ret Try.func54 (resc2 rfl rfl (run_loadVar_cells Try.isAgg49 Try.sizeOf49 O5.cells rfl) rfl) ?_
    have he : handOver x r = (zX, 1) := by rw [handOver, if_pos (by simp [c8])]
    exact ⟨_, rfl, E, none, 0, 0, by rw [he]; try rfl, by rw [he]; exact Ow.none _ _ _ _ _ _⟩
end Go.Proofs.Ytnjohcbamblilaa
