/-
  Adding a ruling. No condition beyond those written in each theorem.
-/
import Derived.Test.YtnjohcbamblilaaRulings
import Derived.Test.YtnjohcbamblilaaMark
namespace Go.Proofs.Ytnjohcbamblilaa
open Go.RowKit
set_option linter.unusedVariables false
set_option linter.unusedSimpArgs false
set_option linter.unusedSectionVars false
set_option maxRecDepth 4000

set_option maxHeartbeats 400000 in
theorem cloneRuling_ok (p : Option Addr) (n c : Nat) (xs : List Ruling) (w : World) (H : Sl Ruling.cells 3 w p n c xs) (hp : p = none → c = 0) (hn2 : n ≤ 1000000000) : Ret Try.prog 98 [.slice p n c] w (fun v w' => Ext w w' ∧ ∃ q c', v = .slice q n c' ∧ Ow Ruling.cells 3 37 w' w.heap.size w'.heap.size q n c' xs) := by
  refine ret_of_run (N := 8) Try.func98 rfl rfl rfl ?_
  have hn := H.len
  have E : Ext w w := Ext.refl w
  refine run_seq ?_
  refine run_region ?_
  refine ov (xassign rfl) rfl rfl rfl ?_
  refine ops_nil ?_
  refine run_seq ?_
  refine run_region ?_
  refine ov (xmove rfl) rfl rfl rfl ?_
  refine ov (xlen Try.underlying25 rfl) rfl rfl rfl ?_
  refine omake0 Ruling.cells (sz := 3) (n := n) Try.underlying25 inf37 rfl rfl rfl rfl rfl (by simp only [Try.t37]; omega) (by omega) rfl rfl ?_
  intro b1 w1 e1 hb1 hz1 G1
  have E := E.trans e1
  refine ov (xmove rfl) rfl rfl rfl ?_
  refine oapp (bytes := 32) (nm := n) G1 rfl rfl elem37 (H.ext E) hp (by intro y hy; rfl) (by intro y hy u hu; revert u; simp [Ruling.cells, Value.oneCell']) (by omega) (by omega) (by omega) (by omega) rfl rfl ?_
  intro p2 c2_ w2 m2 G2
  have hz2 := m2.size
  have E := m2.toExt E (by omega)
  refine ov (xassign rfl) rfl rfl rfl ?_
  refine ops_nil ?_
  refine run_ret Try.func98 (res1 rfl rfl) ?_
  exact ⟨_, rfl, E, _, _, rfl, G2.wide (by omega) (by omega)⟩


def addRuling (xs : List Ruling) (r : Ruling) : List Ruling × Int :=
  if areRulings xs = false then ([], 1) else if xs.length = 20 then ([], 3) else if areRulings (xs ++ [r]) = false then ([], 5) else (xs ++ [r], 0)
theorem addRuling_len (xs : List Ruling) (r : Ruling) : (addRuling xs r).1.length ≤ 20 := by
  unfold addRuling
  split
  · simp
  · split
    · simp
    · split
      · simp
      · rename_i h1 h2 h3
        have : areRulings (xs ++ [r]) = true := by simpa using h3
        simp only [areRulings, Bool.and_eq_true, decide_eq_true_eq] at this
        exact this.2
theorem areRulings_len {xs : List Ruling} (h : areRulings xs = true) : xs.length ≤ 20 := by
  simp only [areRulings, Bool.and_eq_true, decide_eq_true_eq] at h; exact h.2


set_option maxHeartbeats 400000 in
theorem AddRuling_ok (p : Option Addr) (n c : Nat) (xs : List Ruling) (r : Ruling) (w : World) (H : Sl Ruling.cells 3 w p n c xs) (hx : ∀ x ∈ xs, x.Code.size ≤ 9223372036854775807) (hr : r.Code.size ≤ 9223372036854775807) (hp : p = none → c = 0) (hn2 : n ≤ 1000000000) : Ret Try.prog 28 [.slice p n c, .agg #[.int .i64 r.Day, .string r.Code, .int .i64 r.Kind]] w (fun v w' => Ext w w' ∧ ∃ q m d, v = .tuple #[.slice q m d, .int .i64 (addRuling xs r).2] ∧ Ow Ruling.cells 3 37 w' w.heap.size w'.heap.size q m d (addRuling xs r).1) := by
  refine ret_of_run (N := 22) Try.func28 rfl rfl rfl ?_
  have hn := H.len
  have hy : ∀ x ∈ xs ++ [r], x.Code.size ≤ 9223372036854775807 := fun x h => by
    rcases List.mem_append.1 h with h | h
    · exact hx x h
    · obtain rfl : x = r := by simpa using h
      exact hr
  have E : Ext w w := Ext.refl w
  refine run_seq ?_
  refine run_region ?_
  refine obox rfl rfl rfl ?_
  intro b1 w1 e1 hb1 hz1 O1
  have E := E.trans e1
  replace O1 : Own w1 b1 [.int .i64 r.Day, .string r.Code, .int .i64 r.Kind] 37 := O1
  refine ov (xassign rfl) rfl rfl rfl ?_
  refine ov (xassign rfl) rfl rfl rfl ?_
  refine ops_nil ?_
  refine run_seq ?_
  refine run_seq ?_
  refine run_region ?_
  refine ov (xmove rfl) rfl rfl rfl ?_
  refine oc (xcall Try.call21 rfl) rfl rfl rfl (AreRulings_ok _ _ _ _ _ (H.ext E) (by assumption)) ?_
  rintro _ w2 ⟨rfl, e2⟩
  have z2 := e2.size
  have E := E.trans e2
  replace O1 := O1.ext e2
  refine obs (fun c8 => ?_) (fun c8 => ?_)
  ·
    refine ov (xnot rfl) rfl rfl rfl ?_
    refine ops_nil ?_
    refine run_cond_f rfl ?_
    refine run_skip ?_
    refine run_seq ?_
    refine run_seq ?_
    refine run_region ?_
    refine ov (xmove rfl) rfl rfl rfl ?_
    refine ov (xlen Try.underlying25 rfl) rfl rfl rfl ?_
    refine ov (xeql rfl rfl _ rfl) rfl rfl rfl ?_
    refine ods (fun c12 => ?_) (fun c12 => ?_)
    ·
      refine ops_nil ?_
      refine run_cond_t rfl ?_
      refine run_seq ?_
      refine run_region ?_
      refine ov (xassign rfl) rfl rfl rfl ?_
      refine ov (xassign rfl) rfl rfl rfl ?_
      refine ops_nil ?_
      refine run_ret Try.func28 (res2 rfl rfl rfl) ?_
      try rw [show ((n : Int) = 20) = (xs.length = 20) from by rw [hn]; exact propext (by omega)] at c12
      have he : addRuling xs r = ([], 3) := by simp [addRuling, c8, c12]
      exact ⟨_, rfl, E, none, 0, 0, by rw [he], by rw [he]; exact Ow.none _ _ _ _ _ _⟩
    ·
      refine ops_nil ?_
      refine run_cond_f rfl ?_
      refine run_skip ?_
      refine run_seq ?_
      have RE := E
      have RO1 := O1
      refine run_held (ι := Option Addr × Nat) (fun x_ w' => match x_ with | (q, d) => Ext w2 w' ∧ Ow Ruling.cells 3 37 w' w.heap.size w'.heap.size q (n + 1) d (xs ++ [r])) (fun x_ => match x_ with | (q, d) => [(4, .slice none 0 0), (5, .int .i64 0), (6, .slice q (n + 1) d)]) (by kernel_rfl) ?_ ?_
      · intro w0_ F
        have z0_ := F.size
        have E := E.trans F
        replace O1 := O1.ext F
        refine h_take 0 rfl (by kernel_rfl) (by kernel_rfl) (by kernel_rfl) (fun w' x_ => xmove rfl) rfl rfl rfl F ?_
        refine h_take 2 (v := .agg #[.int .i64 r.Day, .string r.Code, .int .i64 r.Kind]) rfl (by kernel_rfl) (by kernel_rfl) (by kernel_rfl) (fun w' x_ => xloadN Try.isAgg37 Try.sizeOf37 rfl ((RO1.cells).ext x_) rfl) rfl rfl rfl F ?_
        refine h_ready (rs := [1, 3]) (by kernel_rfl) (by decide) ⟨?_, ?_, trivial⟩
        ·
          refine hs_call rfl (xcall Try.call98 rfl) rfl rfl rfl (cloneRuling_ok _ _ _ _ _ (H.ext E) H.nil (by omega)) ?_
          rintro _ w3 ⟨e3, q14, c14_, rfl, G14⟩
          have z3 := e3.size
          have E := E.trans e3
          replace O1 := O1.ext e3
          have F := F.trans e3
          refine ⟨F, ?_⟩
          refine h_ready (rs := [3]) (by kernel_rfl) (by decide) ⟨?_, trivial⟩
          ·
            refine hs_build (len := 1) (vs := [.agg #[.int .i64 r.Day, .string r.Code, .int .i64 r.Kind]]) (cs := [.int .i64 r.Day, .string r.Code, .int .i64 r.Kind]) (sz := 3) Try.underlying25 inf37 rfl rfl (by decide) (by rfl) (by rfl) (by simp [Value.cells]) rfl F rfl rfl rfl ?_
            intro b4 w4 e4 hb4 hz4 O4
            have E := E.trans e4
            replace G14 := G14.ext e4
            replace O1 := O1.ext e4
            have F := F.trans e4
            refine h_ready (rs := [4]) (by kernel_rfl) (by decide) ⟨?_, trivial⟩
            ·
              refine hs_app (bytes := 32) (nm := (n + 1)) G14 (by rfl) (by rfl) elem37 (Own.sl1 (y := r) O4) (by intro h; cases h) (by intro y hy; rfl) (by intro y hy u hu; rw [List.mem_singleton] at hy; subst hy; revert u; simp [Value.oneCell', Ruling.cells]) (by omega) (by omega) (by omega) (by omega) F (by omega) rfl rfl rfl ?_
              intro p5 c5_ w5 m5 G5
              have hz5 := m5.size
              have E := m5.toExt E (by omega)
              have F := m5.toExt F (by omega)
              try replace O1 := m5.own O1 (by omega)
              try replace O4 := m5.own O4 (by omega)
              refine h_take 5 rfl (by kernel_rfl) (by kernel_rfl) (by kernel_rfl) (fun w' x_ => xassign rfl) rfl rfl rfl F ?_
              refine h_done (by kernel_rfl) ?_
              intro a_ ha_
              exact ⟨(p5, c5_), ⟨F, G5.wide (by omega) (Nat.le_refl _)⟩, ha_.sub ⟨rfl, rfl, rfl, trivial⟩⟩
        ·
          refine hs_build (len := 1) (vs := [.agg #[.int .i64 r.Day, .string r.Code, .int .i64 r.Kind]]) (cs := [.int .i64 r.Day, .string r.Code, .int .i64 r.Kind]) (sz := 3) Try.underlying25 inf37 rfl rfl (by decide) (by rfl) (by rfl) (by simp [Value.cells]) rfl F rfl rfl rfl ?_
          intro b3 w3 e3 hb3 hz3 O3
          have E := E.trans e3
          replace O1 := O1.ext e3
          have F := F.trans e3
          refine h_ready (rs := [1]) (by kernel_rfl) (by decide) ⟨?_, trivial⟩
          ·
            refine hs_call rfl (xcall Try.call98 rfl) rfl rfl rfl (cloneRuling_ok _ _ _ _ _ (H.ext E) H.nil (by omega)) ?_
            rintro _ w4 ⟨e4, q14, c14_, rfl, G14⟩
            have z4 := e4.size
            have E := E.trans e4
            replace O1 := O1.ext e4
            replace O3 := O3.ext e4
            have F := F.trans e4
            refine ⟨F, ?_⟩
            refine h_ready (rs := [4]) (by kernel_rfl) (by decide) ⟨?_, trivial⟩
            ·
              refine hs_app (bytes := 32) (nm := (n + 1)) G14 (by rfl) (by rfl) elem37 (Own.sl1 (y := r) O3) (by intro h; cases h) (by intro y hy; rfl) (by intro y hy u hu; rw [List.mem_singleton] at hy; subst hy; revert u; simp [Value.oneCell', Ruling.cells]) (by omega) (by omega) (by omega) (by omega) F (by omega) rfl rfl rfl ?_
              intro p5 c5_ w5 m5 G5
              have hz5 := m5.size
              have E := m5.toExt E (by omega)
              have F := m5.toExt F (by omega)
              try replace O1 := m5.own O1 (by omega)
              try replace O3 := m5.own O3 (by omega)
              refine h_take 5 rfl (by kernel_rfl) (by kernel_rfl) (by kernel_rfl) (fun w' x_ => xassign rfl) rfl rfl rfl F ?_
              refine h_done (by kernel_rfl) ?_
              intro a_ ha_
              exact ⟨(p5, c5_), ⟨F, G5.wide (by omega) (Nat.le_refl _)⟩, ha_.sub ⟨rfl, rfl, rfl, trivial⟩⟩
      · intro x_
        obtain ⟨q, d⟩ := x_
        rintro w3 ⟨e3, G⟩
        have z3 := e3.size
        have E := E.trans e3
        replace O1 := O1.ext e3
        refine run_seq ?_
        refine run_seq ?_
        refine run_region ?_
        refine ov (xmove rfl) rfl rfl rfl ?_
        refine oc (xcall Try.call21 rfl) rfl rfl rfl (AreRulings_ok _ _ _ _ _ (G.sl) (by assumption)) ?_
        rintro _ w4 ⟨rfl, e4⟩
        have z4 := e4.size
        have E := E.trans e4
        replace G := G.ext e4
        replace O1 := O1.ext e4
        refine obs (fun c19 => ?_) (fun c19 => ?_)
        ·
          refine ov (xnot rfl) rfl rfl rfl ?_
          refine ops_nil ?_
          refine run_cond_f rfl ?_
          refine run_skip ?_
          refine run_seq ?_
          refine run_region ?_
          refine ov (xmove rfl) rfl rfl rfl ?_
          refine ov (xassign rfl) rfl rfl rfl ?_
          refine ov (xassign rfl) rfl rfl rfl ?_
          refine ops_nil ?_
          refine run_ret Try.func28 (res2 rfl rfl rfl) ?_
          try rw [show ((n : Int) = 20) = (xs.length = 20) from by rw [hn]; exact propext (by omega)] at c12
          have he : addRuling xs r = (xs ++ [r], 0) := by simp [addRuling, c8, c12, c19]
          exact ⟨_, rfl, E, _, _, _, by rw [he], by rw [he]; exact G.wide (by omega) (by omega)⟩
        ·
          refine ov (xnot rfl) rfl rfl rfl ?_
          refine ops_nil ?_
          refine run_cond_t rfl ?_
          refine run_seq ?_
          refine run_region ?_
          refine ov (xassign rfl) rfl rfl rfl ?_
          refine ov (xassign rfl) rfl rfl rfl ?_
          refine ops_nil ?_
          refine run_ret Try.func28 (res2 rfl rfl rfl) ?_
          try rw [show ((n : Int) = 20) = (xs.length = 20) from by rw [hn]; exact propext (by omega)] at c12
          have he : addRuling xs r = ([], 5) := by simp [addRuling, c8, c12, c19]
          exact ⟨_, rfl, E, none, 0, 0, by rw [he], by rw [he]; exact Ow.none _ _ _ _ _ _⟩
  ·
    refine ov (xnot rfl) rfl rfl rfl ?_
    refine ops_nil ?_
    refine run_cond_t rfl ?_
    refine run_seq ?_
    refine run_region ?_
    refine ov (xassign rfl) rfl rfl rfl ?_
    refine ov (xassign rfl) rfl rfl rfl ?_
    refine ops_nil ?_
    refine run_ret Try.func28 (res2 rfl rfl rfl) ?_
    try rw [show ((n : Int) = 20) = (xs.length = 20) from by rw [hn]; exact propext (by omega)] at c12
    have he : addRuling xs r = ([], 1) := by simp [addRuling, c8]
    exact ⟨_, rfl, E, none, 0, 0, by rw [he], by rw [he]; exact Ow.none _ _ _ _ _ _⟩

set_option maxHeartbeats 400000 in
theorem sAddRuling_ok (p : Option Addr) (n c : Nat) (xs : List Ruling) (r : Ruling) (w : World) (H : Sl Ruling.cells 3 w p n c xs) (hx : ∀ x ∈ xs, x.Code.size ≤ 9223372036854775807) (hr : r.Code.size ≤ 9223372036854775807) (hp : p = none → c = 0) (hn2 : n ≤ 1000000000) : Ret Try.prog 26 [.slice p n c, .agg #[.int .i64 r.Day, .string r.Code, .int .i64 r.Kind]] w (fun v w' => Ext w w' ∧ ∃ q m d, v = .tuple #[.slice q m d, .int .i64 (addRuling xs r).2] ∧ Ow Ruling.cells 3 37 w' w.heap.size w'.heap.size q m d (addRuling xs r).1) := by
  refine ret_of_run (N := 23) Try.func26 rfl rfl rfl ?_
  have hn := H.len
  have hy : ∀ x ∈ xs ++ [r], x.Code.size ≤ 9223372036854775807 := fun x h => by
    rcases List.mem_append.1 h with h | h
    · exact hx x h
    · obtain rfl : x = r := by simpa using h
      exact hr
  have E : Ext w w := Ext.refl w
  refine run_seq ?_
  refine run_region ?_
  refine obox rfl rfl rfl ?_
  intro b1 w1 e1 hb1 hz1 O1
  have E := E.trans e1
  replace O1 : Own w1 b1 [.int .i64 r.Day, .string r.Code, .int .i64 r.Kind] 37 := O1
  refine ov (xassign rfl) rfl rfl rfl ?_
  refine ov (xassign rfl) rfl rfl rfl ?_
  refine ops_nil ?_
  refine run_seq ?_
  refine run_seq ?_
  refine run_region ?_
  refine ov (xmove rfl) rfl rfl rfl ?_
  refine oc (xcall Try.call19 rfl) rfl rfl rfl (sAreRulings_ok _ _ _ _ _ (H.ext E) (by assumption)) ?_
  rintro _ w2 ⟨rfl, e2⟩
  have z2 := e2.size
  have E := E.trans e2
  replace O1 := O1.ext e2
  refine obs (fun c8 => ?_) (fun c8 => ?_)
  ·
    refine ov (xnot rfl) rfl rfl rfl ?_
    refine ops_nil ?_
    refine run_cond_f rfl ?_
    refine run_skip ?_
    refine run_seq ?_
    refine run_seq ?_
    refine run_region ?_
    refine ov (xmove rfl) rfl rfl rfl ?_
    refine ov (xlen Try.underlying25 rfl) rfl rfl rfl ?_
    refine ov (xeql rfl rfl _ rfl) rfl rfl rfl ?_
    refine ods (fun c12 => ?_) (fun c12 => ?_)
    ·
      refine ops_nil ?_
      refine run_cond_t rfl ?_
      refine run_seq ?_
      refine run_region ?_
      refine ov (xassign rfl) rfl rfl rfl ?_
      refine ov (xassign rfl) rfl rfl rfl ?_
      refine ops_nil ?_
      refine run_ret Try.func26 (res2 rfl rfl rfl) ?_
      try rw [show ((n : Int) = 20) = (xs.length = 20) from by rw [hn]; exact propext (by omega)] at c12
      have he : addRuling xs r = ([], 3) := by simp [addRuling, c8, c12]
      exact ⟨_, rfl, E, none, 0, 0, by rw [he], by rw [he]; exact Ow.none _ _ _ _ _ _⟩
    ·
      refine ops_nil ?_
      refine run_cond_f rfl ?_
      refine run_skip ?_
      refine run_seq ?_
      have RE := E
      have RO1 := O1
      refine run_held (ι := Option Addr × Nat) (fun x_ w' => match x_ with | (q, d) => Ext w2 w' ∧ Ow Ruling.cells 3 37 w' w.heap.size w'.heap.size q (n + 1) d (xs ++ [r])) (fun x_ => match x_ with | (q, d) => [(4, .slice none 0 0), (5, .int .i64 0), (6, .slice q (n + 1) d)]) (by kernel_rfl) ?_ ?_
      · intro w0_ F
        have z0_ := F.size
        have E := E.trans F
        replace O1 := O1.ext F
        refine h_take 1 rfl (by kernel_rfl) (by kernel_rfl) (by kernel_rfl) (fun w' x_ => xmove rfl) rfl rfl rfl F ?_
        refine h_take 3 (v := .agg #[.int .i64 r.Day, .string r.Code, .int .i64 r.Kind]) rfl (by kernel_rfl) (by kernel_rfl) (by kernel_rfl) (fun w' x_ => xloadN Try.isAgg37 Try.sizeOf37 rfl ((RO1.cells).ext x_) rfl) rfl rfl rfl F ?_
        refine h_ready (rs := [0, 4]) (by kernel_rfl) (by decide) ⟨?_, ?_, trivial⟩
        ·
          refine hs_build (len := 0) (vs := []) (cs := []) (sz := 3) Try.underlying25 inf37 rfl rfl (by decide) (by rfl) (by rfl) (by simp [Value.cells]) rfl F rfl rfl rfl ?_
          intro b3 w3 e3 hb3 hz3 O3
          have E := E.trans e3
          replace O1 := O1.ext e3
          have G3 : Ow Ruling.cells 3 37 w3 b3 (b3 + 1) (some ⟨b3, 0, none⟩) 0 0 [] := Own.ow (by simpa [Ruling.cells] using O3) rfl (by omega) (Nat.le_refl _) (by omega) (by intro x hx; rfl)
          have F := F.trans e3
          refine h_ready (rs := [2, 4]) (by kernel_rfl) (by decide) ⟨?_, ?_, trivial⟩
          ·
            refine hs_app (bytes := 32) (nm := n) G3 (by rfl) (by rfl) elem37 (H.ext E) H.nil (by intro y hy; rfl) (by intro y hy u hu; revert u; simp [Ruling.cells, Value.oneCell']) (by omega) (by omega) (by omega) (by omega) F (by omega) rfl rfl rfl ?_
            intro p4 c4_ w4 m4 G4
            have hz4 := m4.size
            have E := m4.toExt E (by omega)
            have F := m4.toExt F (by omega)
            try replace O1 := m4.own O1 (by omega)
            refine h_ready (rs := [4]) (by kernel_rfl) (by decide) ⟨?_, trivial⟩
            ·
              refine hs_build (len := 1) (vs := [.agg #[.int .i64 r.Day, .string r.Code, .int .i64 r.Kind]]) (cs := [.int .i64 r.Day, .string r.Code, .int .i64 r.Kind]) (sz := 3) Try.underlying25 inf37 rfl rfl (by decide) (by rfl) (by rfl) (by simp [Value.cells]) rfl F rfl rfl rfl ?_
              intro b5 w5 e5 hb5 hz5 O5
              have E := E.trans e5
              replace G4 := G4.ext e5
              replace O1 := O1.ext e5
              have F := F.trans e5
              refine h_ready (rs := [5]) (by kernel_rfl) (by decide) ⟨?_, trivial⟩
              ·
                refine hs_app (bytes := 32) (nm := (n + 1)) G4 (by rfl) (by rfl) elem37 (Own.sl1 (y := r) O5) (by intro h; cases h) (by intro y hy; rfl) (by intro y hy u hu; rw [List.mem_singleton] at hy; subst hy; revert u; simp [Value.oneCell', Ruling.cells]) (by omega) (by omega) (by omega) (by omega) F (by omega) rfl rfl rfl ?_
                intro p6 c6_ w6 m6 G6
                have hz6 := m6.size
                have E := m6.toExt E (by omega)
                have F := m6.toExt F (by omega)
                try replace O1 := m6.own O1 (by omega)
                try replace O5 := m6.own O5 (by omega)
                refine h_take 6 rfl (by kernel_rfl) (by kernel_rfl) (by kernel_rfl) (fun w' x_ => xassign rfl) rfl rfl rfl F ?_
                refine h_done (by kernel_rfl) ?_
                intro a_ ha_
                exact ⟨(p6, c6_), ⟨F, G6.wide (by omega) (Nat.le_refl _)⟩, ha_.sub ⟨rfl, rfl, rfl, trivial⟩⟩
          ·
            refine hs_build (len := 1) (vs := [.agg #[.int .i64 r.Day, .string r.Code, .int .i64 r.Kind]]) (cs := [.int .i64 r.Day, .string r.Code, .int .i64 r.Kind]) (sz := 3) Try.underlying25 inf37 rfl rfl (by decide) (by rfl) (by rfl) (by simp [Value.cells]) rfl F rfl rfl rfl ?_
            intro b4 w4 e4 hb4 hz4 O4
            have E := E.trans e4
            replace G3 := G3.ext e4
            replace O1 := O1.ext e4
            have F := F.trans e4
            refine h_ready (rs := [2]) (by kernel_rfl) (by decide) ⟨?_, trivial⟩
            ·
              refine hs_app (bytes := 32) (nm := n) G3 (by rfl) (by rfl) elem37 (H.ext E) H.nil (by intro y hy; rfl) (by intro y hy u hu; revert u; simp [Ruling.cells, Value.oneCell']) (by omega) (by omega) (by omega) (by omega) F (by omega) rfl rfl rfl ?_
              intro p5 c5_ w5 m5 G5
              have hz5 := m5.size
              have E := m5.toExt E (by omega)
              have F := m5.toExt F (by omega)
              try replace O1 := m5.own O1 (by omega)
              try replace O4 := m5.own O4 (by omega)
              refine h_ready (rs := [5]) (by kernel_rfl) (by decide) ⟨?_, trivial⟩
              ·
                refine hs_app (bytes := 32) (nm := (n + 1)) G5 (by rfl) (by rfl) elem37 (Own.sl1 (y := r) O4) (by intro h; cases h) (by intro y hy; rfl) (by intro y hy u hu; rw [List.mem_singleton] at hy; subst hy; revert u; simp [Value.oneCell', Ruling.cells]) (by omega) (by omega) (by omega) (by omega) F (by omega) rfl rfl rfl ?_
                intro p6 c6_ w6 m6 G6
                have hz6 := m6.size
                have E := m6.toExt E (by omega)
                have F := m6.toExt F (by omega)
                try replace O1 := m6.own O1 (by omega)
                try replace O4 := m6.own O4 (by omega)
                refine h_take 6 rfl (by kernel_rfl) (by kernel_rfl) (by kernel_rfl) (fun w' x_ => xassign rfl) rfl rfl rfl F ?_
                refine h_done (by kernel_rfl) ?_
                intro a_ ha_
                exact ⟨(p6, c6_), ⟨F, G6.wide (by omega) (Nat.le_refl _)⟩, ha_.sub ⟨rfl, rfl, rfl, trivial⟩⟩
        ·
          refine hs_build (len := 1) (vs := [.agg #[.int .i64 r.Day, .string r.Code, .int .i64 r.Kind]]) (cs := [.int .i64 r.Day, .string r.Code, .int .i64 r.Kind]) (sz := 3) Try.underlying25 inf37 rfl rfl (by decide) (by rfl) (by rfl) (by simp [Value.cells]) rfl F rfl rfl rfl ?_
          intro b3 w3 e3 hb3 hz3 O3
          have E := E.trans e3
          replace O1 := O1.ext e3
          have F := F.trans e3
          refine h_ready (rs := [0]) (by kernel_rfl) (by decide) ⟨?_, trivial⟩
          ·
            refine hs_build (len := 0) (vs := []) (cs := []) (sz := 3) Try.underlying25 inf37 rfl rfl (by decide) (by rfl) (by rfl) (by simp [Value.cells]) rfl F rfl rfl rfl ?_
            intro b4 w4 e4 hb4 hz4 O4
            have E := E.trans e4
            replace O1 := O1.ext e4
            replace O3 := O3.ext e4
            have G4 : Ow Ruling.cells 3 37 w4 b4 (b4 + 1) (some ⟨b4, 0, none⟩) 0 0 [] := Own.ow (by simpa [Ruling.cells] using O4) rfl (by omega) (Nat.le_refl _) (by omega) (by intro x hx; rfl)
            have F := F.trans e4
            refine h_ready (rs := [2]) (by kernel_rfl) (by decide) ⟨?_, trivial⟩
            ·
              refine hs_app (bytes := 32) (nm := n) G4 (by rfl) (by rfl) elem37 (H.ext E) H.nil (by intro y hy; rfl) (by intro y hy u hu; revert u; simp [Ruling.cells, Value.oneCell']) (by omega) (by omega) (by omega) (by omega) F (by omega) rfl rfl rfl ?_
              intro p5 c5_ w5 m5 G5
              have hz5 := m5.size
              have E := m5.toExt E (by omega)
              have F := m5.toExt F (by omega)
              try replace O1 := m5.own O1 (by omega)
              try replace O3 := m5.own O3 (by omega)
              refine h_ready (rs := [5]) (by kernel_rfl) (by decide) ⟨?_, trivial⟩
              ·
                refine hs_app (bytes := 32) (nm := (n + 1)) G5 (by rfl) (by rfl) elem37 (Own.sl1 (y := r) O3) (by intro h; cases h) (by intro y hy; rfl) (by intro y hy u hu; rw [List.mem_singleton] at hy; subst hy; revert u; simp [Value.oneCell', Ruling.cells]) (by omega) (by omega) (by omega) (by omega) F (by omega) rfl rfl rfl ?_
                intro p6 c6_ w6 m6 G6
                have hz6 := m6.size
                have E := m6.toExt E (by omega)
                have F := m6.toExt F (by omega)
                try replace O1 := m6.own O1 (by omega)
                try replace O3 := m6.own O3 (by omega)
                refine h_take 6 rfl (by kernel_rfl) (by kernel_rfl) (by kernel_rfl) (fun w' x_ => xassign rfl) rfl rfl rfl F ?_
                refine h_done (by kernel_rfl) ?_
                intro a_ ha_
                exact ⟨(p6, c6_), ⟨F, G6.wide (by omega) (Nat.le_refl _)⟩, ha_.sub ⟨rfl, rfl, rfl, trivial⟩⟩
      · intro x_
        obtain ⟨q, d⟩ := x_
        rintro w3 ⟨e3, G⟩
        have z3 := e3.size
        have E := E.trans e3
        replace O1 := O1.ext e3
        refine run_seq ?_
        refine run_seq ?_
        refine run_region ?_
        refine ov (xmove rfl) rfl rfl rfl ?_
        refine oc (xcall Try.call19 rfl) rfl rfl rfl (sAreRulings_ok _ _ _ _ _ (G.sl) (by assumption)) ?_
        rintro _ w4 ⟨rfl, e4⟩
        have z4 := e4.size
        have E := E.trans e4
        replace G := G.ext e4
        replace O1 := O1.ext e4
        refine obs (fun c20 => ?_) (fun c20 => ?_)
        ·
          refine ov (xnot rfl) rfl rfl rfl ?_
          refine ops_nil ?_
          refine run_cond_f rfl ?_
          refine run_skip ?_
          refine run_seq ?_
          refine run_region ?_
          refine ov (xmove rfl) rfl rfl rfl ?_
          refine ov (xassign rfl) rfl rfl rfl ?_
          refine ov (xassign rfl) rfl rfl rfl ?_
          refine ops_nil ?_
          refine run_ret Try.func26 (res2 rfl rfl rfl) ?_
          try rw [show ((n : Int) = 20) = (xs.length = 20) from by rw [hn]; exact propext (by omega)] at c12
          have he : addRuling xs r = (xs ++ [r], 0) := by simp [addRuling, c8, c12, c20]
          exact ⟨_, rfl, E, _, _, _, by rw [he], by rw [he]; exact G.wide (by omega) (by omega)⟩
        ·
          refine ov (xnot rfl) rfl rfl rfl ?_
          refine ops_nil ?_
          refine run_cond_t rfl ?_
          refine run_seq ?_
          refine run_region ?_
          refine ov (xassign rfl) rfl rfl rfl ?_
          refine ov (xassign rfl) rfl rfl rfl ?_
          refine ops_nil ?_
          refine run_ret Try.func26 (res2 rfl rfl rfl) ?_
          try rw [show ((n : Int) = 20) = (xs.length = 20) from by rw [hn]; exact propext (by omega)] at c12
          have he : addRuling xs r = ([], 5) := by simp [addRuling, c8, c12, c20]
          exact ⟨_, rfl, E, none, 0, 0, by rw [he], by rw [he]; exact Ow.none _ _ _ _ _ _⟩
  ·
    refine ov (xnot rfl) rfl rfl rfl ?_
    refine ops_nil ?_
    refine run_cond_t rfl ?_
    refine run_seq ?_
    refine run_region ?_
    refine ov (xassign rfl) rfl rfl rfl ?_
    refine ov (xassign rfl) rfl rfl rfl ?_
    refine ops_nil ?_
    refine run_ret Try.func26 (res2 rfl rfl rfl) ?_
    try rw [show ((n : Int) = 20) = (xs.length = 20) from by rw [hn]; exact propext (by omega)] at c12
    have he : addRuling xs r = ([], 1) := by simp [addRuling, c8]
    exact ⟨_, rfl, E, none, 0, 0, by rw [he], by rw [he]; exact Ow.none _ _ _ _ _ _⟩
end Go.Proofs.Ytnjohcbamblilaa
