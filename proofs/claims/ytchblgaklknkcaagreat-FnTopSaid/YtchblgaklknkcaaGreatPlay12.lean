/-
  Moves, one and many: the walks. No condition beyond those written in each theorem.
-/
import Derived.Test.YtchblgaklknkcaaGreatSel12
namespace Go.Proofs.YtchblgaklknkcaaGreat
open Go.RowKit
set_option linter.unusedVariables false
set_option linter.unusedSimpArgs false
set_option linter.unusedSectionVars false
set_option maxRecDepth 4000
attribute [local irreducible] areTies causeB biasB clr clearP emptyP isPan meas bad overS passCode strCode playS isSel areStr moveCode moveS
theorem mv_pass {z : Sel} {m : Int} (h : m = -1) : moveCode z m = passCode z ∧ moveS z m = passS z := by rw [moveCode, if_pos h, moveS, if_pos h]; exact ⟨rfl, rfl⟩
theorem mv_str {z : Sel} {m : Int} (h : ¬ m = -1) : moveCode z m = strCode z m ∧ moveS z m = strikeS z m := by rw [moveCode, if_neg h, moveS, if_neg h]; exact ⟨rfl, rfl⟩
set_option maxHeartbeats 1000000 in
theorem move_ok (u1 : Option Addr) (n1 v1 : Nat) (u2 : Option Addr) (n2 v2 : Nat) (u3 : Option Addr) (n3 v3 : Nat) (u6 : Option Addr) (n6 v6 : Nat) (z : Sel) (m : Int) (w : World) (H1 : Sl i64c 1 w u1 n1 v1 z.P.S) (H2 : Sl i64c 1 w u2 n2 v2 z.P.W) (H3 : Sl i64c 1 w u3 n3 v3 z.P.G) (H6 : Sl i64c 1 w u6 n6 v6 z.L) (hS : isSel z = true) : Ret Tryz.prog 119 [.agg #[.slice u1 n1 v1, .slice u2 n2 v2, .slice u3 n3 v3, .slice u6 n6 v6, .int .i64 z.T, .int .i64 z.Q], .int .i64 m] w (fun v w' => Ext w w' ∧ ∃ (q1 : Option Addr) (m1 d1 : Nat) (q2 : Option Addr) (m2 d2 : Nat) (q3 : Option Addr) (m3 d3 : Nat) (q6 : Option Addr) (m6 d6 : Nat) (T Q : Int), v = .tuple #[.agg #[.slice q1 m1 d1, .slice q2 m2 d2, .slice q3 m3 d3, .slice q6 m6 d6, .int .i64 T, .int .i64 Q], .int .i64 (moveCode z m)] ∧ (moveCode z m = 0 → T = (moveS z m).T ∧ Q = (moveS z m).Q) ∧ SlC (moveCode z m = 0) w' w.heap.size w'.heap.size q1 m1 d1 ((moveS z m).P.S) ∧ SlC (moveCode z m = 0) w' w.heap.size w'.heap.size q2 m2 d2 ((moveS z m).P.W) ∧ SlC (moveCode z m = 0) w' w.heap.size w'.heap.size q3 m3 d3 ((moveS z m).P.G) ∧ SlC (moveCode z m = 0) w' w.heap.size w'.heap.size q6 m6 d6 ((moveS z m).L)) := by
 refine ret_of_run (N := 17) Tryz.func119 rfl rfl rfl ?_
 have hn1 := H1.len
 have hn2 := H2.len
 have hn3 := H3.len
 have hn6 := H6.len
 obtain ⟨hP, hL, hl2, hT, hQ⟩ := sel_le hS
 have hle := pan_le hP
 have hA := str_at hL 0
 have hB := str_at hL 1
 rw [atI_of (by omega)] at hA hB
 have E : Ext w w := Ext.refl w
 refine sr_ ?_
 refine obox rfl rfl rfl ?_
 intro b1 w1 e1 hb1 hz1 O1
 have E := E.trans e1
 replace O1 : Own w1 b1 [.slice u1 n1 v1, .slice u2 n2 v2, .slice u3 n3 v3, .slice u6 n6 v6, .int .i64 z.T, .int .i64 z.Q] 81 := O1
 refine oalloc Tryz.zeroValue81 rfl rfl ?_
 intro b2 w2 e2 hb2 hz2 O2
 have E := E.trans e2
 replace O1 := O1.ext e2
 replace O2 : Own w2 b2 [.slice none 0 0, .slice none 0 0, .slice none 0 0, .slice none 0 0, .int .i64 0, .int .i64 0] 81 := O2
 refine vn_ rfl rfl rfl ?_
 refine run_seq ?_
 refine sr_ ?_
 refine vm_ rfl rfl rfl ?_
 refine oz_ (xeql rfl rfl _ rfl) rfl rfl ?_
 refine ods (fun c7 => ?_) (fun c7 => ?_)
 ·
  refine ct_ rfl ?_
  refine sr_ ?_
  refine oz_ (v := .agg #[.slice u1 n1 v1, .slice u2 n2 v2, .slice u3 n3 v3, .slice u6 n6 v6, .int .i64 z.T, .int .i64 z.Q]) (xloadN Tryz.isAgg81 Tryz.sizeOf81 rfl (O1.cells) rfl) rfl rfl ?_
  refine oc (xcall Tryz.call133 rfl) rfl rfl rfl (pass_ok _ _ _ _ _ _ _ _ _ _ _ _ z _ (H1.ext E) (H2.ext E) (H3.ext E) (H6.ext E) hS) ?_
  rintro _ w3 ⟨e3, q9_1, m9_1, d9_1, q9_2, m9_2, d9_2, q9_3, m9_3, d9_3, q9_6, m9_6, d9_6, T9, Q9_, rfl, ht9, F9_1, F9_2, F9_3, F9_6⟩
  have z3 := e3.size
  have E := E.trans e3
  replace O2 := O2.ext e3
  refine oz_ (xextract rfl rfl) rfl rfl ?_
  refine oz_ (xextract rfl rfl) rfl rfl ?_
  refine ostoreN (vs := _) Tryz.sizeOf81 rfl rfl O2 rfl (by simp) (by simp [Value.oneCell']) rfl ?_
  intro w4 on4 O4
  have hz4 := on4.size
  have E := on4.ext E (by omega)
  replace F9_1 := F9_1.only on4 (by omega)
  replace F9_2 := F9_2.only on4 (by omega)
  replace F9_3 := F9_3.only on4 (by omega)
  replace F9_6 := F9_6.only on4 (by omega)
  replace O4 : Own w4 b2 [.slice q9_1 m9_1 d9_1, .slice q9_2 m9_2 d9_2, .slice q9_3 m9_3 d9_3, .slice q9_6 m9_6 d9_6, .int .i64 T9, .int .i64 Q9_] 81 := O4
  refine vn_ rfl rfl rfl ?_
  refine run_ret Tryz.func119 (resc2 rfl rfl (run_loadVar_cells Tryz.isAgg81 Tryz.sizeOf81 O4.cells rfl) rfl) ?_
  obtain ⟨he, hz⟩ := mv_pass (z := z) c7
  exact ⟨_, rfl, E, _, _, _, _, _, _, _, _, _, _, _, _, _, _, by rw [he], fun h => by rw [he] at h; rw [hz]; exact ht9 h, ⟨fun h => by rw [he] at h; rw [hz]; exact (F9_1.get h).wide (by omega) (by omega)⟩, ⟨fun h => by rw [he] at h; rw [hz]; exact (F9_2.get h).wide (by omega) (by omega)⟩, ⟨fun h => by rw [he] at h; rw [hz]; exact (F9_3.get h).wide (by omega) (by omega)⟩, ⟨fun h => by rw [he] at h; rw [hz]; exact (F9_6.get h).wide (by omega) (by omega)⟩⟩
 refine cf_ rfl ?_
 refine sr_ ?_
 refine oz_ (v := .agg #[.slice u1 n1 v1, .slice u2 n2 v2, .slice u3 n3 v3, .slice u6 n6 v6, .int .i64 z.T, .int .i64 z.Q]) (xloadN Tryz.isAgg81 Tryz.sizeOf81 rfl (O1.cells) rfl) rfl rfl ?_
 refine vm_ rfl rfl rfl ?_
 refine oc (xcall Tryz.call134 rfl) rfl rfl rfl (strike_ok _ _ _ _ _ _ _ _ _ _ _ _ z m _ (H1.ext E) (H2.ext E) (H3.ext E) (H6.ext E) hS) ?_
 rintro _ w3 ⟨e3, q14_1, m14_1, d14_1, q14_2, m14_2, d14_2, q14_3, m14_3, d14_3, q14_6, m14_6, d14_6, T14, Q14_, rfl, ht14, F14_1, F14_2, F14_3, F14_6⟩
 have z3 := e3.size
 have E := E.trans e3
 replace O2 := O2.ext e3
 refine oz_ (xextract rfl rfl) rfl rfl ?_
 refine oz_ (xextract rfl rfl) rfl rfl ?_
 refine ostoreN (vs := _) Tryz.sizeOf81 rfl rfl O2 rfl (by simp) (by simp [Value.oneCell']) rfl ?_
 intro w4 on4 O4
 have hz4 := on4.size
 have E := on4.ext E (by omega)
 replace F14_1 := F14_1.only on4 (by omega)
 replace F14_2 := F14_2.only on4 (by omega)
 replace F14_3 := F14_3.only on4 (by omega)
 replace F14_6 := F14_6.only on4 (by omega)
 replace O4 : Own w4 b2 [.slice q14_1 m14_1 d14_1, .slice q14_2 m14_2 d14_2, .slice q14_3 m14_3 d14_3, .slice q14_6 m14_6 d14_6, .int .i64 T14, .int .i64 Q14_] 81 := O4
 refine vn_ rfl rfl rfl ?_
 refine run_ret Tryz.func119 (resc2 rfl rfl (run_loadVar_cells Tryz.isAgg81 Tryz.sizeOf81 O4.cells rfl) rfl) ?_
 obtain ⟨he, hz⟩ := mv_str (z := z) c7
 exact ⟨_, rfl, E, _, _, _, _, _, _, _, _, _, _, _, _, _, _, by rw [he], fun h => by rw [he] at h; rw [hz]; exact ht14 h, ⟨fun h => by rw [he] at h; rw [hz]; exact (F14_1.get h).wide (by omega) (by omega)⟩, ⟨fun h => by rw [he] at h; rw [hz]; exact (F14_2.get h).wide (by omega) (by omega)⟩, ⟨fun h => by rw [he] at h; rw [hz]; exact (F14_3.get h).wide (by omega) (by omega)⟩, ⟨fun h => by rw [he] at h; rw [hz]; exact (F14_6.get h).wide (by omega) (by omega)⟩⟩
set_option maxHeartbeats 1000000 in
theorem l14Move_ok (u1 : Option Addr) (n1 v1 : Nat) (u2 : Option Addr) (n2 v2 : Nat) (u3 : Option Addr) (n3 v3 : Nat) (u6 : Option Addr) (n6 v6 : Nat) (z : Sel) (m : Int) (w : World) (H1 : Sl i64c 1 w u1 n1 v1 z.P.S) (H2 : Sl i64c 1 w u2 n2 v2 z.P.W) (H3 : Sl i64c 1 w u3 n3 v3 z.P.G) (H6 : Sl i64c 1 w u6 n6 v6 z.L) (hS : isSel z = true) : Ret Tryz.prog 103 [.agg #[.slice u1 n1 v1, .slice u2 n2 v2, .slice u3 n3 v3, .slice u6 n6 v6, .int .i64 z.T, .int .i64 z.Q], .int .i64 m] w (fun v w' => Ext w w' ∧ ∃ (q1 : Option Addr) (m1 d1 : Nat) (q2 : Option Addr) (m2 d2 : Nat) (q3 : Option Addr) (m3 d3 : Nat) (q6 : Option Addr) (m6 d6 : Nat) (T Q : Int), v = .tuple #[.agg #[.slice q1 m1 d1, .slice q2 m2 d2, .slice q3 m3 d3, .slice q6 m6 d6, .int .i64 T, .int .i64 Q], .int .i64 (moveCode z m)] ∧ (moveCode z m = 0 → T = (moveS z m).T ∧ Q = (moveS z m).Q) ∧ SlC (moveCode z m = 0) w' w.heap.size w'.heap.size q1 m1 d1 ((moveS z m).P.S) ∧ SlC (moveCode z m = 0) w' w.heap.size w'.heap.size q2 m2 d2 ((moveS z m).P.W) ∧ SlC (moveCode z m = 0) w' w.heap.size w'.heap.size q3 m3 d3 ((moveS z m).P.G) ∧ SlC (moveCode z m = 0) w' w.heap.size w'.heap.size q6 m6 d6 ((moveS z m).L)) := by
 refine ret_of_run (N := 22) Tryz.func103 rfl rfl rfl ?_
 have hn1 := H1.len
 have hn2 := H2.len
 have hn3 := H3.len
 have hn6 := H6.len
 obtain ⟨hP, hL, hl2, hT, hQ⟩ := sel_le hS
 have hle := pan_le hP
 have hA := str_at hL 0
 have hB := str_at hL 1
 rw [atI_of (by omega)] at hA hB
 have E : Ext w w := Ext.refl w
 refine sr_ ?_
 refine obox rfl rfl rfl ?_
 intro b1 w1 e1 hb1 hz1 O1
 have E := E.trans e1
 replace O1 : Own w1 b1 [.slice u1 n1 v1, .slice u2 n2 v2, .slice u3 n3 v3, .slice u6 n6 v6, .int .i64 z.T, .int .i64 z.Q] 81 := O1
 refine oalloc Tryz.zeroValue81 rfl rfl ?_
 intro b2 w2 e2 hb2 hz2 O2
 have E := E.trans e2
 replace O1 := O1.ext e2
 replace O2 : Own w2 b2 [.slice none 0 0, .slice none 0 0, .slice none 0 0, .slice none 0 0, .int .i64 0, .int .i64 0] 81 := O2
 refine vn_ rfl rfl rfl ?_
 refine run_seq ?_
 refine sr_ ?_
 refine vm_ rfl rfl rfl ?_
 refine oz_ (xneq rfl rfl _ rfl) rfl rfl ?_
 refine ods (fun c8 => ?_) (fun c8 => ?_)
 ·
  refine ct_ rfl ?_
  refine sr_ ?_
  refine oz_ (v := .agg #[.slice u1 n1 v1, .slice u2 n2 v2, .slice u3 n3 v3, .slice u6 n6 v6, .int .i64 z.T, .int .i64 z.Q]) (xloadN Tryz.isAgg81 Tryz.sizeOf81 rfl (O1.cells) rfl) rfl rfl ?_
  refine vm_ rfl rfl rfl ?_
  refine oc (xcall Tryz.call120 rfl) rfl rfl rfl (l14Strike_ok _ _ _ _ _ _ _ _ _ _ _ _ z m _ (H1.ext E) (H2.ext E) (H3.ext E) (H6.ext E) hS) ?_
  rintro _ w3 ⟨e3, q11_1, m11_1, d11_1, q11_2, m11_2, d11_2, q11_3, m11_3, d11_3, q11_6, m11_6, d11_6, T11, Q11_, rfl, ht11, F11_1, F11_2, F11_3, F11_6⟩
  have z3 := e3.size
  have E := E.trans e3
  replace O2 := O2.ext e3
  refine oz_ (xextract rfl rfl) rfl rfl ?_
  refine oz_ (xextract rfl rfl) rfl rfl ?_
  refine ostoreN (vs := _) Tryz.sizeOf81 rfl rfl O2 rfl (by simp) (by simp [Value.oneCell']) rfl ?_
  intro w4 on4 O4
  have hz4 := on4.size
  have E := on4.ext E (by omega)
  replace F11_1 := F11_1.only on4 (by omega)
  replace F11_2 := F11_2.only on4 (by omega)
  replace F11_3 := F11_3.only on4 (by omega)
  replace F11_6 := F11_6.only on4 (by omega)
  replace O4 : Own w4 b2 [.slice q11_1 m11_1 d11_1, .slice q11_2 m11_2 d11_2, .slice q11_3 m11_3 d11_3, .slice q11_6 m11_6 d11_6, .int .i64 T11, .int .i64 Q11_] 81 := O4
  refine vn_ rfl rfl rfl ?_
  refine run_ret Tryz.func103 (resc2 rfl rfl (run_loadVar_cells Tryz.isAgg81 Tryz.sizeOf81 O4.cells rfl) rfl) ?_
  obtain ⟨he, hz⟩ := mv_str (z := z) c8
  exact ⟨_, rfl, E, _, _, _, _, _, _, _, _, _, _, _, _, _, _, by rw [he], fun h => by rw [he] at h; rw [hz]; exact ht11 h, ⟨fun h => by rw [he] at h; rw [hz]; exact (F11_1.get h).wide (by omega) (by omega)⟩, ⟨fun h => by rw [he] at h; rw [hz]; exact (F11_2.get h).wide (by omega) (by omega)⟩, ⟨fun h => by rw [he] at h; rw [hz]; exact (F11_3.get h).wide (by omega) (by omega)⟩, ⟨fun h => by rw [he] at h; rw [hz]; exact (F11_6.get h).wide (by omega) (by omega)⟩⟩
 refine cf_ rfl ?_
 refine sr_ ?_
 refine oz_ (v := .agg #[.slice u1 n1 v1, .slice u2 n2 v2, .slice u3 n3 v3, .slice u6 n6 v6, .int .i64 z.T, .int .i64 z.Q]) (xloadN Tryz.isAgg81 Tryz.sizeOf81 rfl (O1.cells) rfl) rfl rfl ?_
 refine oc (xcall Tryz.call121 rfl) rfl rfl rfl (l14Code_ok _ _ _ _ _ _ _ _ _ _ _ _ z _ (H1.ext E) (H2.ext E) (H3.ext E) (H6.ext E) hS) ?_
 rintro _ w3 ⟨rfl, e3⟩
 have z3 := e3.size
 have E := E.trans e3
 replace O1 := O1.ext e3
 replace O2 := O2.ext e3
 refine vn_ rfl rfl rfl ?_
 refine run_seq ?_
 refine sr_ ?_
 refine vm_ rfl rfl rfl ?_
 refine oz_ (xneq rfl rfl _ rfl) rfl rfl ?_
 refine ods (fun c17 => ?_) (fun c17 => ?_)
 ·
  refine ct_ rfl ?_
  refine sr_ ?_
  refine oz_ (v := .agg #[.slice u1 n1 v1, .slice u2 n2 v2, .slice u3 n3 v3, .slice u6 n6 v6, .int .i64 z.T, .int .i64 z.Q]) (xloadN Tryz.isAgg81 Tryz.sizeOf81 rfl (O1.cells) rfl) rfl rfl ?_
  refine vm_ rfl rfl rfl ?_
  refine ostoreN (vs := _) Tryz.sizeOf81 rfl rfl O2 rfl (by simp) (by simp [Value.oneCell']) rfl ?_
  intro w4 on4 O4
  have hz4 := on4.size
  have E := on4.ext E (by omega)
  replace O4 : Own w4 b2 [.slice u1 n1 v1, .slice u2 n2 v2, .slice u3 n3 v3, .slice u6 n6 v6, .int .i64 z.T, .int .i64 z.Q] 81 := O4
  refine vn_ rfl rfl rfl ?_
  refine run_ret Tryz.func103 (resc2 rfl rfl (run_loadVar_cells Tryz.isAgg81 Tryz.sizeOf81 O4.cells rfl) rfl) ?_
  obtain ⟨he, hz⟩ := mv_pass (z := z) (show m = -1 by omega)
  have hov := c17
  exact ⟨_, rfl, E, _, _, _, _, _, _, _, _, _, _, _, _, _, _, by rw [he], fun h => by rw [he] at h; exact absurd h hov, ⟨fun h => by rw [he] at h; exact absurd h hov⟩, ⟨fun h => by rw [he] at h; exact absurd h hov⟩, ⟨fun h => by rw [he] at h; exact absurd h hov⟩, ⟨fun h => by rw [he] at h; exact absurd h hov⟩⟩
 refine cf_ rfl ?_
 refine sr_ ?_
 refine oz_ (v := .agg #[.slice u1 n1 v1, .slice u2 n2 v2, .slice u3 n3 v3, .slice u6 n6 v6, .int .i64 z.T, .int .i64 z.Q]) (xloadN Tryz.isAgg81 Tryz.sizeOf81 rfl (O1.cells) rfl) rfl rfl ?_
 refine oc (xcall Tryz.call122 rfl) rfl rfl rfl (l14Pass_ok _ _ _ _ _ _ _ _ _ _ _ _ z _ (H1.ext E) (H2.ext E) (H3.ext E) (H6.ext E) hS) ?_
 rintro _ w4 ⟨e4, q21_1, m21_1, d21_1, q21_2, m21_2, d21_2, q21_3, m21_3, d21_3, q21_6, m21_6, d21_6, rfl, F21_1, F21_2, F21_3, F21_6⟩
 have z4 := e4.size
 have E := E.trans e4
 replace O2 := O2.ext e4
 have lF21_1 := F21_1.sl.len
 have lF21_2 := F21_2.sl.len
 have lF21_3 := F21_3.sl.len
 have lF21_6 := F21_6.sl.len
 refine ostoreN (vs := _) Tryz.sizeOf81 rfl rfl O2 rfl (by simp) (by simp [Value.oneCell']) rfl ?_
 intro w5 on5 O5
 have hz5 := on5.size
 have E := on5.ext E (by omega)
 replace F21_1 := F21_1.only on5 (by omega)
 replace F21_2 := F21_2.only on5 (by omega)
 replace F21_3 := F21_3.only on5 (by omega)
 replace F21_6 := F21_6.only on5 (by omega)
 replace O5 : Own w5 b2 [.slice q21_1 m21_1 d21_1, .slice q21_2 m21_2 d21_2, .slice q21_3 m21_3 d21_3, .slice q21_6 m21_6 d21_6, .int .i64 (1 - z.T), .int .i64 (z.Q + 1)] 81 := O5
 refine vn_ rfl rfl rfl ?_
 refine run_ret Tryz.func103 (resc2 rfl rfl (run_loadVar_cells Tryz.isAgg81 Tryz.sizeOf81 O5.cells rfl) rfl) ?_
 obtain ⟨he, hz⟩ := mv_pass (z := z) (show m = -1 by omega)
 exact ⟨_, rfl, E, _, _, _, _, _, _, _, _, _, _, _, _, (1 - z.T), (z.Q + 1), by rw [he, show passCode z = 0 by omega], fun h => by rw [hz]; exact ⟨rfl, rfl⟩, ⟨fun h => by rw [hz]; exact (F21_1.wide (by omega) (by omega))⟩, ⟨fun h => by rw [hz]; exact (F21_2.wide (by omega) (by omega))⟩, ⟨fun h => by rw [hz]; exact (F21_3.wide (by omega) (by omega))⟩, ⟨fun h => by rw [hz]; exact (F21_6.wide (by omega) (by omega))⟩⟩
set_option maxHeartbeats 4000000 in
theorem play_ok (u1 : Option Addr) (n1 v1 : Nat) (u2 : Option Addr) (n2 v2 : Nat) (u3 : Option Addr) (n3 v3 : Nat) (u6 : Option Addr) (n6 v6 : Nat) (z : Sel) (u7 : Option Addr) (n7 v7 : Nat) (ms : List Int) (w : World) (H1 : Sl i64c 1 w u1 n1 v1 z.P.S) (H2 : Sl i64c 1 w u2 n2 v2 z.P.W) (H3 : Sl i64c 1 w u3 n3 v3 z.P.G) (H6 : Sl i64c 1 w u6 n6 v6 z.L) (H7 : Sl i64c 1 w u7 n7 v7 ms) (hS : isSel z = true) : Ret Tryz.prog 95 [.agg #[.slice u1 n1 v1, .slice u2 n2 v2, .slice u3 n3 v3, .slice u6 n6 v6, .int .i64 z.T, .int .i64 z.Q], .slice u7 n7 v7] w (fun v w' => Ext w w' ∧ ∃ (q1 : Option Addr) (m1 d1 : Nat) (q2 : Option Addr) (m2 d2 : Nat) (q3 : Option Addr) (m3 d3 : Nat) (q6 : Option Addr) (m6 d6 : Nat) (nr : Int), v = .tuple #[.agg #[.slice q1 m1 d1, .slice q2 m2 d2, .slice q3 m3 d3, .slice q6 m6 d6, .int .i64 (playS ms z).1.T, .int .i64 (playS ms z).1.Q], .int .i64 nr, .int .i64 (playS ms z).2] ∧ SlF i64c 1 w' w.heap.size w'.heap.size q1 m1 d1 ((playS ms z).1.P.S) ∧ SlF i64c 1 w' w.heap.size w'.heap.size q2 m2 d2 ((playS ms z).1.P.W) ∧ SlF i64c 1 w' w.heap.size w'.heap.size q3 m3 d3 ((playS ms z).1.P.G) ∧ SlF i64c 1 w' w.heap.size w'.heap.size q6 m6 d6 ((playS ms z).1.L)) := by
 refine ret_of_run (N := 46) Tryz.func95 rfl rfl rfl ?_
 have hn1 := H1.len
 have hn2 := H2.len
 have hn3 := H3.len
 have hn6 := H6.len
 obtain ⟨hP, hL, hl2, hT, hQ⟩ := sel_le hS
 have hle := pan_le hP
 have hA := str_at hL 0
 have hB := str_at hL 1
 rw [atI_of (by omega)] at hA hB
 have hn7 := H7.len
 have hn76 := H7.n64
 have E : Ext w w := Ext.refl w
 refine sr_ ?_
 refine obox rfl rfl rfl ?_
 intro b1 w1 e1 hb1 hz1 O1
 have E := E.trans e1
 replace O1 : Own w1 b1 [.slice u1 n1 v1, .slice u2 n2 v2, .slice u3 n3 v3, .slice u6 n6 v6, .int .i64 z.T, .int .i64 z.Q] 81 := O1
 refine oalloc Tryz.zeroValue81 rfl rfl ?_
 intro b2 w2 e2 hb2 hz2 O2
 have E := E.trans e2
 replace O1 := O1.ext e2
 replace O2 : Own w2 b2 [.slice none 0 0, .slice none 0 0, .slice none 0 0, .slice none 0 0, .int .i64 0, .int .i64 0] 81 := O2
 refine va_ rfl rfl rfl ?_
 refine vn_ rfl rfl rfl ?_
 refine run_seq ?_
 have RE := E
 have RO1 := O1
 have RO2 := O2
 refine run_held (ι := Option Addr × Nat × Nat × Option Addr × Nat × Nat × Option Addr × Nat × Nat × Option Addr × Nat × Nat × Nat × Nat × Nat × Nat × Nat) (fun x_ w' => match x_ with | (qa, ma, da, qb, mb, db, qc, mc, dc, qe, me, de, lo, hi, l2, h2, bx) => Ext w2 w' ∧ SlF i64c 1 w' lo hi qa ma da z.P.S ∧ SlF i64c 1 w' lo hi qb mb db z.P.W ∧ SlF i64c 1 w' lo hi qc mc dc z.P.G ∧ SlF i64c 1 w' l2 h2 qe me de z.L ∧ Own w' bx [.slice qa ma da, .slice qb mb db, .slice qc mc dc, .slice qe me de, .int .i64 z.T, .int .i64 z.Q] 81 ∧ (w2.heap.size ≤ lo ∧ hi ≤ w'.heap.size ∧ w2.heap.size ≤ l2 ∧ h2 ≤ w'.heap.size ∧ w2.heap.size ≤ bx ∧ (hi ≤ bx ∨ bx + 1 ≤ lo) ∧ (h2 ≤ bx ∨ bx + 1 ≤ l2))) (fun x_ => match x_ with | (qa, ma, da, qb, mb, db, qc, mc, dc, qe, me, de, lo, hi, l2, h2, bx) => [(1, .slice u7 n7 v7), (4, .pointer (some ⟨b2, 0, none⟩)), (5, .int .i64 0), (6, .int .i64 0), (7, .pointer (some ⟨bx, 0, none⟩))]) (by kernel_rfl) ?_ ?_
 ·
  intro w0_ F
  have z0_ := F.size
  have E := E.trans F
  refine h_take 0 rfl (by kernel_rfl) (by kernel_rfl) (by kernel_rfl) (fun w' x_ => xfieldAddr fo81f0 rfl) rfl rfl rfl F ?_
  refine h_take 1 (v := .agg #[.slice u1 n1 v1, .slice u2 n2 v2, .slice u3 n3 v3]) rfl (by kernel_rfl) (by kernel_rfl) (by kernel_rfl) (fun w' x_ => xloadN Tryz.isAgg79 Tryz.sizeOf79 rfl (((Cells.mid (pre := []) (row := [.slice u1 n1 v1, .slice u2 n2 v2, .slice u3 n3 v3]) (post := [.slice u6 n6 v6, .int .i64 z.T, .int .i64 z.Q]) (RO1.cells))).ext x_) rfl) rfl rfl rfl F ?_
  refine h_take 3 rfl (by kernel_rfl) (by kernel_rfl) (by kernel_rfl) (fun w' x_ => xfieldAddr fo81f1 rfl) rfl rfl rfl F ?_
  refine h_take 4 (v := .slice u6 n6 v6) rfl (by kernel_rfl) (by kernel_rfl) (by kernel_rfl) (fun w' x_ => xload1 Tryz.isAgg24 rfl ((RO1.cells).ext x_) rfl) rfl rfl rfl F ?_
  refine h_take 6 rfl (by kernel_rfl) (by kernel_rfl) (by kernel_rfl) (fun w' x_ => xfieldAddr fo81f2 rfl) rfl rfl rfl F ?_
  refine h_take 7 (v := .int .i64 z.T) rfl (by kernel_rfl) (by kernel_rfl) (by kernel_rfl) (fun w' x_ => xload1 Tryz.isAgg2 rfl ((RO1.cells).ext x_) rfl) rfl rfl rfl F ?_
  refine h_take 8 rfl (by kernel_rfl) (by kernel_rfl) (by kernel_rfl) (fun w' x_ => xfieldAddr fo81f3 rfl) rfl rfl rfl F ?_
  refine h_take 9 (v := .int .i64 z.Q) rfl (by kernel_rfl) (by kernel_rfl) (by kernel_rfl) (fun w' x_ => xload1 Tryz.isAgg2 rfl ((RO1.cells).ext x_) rfl) rfl rfl rfl F ?_
  refine h_ready (rs := [2, 11]) (by kernel_rfl) (by decide) ⟨?_, ?_, trivial⟩
  rotate_left
  ·
   refine hs_alloc Tryz.zeroValue81 F rfl rfl rfl ?_
   intro b3 w3 e3 hb3 hz3 O3
   have E := E.trans e3
   have F := F.trans e3
   replace O3 : Own w3 b3 [.slice none 0 0, .slice none 0 0, .slice none 0 0, .slice none 0 0, .int .i64 0, .int .i64 0] 81 := O3
   refine h_ready (rs := [2]) (by kernel_rfl) (by decide) ⟨?_, trivial⟩
   refine hs_call rfl (xcall Tryz.call118 rfl) rfl rfl rfl (copyPanel_ok _ _ _ _ _ _ _ _ _ z.P _ (H1.ext E) (H2.ext E) (H3.ext E) (by omega)) ?_
   rintro _ w4 ⟨e4, q14_1, m14_1, d14_1, q14_2, m14_2, d14_2, q14_3, m14_3, d14_3, k14_1, k14_2, rfl, ⟨hk14_1, hk14_2, hk14_3⟩, F14_1, F14_2, F14_3⟩
   have z4 := e4.size
   have E := E.trans e4
   replace O3 := O3.ext e4
   have F := F.trans e4
   have lF14_1 := F14_1.len
   have lF14_2 := F14_2.len
   have lF14_3 := F14_3.len
   refine ⟨F, ?_⟩
   refine h_ready (rs := [5]) (by kernel_rfl) (by decide) ⟨?_, trivial⟩
   refine hs_call rfl (xcall Tryz.call97 rfl) rfl rfl rfl (cloneInt64_ok _ _ _ _ _ (H6.ext E) (H6.ext E).nil (by omega)) ?_
   rintro _ w5 ⟨e5, q17, cc17, rfl, Q17⟩
   have z5 := e5.size
   have E := E.trans e5
   replace F14_1 := F14_1.ext e5
   replace F14_2 := F14_2.ext e5
   replace F14_3 := F14_3.ext e5
   replace O3 := O3.ext e5
   have F := F.trans e5
   refine ⟨F, ?_⟩
   refine h_take 10 rfl (by kernel_rfl) (by kernel_rfl) (by kernel_rfl) (fun w' x_ => xbuild (vs := [.agg #[.slice q14_1 m14_1 d14_1, .slice q14_2 m14_2 d14_2, .slice q14_3 m14_3 d14_3], .slice q17 n6 cc17, .int .i64 z.T, .int .i64 z.Q]) (cells := #[.slice q14_1 m14_1 d14_1, .slice q14_2 m14_2 d14_2, .slice q14_3 m14_3 d14_3, .slice q17 n6 cc17, .int .i64 z.T, .int .i64 z.Q]) rfl (by kernel_rfl)) rfl rfl rfl F ?_
   refine h_ready (rs := [12]) (by kernel_rfl) (by decide) ⟨?_, trivial⟩
   refine hs_storeN (vs := [.slice q14_1 m14_1 d14_1, .slice q14_2 m14_2 d14_2, .slice q14_3 m14_3 d14_3, .slice q17 n6 cc17, .int .i64 z.T, .int .i64 z.Q]) Tryz.sizeOf81 rfl rfl O3 rfl (by simp) (by simp [Value.oneCell']) F (by omega) rfl rfl ?_
   intro w6 on6 O6
   have hz6 := on6.size
   have E := on6.ext E (by omega)
   replace F14_1 := F14_1.only on6 (by omega)
   replace F14_2 := F14_2.only on6 (by omega)
   replace F14_3 := F14_3.only on6 (by omega)
   replace Q17 := Q17.only on6 (by omega)
   have F := on6.ext F (by omega)
   replace O6 : Own w6 b3 [.slice q14_1 m14_1 d14_1, .slice q14_2 m14_2 d14_2, .slice q14_3 m14_3 d14_3, .slice q17 n6 cc17, .int .i64 z.T, .int .i64 z.Q] 81 := O6
   refine h_done (by kernel_rfl) ?_
   intro a_ ha_
   exact ⟨(q14_1, m14_1, d14_1, q14_2, m14_2, d14_2, q14_3, m14_3, d14_3, q17, n6, cc17, w3.heap.size, w4.heap.size, w4.heap.size, w5.heap.size, b3), ⟨F, ⟨(F14_1.slF (by omega) (by omega)), (F14_2.slF (by omega) (by omega)), (F14_3.slF (by omega) (by omega)), (Q17.slF (by omega) (by omega)), O6, by omega⟩⟩, ha_.sub ⟨rfl, rfl, rfl, rfl, rfl, trivial⟩⟩
  refine hs_call rfl (xcall Tryz.call118 rfl) rfl rfl rfl (copyPanel_ok _ _ _ _ _ _ _ _ _ z.P _ (H1.ext E) (H2.ext E) (H3.ext E) (by omega)) ?_
  rintro _ w3 ⟨e3, q14_1, m14_1, d14_1, q14_2, m14_2, d14_2, q14_3, m14_3, d14_3, k14_1, k14_2, rfl, ⟨hk14_1, hk14_2, hk14_3⟩, F14_1, F14_2, F14_3⟩
  have z3 := e3.size
  have E := E.trans e3
  have F := F.trans e3
  have lF14_1 := F14_1.len
  have lF14_2 := F14_2.len
  have lF14_3 := F14_3.len
  refine ⟨F, ?_⟩
  refine h_ready (rs := [5, 11]) (by kernel_rfl) (by decide) ⟨?_, ?_, trivial⟩
  ·
   refine hs_call rfl (xcall Tryz.call97 rfl) rfl rfl rfl (cloneInt64_ok _ _ _ _ _ (H6.ext E) (H6.ext E).nil (by omega)) ?_
   rintro _ w4 ⟨e4, q17, cc17, rfl, Q17⟩
   have z4 := e4.size
   have E := E.trans e4
   replace F14_1 := F14_1.ext e4
   replace F14_2 := F14_2.ext e4
   replace F14_3 := F14_3.ext e4
   have F := F.trans e4
   refine ⟨F, ?_⟩
   refine h_take 10 rfl (by kernel_rfl) (by kernel_rfl) (by kernel_rfl) (fun w' x_ => xbuild (vs := [.agg #[.slice q14_1 m14_1 d14_1, .slice q14_2 m14_2 d14_2, .slice q14_3 m14_3 d14_3], .slice q17 n6 cc17, .int .i64 z.T, .int .i64 z.Q]) (cells := #[.slice q14_1 m14_1 d14_1, .slice q14_2 m14_2 d14_2, .slice q14_3 m14_3 d14_3, .slice q17 n6 cc17, .int .i64 z.T, .int .i64 z.Q]) rfl (by kernel_rfl)) rfl rfl rfl F ?_
   refine h_ready (rs := [11]) (by kernel_rfl) (by decide) ⟨?_, trivial⟩
   refine hs_alloc Tryz.zeroValue81 F rfl rfl rfl ?_
   intro b5 w5 e5 hb5 hz5 O5
   have E := E.trans e5
   replace F14_1 := F14_1.ext e5
   replace F14_2 := F14_2.ext e5
   replace F14_3 := F14_3.ext e5
   replace Q17 := Q17.ext e5
   have F := F.trans e5
   replace O5 : Own w5 b5 [.slice none 0 0, .slice none 0 0, .slice none 0 0, .slice none 0 0, .int .i64 0, .int .i64 0] 81 := O5
   refine h_ready (rs := [12]) (by kernel_rfl) (by decide) ⟨?_, trivial⟩
   refine hs_storeN (vs := [.slice q14_1 m14_1 d14_1, .slice q14_2 m14_2 d14_2, .slice q14_3 m14_3 d14_3, .slice q17 n6 cc17, .int .i64 z.T, .int .i64 z.Q]) Tryz.sizeOf81 rfl rfl O5 rfl (by simp) (by simp [Value.oneCell']) F (by omega) rfl rfl ?_
   intro w6 on6 O6
   have hz6 := on6.size
   have E := on6.ext E (by omega)
   replace F14_1 := F14_1.only on6 (by omega)
   replace F14_2 := F14_2.only on6 (by omega)
   replace F14_3 := F14_3.only on6 (by omega)
   replace Q17 := Q17.only on6 (by omega)
   have F := on6.ext F (by omega)
   replace O6 : Own w6 b5 [.slice q14_1 m14_1 d14_1, .slice q14_2 m14_2 d14_2, .slice q14_3 m14_3 d14_3, .slice q17 n6 cc17, .int .i64 z.T, .int .i64 z.Q] 81 := O6
   refine h_done (by kernel_rfl) ?_
   intro a_ ha_
   exact ⟨(q14_1, m14_1, d14_1, q14_2, m14_2, d14_2, q14_3, m14_3, d14_3, q17, n6, cc17, w0_.heap.size, w3.heap.size, w3.heap.size, w4.heap.size, b5), ⟨F, ⟨(F14_1.slF (by omega) (by omega)), (F14_2.slF (by omega) (by omega)), (F14_3.slF (by omega) (by omega)), (Q17.slF (by omega) (by omega)), O6, by omega⟩⟩, ha_.sub ⟨rfl, rfl, rfl, rfl, rfl, trivial⟩⟩
  refine hs_alloc Tryz.zeroValue81 F rfl rfl rfl ?_
  intro b4 w4 e4 hb4 hz4 O4
  have E := E.trans e4
  replace F14_1 := F14_1.ext e4
  replace F14_2 := F14_2.ext e4
  replace F14_3 := F14_3.ext e4
  have F := F.trans e4
  replace O4 : Own w4 b4 [.slice none 0 0, .slice none 0 0, .slice none 0 0, .slice none 0 0, .int .i64 0, .int .i64 0] 81 := O4
  refine h_ready (rs := [5]) (by kernel_rfl) (by decide) ⟨?_, trivial⟩
  refine hs_call rfl (xcall Tryz.call97 rfl) rfl rfl rfl (cloneInt64_ok _ _ _ _ _ (H6.ext E) (H6.ext E).nil (by omega)) ?_
  rintro _ w5 ⟨e5, q17, cc17, rfl, Q17⟩
  have z5 := e5.size
  have E := E.trans e5
  replace F14_1 := F14_1.ext e5
  replace F14_2 := F14_2.ext e5
  replace F14_3 := F14_3.ext e5
  replace O4 := O4.ext e5
  have F := F.trans e5
  refine ⟨F, ?_⟩
  refine h_take 10 rfl (by kernel_rfl) (by kernel_rfl) (by kernel_rfl) (fun w' x_ => xbuild (vs := [.agg #[.slice q14_1 m14_1 d14_1, .slice q14_2 m14_2 d14_2, .slice q14_3 m14_3 d14_3], .slice q17 n6 cc17, .int .i64 z.T, .int .i64 z.Q]) (cells := #[.slice q14_1 m14_1 d14_1, .slice q14_2 m14_2 d14_2, .slice q14_3 m14_3 d14_3, .slice q17 n6 cc17, .int .i64 z.T, .int .i64 z.Q]) rfl (by kernel_rfl)) rfl rfl rfl F ?_
  refine h_ready (rs := [12]) (by kernel_rfl) (by decide) ⟨?_, trivial⟩
  refine hs_storeN (vs := [.slice q14_1 m14_1 d14_1, .slice q14_2 m14_2 d14_2, .slice q14_3 m14_3 d14_3, .slice q17 n6 cc17, .int .i64 z.T, .int .i64 z.Q]) Tryz.sizeOf81 rfl rfl O4 rfl (by simp) (by simp [Value.oneCell']) F (by omega) rfl rfl ?_
  intro w6 on6 O6
  have hz6 := on6.size
  have E := on6.ext E (by omega)
  replace F14_1 := F14_1.only on6 (by omega)
  replace F14_2 := F14_2.only on6 (by omega)
  replace F14_3 := F14_3.only on6 (by omega)
  replace Q17 := Q17.only on6 (by omega)
  have F := on6.ext F (by omega)
  replace O6 : Own w6 b4 [.slice q14_1 m14_1 d14_1, .slice q14_2 m14_2 d14_2, .slice q14_3 m14_3 d14_3, .slice q17 n6 cc17, .int .i64 z.T, .int .i64 z.Q] 81 := O6
  refine h_done (by kernel_rfl) ?_
  intro a_ ha_
  exact ⟨(q14_1, m14_1, d14_1, q14_2, m14_2, d14_2, q14_3, m14_3, d14_3, q17, n6, cc17, w0_.heap.size, w3.heap.size, w4.heap.size, w5.heap.size, b4), ⟨F, ⟨(F14_1.slF (by omega) (by omega)), (F14_2.slF (by omega) (by omega)), (F14_3.slF (by omega) (by omega)), (Q17.slF (by omega) (by omega)), O6, by omega⟩⟩, ha_.sub ⟨rfl, rfl, rfl, rfl, rfl, trivial⟩⟩
 intro x_
 obtain ⟨qa, ma, da, qb, mb, db, qc, mc, dc, qe, me, de, lo, hi, l2, h2, bx⟩ := x_
 rintro w3 ⟨e3, FA, FB, FC, FE, OX, hr⟩
 have z3 := e3.size
 have E := E.trans e3
 replace O1 := O1.ext e3
 replace O2 := O2.ext e3
 have lOX := OX.lt
 refine run_seq ?_
 refine sr_ ?_
 refine vm_ rfl rfl rfl ?_
 refine oz_ (xlen Tryz.underlying24 rfl) rfl rfl ?_
 refine vm_ rfl rfl rfl ?_
 refine ops_nil ?_
 refine run_block ?_
 refine run_loop (ι := Nat × Sel × Option Addr × Nat × Nat × Option Addr × Nat × Nat × Option Addr × Nat × Nat × Option Addr × Nat × Nat × Nat × Nat × Nat × Nat × World) (fun x_ => match x_ with | (i, y, qa, ma, da, qb, mb, db, qc, mc, dc, qe, me, de, lo, hi, l2, h2, wr) => (Ext w wr) ∧ (Own wr b1 ([.slice u1 n1 v1, .slice u2 n2 v2, .slice u3 n3 v3, .slice u6 n6 v6, .int .i64 z.T, .int .i64 z.Q]) 81) ∧ (Own wr b2 ([.slice none 0 0, .slice none 0 0, .slice none 0 0, .slice none 0 0, .int .i64 0, .int .i64 0]) 81) ∧ (Own wr bx ([.slice qa ma da, .slice qb mb db, .slice qc mc dc, .slice qe me de, .int .i64 y.T, .int .i64 y.Q]) 81) ∧ (SlF i64c 1 wr lo hi qa ma da y.P.S) ∧ (SlF i64c 1 wr lo hi qb mb db y.P.W) ∧ (SlF i64c 1 wr lo hi qc mc dc y.P.G) ∧ (SlF i64c 1 wr l2 h2 qe me de y.L) ∧ (w3.heap.size ≤ wr.heap.size) ∧ (i ≤ n7) ∧ (isSel y = true) ∧ (playS ms z = playS (ms.drop i) y) ∧ (w2.heap.size ≤ lo ∧ hi ≤ wr.heap.size ∧ w2.heap.size ≤ l2 ∧ h2 ≤ wr.heap.size ∧ (hi ≤ bx ∨ bx + 1 ≤ lo) ∧ (h2 ≤ bx ∨ bx + 1 ≤ l2))) (fun x_ => match x_ with | (i, y, qa, ma, da, qb, mb, db, qc, mc, dc, qe, me, de, lo, hi, l2, h2, wr) => [(1, .slice u7 n7 v7), (4, .pointer (some ⟨b2, 0, none⟩)), (7, .pointer (some ⟨bx, 0, none⟩)), (23, .slice u7 n7 v7), (24, .int .i64 (n7 : Int)), (25, .int .i64 (i : Int))]) (fun x_ => match x_ with | (i, y, qa, ma, da, qb, mb, db, qc, mc, dc, qe, me, de, lo, hi, l2, h2, wr) => wr) (fun x_ => match x_ with | (i, y, qa, ma, da, qb, mb, db, qc, mc, dc, qe, me, de, lo, hi, l2, h2, wr) => n7 - i) ?_ (0, z, qa, ma, da, qb, mb, db, qc, mc, dc, qe, me, de, lo, hi, l2, h2, w3) (⟨E, O1, O2, OX, FA, FB, FC, FE, Nat.le_refl _, by omega, hS, rfl, by omega⟩) ⟨rfl, rfl, rfl, rfl, rfl, rfl, trivial⟩ rfl
 intro i_ hI_ hback3
 obtain ⟨i, y, qa, ma, da, qb, mb, db, qc, mc, dc, qe, me, de, lo, hi, l2, h2, wr⟩ := i_
 obtain ⟨E, O_b1, O_b2, O_bx, FA, FB, FC, FE, lz_wr, hi7, hyS, hpl, hr⟩ := hI_
 try dsimp only
 have zr := E.size
 have lt_b1 := O_b1.lt
 have lt_b2 := O_b2.lt
 have lt_bx := O_bx.lt
 refine sr_ ?_
 refine oz_ (xlss rfl rfl _ rfl) rfl rfl ?_
 refine ods (fun c26 => ?_) (fun c26 => ?_)
 rotate_left
 ·
  refine ops_nil ?_
  refine run_seq ?_
  refine run_cond_f rfl ?_
  refine run_exit rfl ?_
  refine sr_ ?_
  refine oz_ (v := .agg #[.slice qa ma da, .slice qb mb db, .slice qc mc dc, .slice qe me de, .int .i64 y.T, .int .i64 y.Q]) (xloadN Tryz.isAgg81 Tryz.sizeOf81 rfl (O_bx.cells) rfl) rfl rfl ?_
  refine vm_ rfl rfl rfl ?_
  refine oz_ (xlen Tryz.underlying24 rfl) rfl rfl ?_
  refine ostoreN (vs := _) Tryz.sizeOf81 rfl rfl O_b2 rfl (by simp) (by simp [Value.oneCell']) rfl ?_
  intro w4 on4 O4
  have hz4 := on4.size
  have E := on4.ext E (by omega)
  replace FA := FA.only on4 (by omega)
  replace FB := FB.only on4 (by omega)
  replace FC := FC.only on4 (by omega)
  replace FE := FE.only on4 (by omega)
  replace O4 : Own w4 b2 [.slice qa ma da, .slice qb mb db, .slice qc mc dc, .slice qe me de, .int .i64 y.T, .int .i64 y.Q] 81 := O4
  refine va_ rfl rfl rfl ?_
  refine vn_ rfl rfl rfl ?_
  refine run_ret Tryz.func95 (rescCTT rfl rfl (run_loadVar_cells Tryz.isAgg81 Tryz.sizeOf81 O4.cells rfl) rfl rfl) ?_
  have hst : playS ms z = (y, 0) := by rw [hpl, List.drop_of_length_le (by omega), play_nil]
  exact ⟨_, rfl, E, _, _, _, _, _, _, _, _, _, _, _, _, _, by rw [hst], by rw [hst]; exact (FA.wide (by omega) (by omega)), by rw [hst]; exact (FB.wide (by omega) (by omega)), by rw [hst]; exact (FC.wide (by omega) (by omega)), by rw [hst]; exact (FE.wide (by omega) (by omega))⟩
 have hil : i < ms.length := by omega
 refine ops_nil ?_
 refine run_seq ?_
 refine run_cond_t rfl ?_
 refine run_skip ?_
 refine run_seq ?_
 refine run_block ?_
 refine sr_ ?_
 refine vm_ rfl rfl rfl ?_
 have h28 := (H7.ext E).at (i := i) (by omega)
 refine oz_ (xindexN (i := i) Tryz.underlying24 Tryz.sizeOf2 rfl rfl rfl ((H7.ext E).p (i := i) (by omega)) (by have := (H7.ext E).len; omega)) rfl rfl ?_
 refine oz_ (v := .int .i64 ms[i]) (xloadz Tryz.isAgg2 rfl (h28) rfl) rfl rfl ?_
 refine va_ rfl rfl rfl ?_
 refine vn_ rfl rfl rfl ?_
 refine sr_ ?_
 refine oz_ (v := .agg #[.slice qa ma da, .slice qb mb db, .slice qc mc dc, .slice qe me de, .int .i64 y.T, .int .i64 y.Q]) (xloadN Tryz.isAgg81 Tryz.sizeOf81 rfl (O_bx.cells) rfl) rfl rfl ?_
 refine vm_ rfl rfl rfl ?_
 refine oc (xcall Tryz.call119 rfl) rfl rfl rfl (move_ok _ _ _ _ _ _ _ _ _ _ _ _ y ms[i] _ (FA.sl) (FB.sl) (FC.sl) (FE.sl) hyS) ?_
 rintro _ w4 ⟨e4, q33_1, m33_1, d33_1, q33_2, m33_2, d33_2, q33_3, m33_3, d33_3, q33_6, m33_6, d33_6, T33, Q33_, rfl, ht33, F33_1, F33_2, F33_3, F33_6⟩
 have z4 := e4.size
 have E := E.trans e4
 replace FA := FA.ext e4
 replace FB := FB.ext e4
 replace FC := FC.ext e4
 replace FE := FE.ext e4
 replace O_b1 := O_b1.ext e4
 replace O_b2 := O_b2.ext e4
 replace O_bx := O_bx.ext e4
 refine vm_ rfl rfl rfl ?_
 refine oz_ (xextract rfl rfl) rfl rfl ?_
 refine oz_ (xextract rfl rfl) rfl rfl ?_
 refine oalloc Tryz.zeroValue81 rfl rfl ?_
 intro b5 w5 e5 hb5 hz5 O5
 have E := E.trans e5
 replace FA := FA.ext e5
 replace FB := FB.ext e5
 replace FC := FC.ext e5
 replace FE := FE.ext e5
 replace F33_1 := F33_1.ext e5
 replace F33_2 := F33_2.ext e5
 replace F33_3 := F33_3.ext e5
 replace F33_6 := F33_6.ext e5
 replace O_b1 := O_b1.ext e5
 replace O_b2 := O_b2.ext e5
 replace O_bx := O_bx.ext e5
 replace O5 : Own w5 b5 [.slice none 0 0, .slice none 0 0, .slice none 0 0, .slice none 0 0, .int .i64 0, .int .i64 0] 81 := O5
 refine ostoreN (vs := _) Tryz.sizeOf81 rfl rfl O5 rfl (by simp) (by simp [Value.oneCell']) rfl ?_
 intro w6 on6 O6
 have hz6 := on6.size
 have E := on6.ext E (by omega)
 replace FA := FA.only on6 (by omega)
 replace FB := FB.only on6 (by omega)
 replace FC := FC.only on6 (by omega)
 replace FE := FE.only on6 (by omega)
 replace F33_1 := F33_1.only on6 (by omega)
 replace F33_2 := F33_2.only on6 (by omega)
 replace F33_3 := F33_3.only on6 (by omega)
 replace F33_6 := F33_6.only on6 (by omega)
 replace O_b1 := on6.own O_b1 (by omega)
 replace O_b2 := on6.own O_b2 (by omega)
 replace O_bx := on6.own O_bx (by omega)
 replace O6 : Own w6 b5 [.slice q33_1 m33_1 d33_1, .slice q33_2 m33_2 d33_2, .slice q33_3 m33_3 d33_3, .slice q33_6 m33_6 d33_6, .int .i64 T33, .int .i64 Q33_] 81 := O6
 refine vn_ rfl rfl rfl ?_
 refine run_seq ?_
 refine sr_ ?_
 refine vm_ rfl rfl rfl ?_
 refine oz_ (xneq rfl rfl _ rfl) rfl rfl ?_
 refine ods (fun c37 => ?_) (fun c37 => ?_)
 ·
  refine ct_ rfl ?_
  refine sr_ ?_
  refine oz_ (v := .agg #[.slice qa ma da, .slice qb mb db, .slice qc mc dc, .slice qe me de, .int .i64 y.T, .int .i64 y.Q]) (xloadN Tryz.isAgg81 Tryz.sizeOf81 rfl (O_bx.cells) rfl) rfl rfl ?_
  refine vm_ rfl rfl rfl ?_
  refine vm_ rfl rfl rfl ?_
  refine ostoreN (vs := _) Tryz.sizeOf81 rfl rfl O_b2 rfl (by simp) (by simp [Value.oneCell']) rfl ?_
  intro w7 on7 O7
  have hz7 := on7.size
  have E := on7.ext E (by omega)
  replace FA := FA.only on7 (by omega)
  replace FB := FB.only on7 (by omega)
  replace FC := FC.only on7 (by omega)
  replace FE := FE.only on7 (by omega)
  replace O7 : Own w7 b2 [.slice qa ma da, .slice qb mb db, .slice qc mc dc, .slice qe me de, .int .i64 y.T, .int .i64 y.Q] 81 := O7
  refine va_ rfl rfl rfl ?_
  refine vn_ rfl rfl rfl ?_
  refine run_ret Tryz.func95 (rescCTT rfl rfl (run_loadVar_cells Tryz.isAgg81 Tryz.sizeOf81 O7.cells rfl) rfl rfl) ?_
  have hst : playS ms z = (y, moveCode y ms[i]) := by rw [hpl, play_bad hil (by omega)]
  exact ⟨_, rfl, E, _, _, _, _, _, _, _, _, _, _, _, _, _, by rw [hst], by rw [hst]; exact (FA.wide (by omega) (by omega)), by rw [hst]; exact (FB.wide (by omega) (by omega)), by rw [hst]; exact (FC.wide (by omega) (by omega)), by rw [hst]; exact (FE.wide (by omega) (by omega))⟩
 have hmc : moveCode y ms[i] = 0 := by omega
 obtain ⟨hT33, hQ33⟩ := ht33 hmc
 replace F33_1 := F33_1.get hmc
 replace F33_2 := F33_2.get hmc
 replace F33_3 := F33_3.get hmc
 replace F33_6 := F33_6.get hmc
 refine cf_ rfl ?_
 refine run_region ?_
 refine oz_ (v := .agg #[.slice q33_1 m33_1 d33_1, .slice q33_2 m33_2 d33_2, .slice q33_3 m33_3 d33_3, .slice q33_6 m33_6 d33_6, .int .i64 T33, .int .i64 Q33_]) (xloadN Tryz.isAgg81 Tryz.sizeOf81 rfl (O6.cells) rfl) rfl rfl ?_
 refine ostoreN (vs := _) Tryz.sizeOf81 rfl rfl O_bx rfl (by simp) (by simp [Value.oneCell']) rfl ?_
 intro w7 on7 O7
 have hz7 := on7.size
 have E := on7.ext E (by omega)
 replace F33_1 := F33_1.only on7 (by omega)
 replace F33_2 := F33_2.only on7 (by omega)
 replace F33_3 := F33_3.only on7 (by omega)
 replace F33_6 := F33_6.only on7 (by omega)
 replace O_b1 := on7.own O_b1 (by omega)
 replace O_b2 := on7.own O_b2 (by omega)
 replace O7 : Own w7 bx [.slice q33_1 m33_1 d33_1, .slice q33_2 m33_2 d33_2, .slice q33_3 m33_3 d33_3, .slice q33_6 m33_6 d33_6, .int .i64 T33, .int .i64 Q33_] 81 := O7
 refine ops_nil ?_
 refine run_inBlock ?_
 refine run_region ?_
 refine oz_ (xadd rfl rfl (by unfold I64; omega)) rfl rfl ?_
 refine vm_ rfl rfl rfl ?_
 refine ops_nil ?_
 refine run_sub ?_ (hback3 (i + 1, (moveS y ms[i]), q33_1, m33_1, d33_1, q33_2, m33_2, d33_2, q33_3, m33_3, d33_3, q33_6, m33_6, d33_6, (bx + 1), w7.heap.size, (bx + 1), w7.heap.size, w7) (⟨E, O_b1, O_b2, by rw [← hT33, ← hQ33]; exact O7, (F33_1.wide (by omega) (by omega)), (F33_2.wide (by omega) (by omega)), (F33_3.wide (by omega) (by omega)), (F33_6.wide (by omega) (by omega)), by omega, by omega, (isSel_move hyS hmc).1, by rw [hpl, play_go hil hmc], by omega⟩) (by first | omega | (dsimp only; omega)))
 exact ⟨rfl, rfl, rfl, rfl, rfl, rfl, trivial⟩
set_option maxHeartbeats 4000000 in
theorem PlayMoves_ok (u1 : Option Addr) (n1 v1 : Nat) (u2 : Option Addr) (n2 v2 : Nat) (u3 : Option Addr) (n3 v3 : Nat) (u6 : Option Addr) (n6 v6 : Nat) (z : Sel) (u7 : Option Addr) (n7 v7 : Nat) (ms : List Int) (w : World) (H1 : Sl i64c 1 w u1 n1 v1 z.P.S) (H2 : Sl i64c 1 w u2 n2 v2 z.P.W) (H3 : Sl i64c 1 w u3 n3 v3 z.P.G) (H6 : Sl i64c 1 w u6 n6 v6 z.L) (H7 : Sl i64c 1 w u7 n7 v7 ms) (hS : isSel z = true) (hm40 : ms.length ≤ 40) : Ret Tryz.prog 55 [.agg #[.slice u1 n1 v1, .slice u2 n2 v2, .slice u3 n3 v3, .slice u6 n6 v6, .int .i64 z.T, .int .i64 z.Q], .slice u7 n7 v7] w (fun v w' => Ext w w' ∧ ∃ (q1 : Option Addr) (m1 d1 : Nat) (q2 : Option Addr) (m2 d2 : Nat) (q3 : Option Addr) (m3 d3 : Nat) (q6 : Option Addr) (m6 d6 : Nat) (nr : Int), v = .tuple #[.agg #[.slice q1 m1 d1, .slice q2 m2 d2, .slice q3 m3 d3, .slice q6 m6 d6, .int .i64 (playS ms z).1.T, .int .i64 (playS ms z).1.Q], .int .i64 nr, .int .i64 (playS ms z).2] ∧ SlF i64c 1 w' w.heap.size w'.heap.size q1 m1 d1 ((playS ms z).1.P.S) ∧ SlF i64c 1 w' w.heap.size w'.heap.size q2 m2 d2 ((playS ms z).1.P.W) ∧ SlF i64c 1 w' w.heap.size w'.heap.size q3 m3 d3 ((playS ms z).1.P.G) ∧ SlF i64c 1 w' w.heap.size w'.heap.size q6 m6 d6 ((playS ms z).1.L)) := by
 refine ret_of_run (N := 53) Tryz.func55 rfl rfl rfl ?_
 have hn1 := H1.len
 have hn2 := H2.len
 have hn3 := H3.len
 have hn6 := H6.len
 obtain ⟨hP, hL, hl2, hT, hQ⟩ := sel_le hS
 have hle := pan_le hP
 have hA := str_at hL 0
 have hB := str_at hL 1
 rw [atI_of (by omega)] at hA hB
 have hn7 := H7.len
 have hn76 := H7.n64
 have E : Ext w w := Ext.refl w
 refine sr_ ?_
 refine obox rfl rfl rfl ?_
 intro b1 w1 e1 hb1 hz1 O1
 have E := E.trans e1
 replace O1 : Own w1 b1 [.slice u1 n1 v1, .slice u2 n2 v2, .slice u3 n3 v3, .slice u6 n6 v6, .int .i64 z.T, .int .i64 z.Q] 81 := O1
 refine oalloc Tryz.zeroValue81 rfl rfl ?_
 intro b2 w2 e2 hb2 hz2 O2
 have E := E.trans e2
 replace O1 := O1.ext e2
 replace O2 : Own w2 b2 [.slice none 0 0, .slice none 0 0, .slice none 0 0, .slice none 0 0, .int .i64 0, .int .i64 0] 81 := O2
 refine va_ rfl rfl rfl ?_
 refine vn_ rfl rfl rfl ?_
 refine run_seq ?_
 refine sr_ ?_
 refine oz_ (v := .agg #[.slice u1 n1 v1, .slice u2 n2 v2, .slice u3 n3 v3, .slice u6 n6 v6, .int .i64 z.T, .int .i64 z.Q]) (xloadN Tryz.isAgg81 Tryz.sizeOf81 rfl (O1.cells) rfl) rfl rfl ?_
 refine oc (xcall Tryz.call100 rfl) rfl rfl rfl (IsSelection_ok _ _ _ _ _ _ _ _ _ _ _ _ z _ (H1.ext E) (H2.ext E) (H3.ext E) (H6.ext E) (by omega)) ?_
 rintro _ w3 ⟨rfl, e3⟩
 have z3 := e3.size
 have E := E.trans e3
 replace O1 := O1.ext e3
 replace O2 := O2.ext e3
 refine obs (fun c11 => ?_) (fun c11 => ?_)
 rotate_left
 ·
  exfalso; rw [hS] at c11; cases c11
 refine oz_ (xnot rfl) rfl rfl ?_
 refine cf_ rfl ?_
 refine run_seq ?_
 refine sr_ ?_
 refine vm_ rfl rfl rfl ?_
 refine oz_ (xlen Tryz.underlying24 rfl) rfl rfl ?_
 refine oz_ (xgtr rfl rfl _ rfl) rfl rfl ?_
 refine ods (fun c16 => ?_) (fun c16 => ?_)
 ·
  exfalso; omega
 refine cf_ rfl ?_
 refine run_seq ?_
 refine run_rg (τ := [(1, .slice u7 n7 v7), (2, .pointer (some ⟨b1, 0, none⟩)), (4, .pointer (some ⟨b2, 0, none⟩))]) 11 [18, 19, 20, 21, 22, 23, 24, 25, 26, 27, 28] (fun u_ => Ext w3 u_) (fun _ => Ext) (fun i_ v_ u_ => match i_ with | 0 => v_ = .pointer (some ⟨b1, 0 + 0, none⟩) | 1 => v_ = .agg #[.slice u1 n1 v1, .slice u2 n2 v2, .slice u3 n3 v3] | 2 => ∃ (y0_ : Option Addr) (y1_ : Nat) (y2_ : Nat) (y3_ : Option Addr) (y4_ : Nat) (y5_ : Nat) (y6_ : Option Addr) (y7_ : Nat) (y8_ : Nat), v_ = .agg #[.slice y0_ y1_ y2_, .slice y3_ y4_ y5_, .slice y6_ y7_ y8_] ∧ SlF i64c 1 u_ w3.heap.size u_.heap.size y0_ y1_ y2_ z.P.S ∧ SlF i64c 1 u_ w3.heap.size u_.heap.size y3_ y4_ y5_ z.P.W ∧ SlF i64c 1 u_ w3.heap.size u_.heap.size y6_ y7_ y8_ z.P.G | 3 => v_ = .pointer (some ⟨b1, 0 + 3, none⟩) | 4 => v_ = .slice u6 n6 v6 | 5 => ∃ (y0_ : Option Addr) (y1_ : Nat), v_ = .slice y0_ n6 y1_ ∧ SlF i64c 1 u_ w3.heap.size u_.heap.size y0_ n6 y1_ z.L | 6 => v_ = .pointer (some ⟨b1, 0 + 4, none⟩) | 7 => v_ = .int .i64 z.T | 8 => v_ = .pointer (some ⟨b1, 0 + 5, none⟩) | 9 => v_ = .int .i64 z.Q | 10 => ∃ (y0_ : Option Addr) (y1_ : Nat) (y2_ : Nat) (y3_ : Option Addr) (y4_ : Nat) (y5_ : Nat) (y6_ : Option Addr) (y7_ : Nat) (y8_ : Nat) (y9_ : Option Addr) (y10_ : Nat), v_ = .agg #[.slice y0_ y1_ y2_, .slice y3_ y4_ y5_, .slice y6_ y7_ y8_, .slice y9_ n6 y10_, .int .i64 z.T, .int .i64 z.Q] ∧ SlF i64c 1 u_ w3.heap.size u_.heap.size y0_ y1_ y2_ z.P.S ∧ SlF i64c 1 u_ w3.heap.size u_.heap.size y3_ y4_ y5_ z.P.W ∧ SlF i64c 1 u_ w3.heap.size u_.heap.size y6_ y7_ y8_ z.P.G ∧ SlF i64c 1 u_ w3.heap.size u_.heap.size y9_ n6 y10_ z.L | _ => True) [(10, some 28)] (by kernel_rfl) (by kernel_rfl) (by kernel_rfl) (by kernel_rfl) (by kernel_rfl) (by kernel_rfl) ⟨rfl, rfl, rfl, trivial⟩ rfl (fun u_ e_ _ => e_) ?_ ?_ ?_
 ·
  intro i_ j_ hi_ hj_ hij_ v_ u_ u2_ I_ I2_ r_ g_
  have zr_ := r_.size
  clear hi_
  rcases (by omega : j_ = 0 ∨ j_ = 1 ∨ j_ = 2 ∨ j_ = 3 ∨ j_ = 4 ∨ j_ = 5 ∨ j_ = 6 ∨ j_ = 7 ∨ j_ = 8 ∨ j_ = 9 ∨ j_ = 10) with rfl | rfl | rfl | rfl | rfl | rfl | rfl | rfl | rfl | rfl | rfl
  ·
   exact g_
  ·
   exact g_
  ·
   obtain ⟨g20_0, g20_1, g20_2, g20_3, g20_4, g20_5, g20_6, g20_7, g20_8, rfl, f20_0, f20_1, f20_2⟩ := g_
   exact ⟨g20_0, g20_1, g20_2, g20_3, g20_4, g20_5, g20_6, g20_7, g20_8, rfl, ((f20_0.ext r_).wide (Nat.le_refl _) zr_), ((f20_1.ext r_).wide (Nat.le_refl _) zr_), ((f20_2.ext r_).wide (Nat.le_refl _) zr_)⟩
  ·
   exact g_
  ·
   exact g_
  ·
   obtain ⟨g23_0, g23_1, rfl, f23_0⟩ := g_
   exact ⟨g23_0, g23_1, rfl, ((f23_0.ext r_).wide (Nat.le_refl _) zr_)⟩
  ·
   exact g_
  ·
   exact g_
  ·
   exact g_
  ·
   exact g_
  obtain ⟨g28_0, g28_1, g28_2, g28_3, g28_4, g28_5, g28_6, g28_7, g28_8, g28_9, g28_10, rfl, f28_0, f28_1, f28_2, f28_3⟩ := g_
  exact ⟨g28_0, g28_1, g28_2, g28_3, g28_4, g28_5, g28_6, g28_7, g28_8, g28_9, g28_10, rfl, ((f28_0.ext r_).wide (Nat.le_refl _) zr_), ((f28_1.ext r_).wide (Nat.le_refl _) zr_), ((f28_2.ext r_).wide (Nat.le_refl _) zr_), ((f28_3.ext r_).wide (Nat.le_refl _) zr_)⟩
 ·
  refine rga [] (by kernel_rfl) ?_ ?_
  ·
   rintro u_ I_
   have zu_ := I_.size
   have E := E.trans I_
   refine rg_val (xfieldAddr fo81f0 rfl) rfl I_ (Ext.refl _) rfl
  refine rga [(0, some 18)] (by kernel_rfl) ?_ ?_
  ·
   rintro u_ I_ _ rfl
   have zu_ := I_.size
   have E := E.trans I_
   replace O1 := O1.ext I_
   refine rg_val (xloadN Tryz.isAgg79 Tryz.sizeOf79 rfl ((Cells.mid (pre := []) (row := [.slice u1 n1 v1, .slice u2 n2 v2, .slice u3 n3 v3]) (post := [.slice u6 n6 v6, .int .i64 z.T, .int .i64 z.Q]) (O1.cells))) rfl) rfl I_ (Ext.refl _) rfl
  refine rga [(1, some 19)] (by kernel_rfl) ?_ ?_
  ·
   rintro u_ I_ _ rfl
   have zu_ := I_.size
   have E := E.trans I_
   refine rg_call (xcall Tryz.call101 rfl) rfl (l14Own_ok _ _ _ _ _ _ _ _ _ z.P _ (H1.ext E) (H2.ext E) (H3.ext E) (by omega)) ?_
   rintro _ w_ ⟨e_, r_0, r_1, r_2, r_3, r_4, r_5, r_6, r_7, r_8, k1_, k2_, rfl, ⟨hk1_, hk2_, hk3_⟩, h_0, h_1, h_2⟩
   have ze_ := e_.size
   exact ⟨I_.trans e_, e_, ⟨r_0, r_1, r_2, r_3, r_4, r_5, r_6, r_7, r_8, rfl, (h_0.slF (by omega) (by omega)), (h_1.slF (by omega) (by omega)), (h_2.slF (by omega) (by omega))⟩⟩
  refine rga [] (by kernel_rfl) ?_ ?_
  ·
   rintro u_ I_
   have zu_ := I_.size
   have E := E.trans I_
   refine rg_val (xfieldAddr fo81f1 rfl) rfl I_ (Ext.refl _) rfl
  refine rga [(3, some 21)] (by kernel_rfl) ?_ ?_
  ·
   rintro u_ I_ _ rfl
   have zu_ := I_.size
   have E := E.trans I_
   replace O1 := O1.ext I_
   refine rg_val (xload1 Tryz.isAgg24 rfl (O1.cells) rfl) rfl I_ (Ext.refl _) rfl
  refine rga [(4, some 22)] (by kernel_rfl) ?_ ?_
  ·
   rintro u_ I_ _ rfl
   have zu_ := I_.size
   have E := E.trans I_
   refine rg_call (xcall Tryz.call102 rfl) rfl (l01Own_ok _ _ _ _ _ (H6.ext E) (H6.ext E).nil (by omega)) ?_
   rintro _ w_ ⟨e_, r_0, r_1, rfl, h_0⟩
   have ze_ := e_.size
   exact ⟨I_.trans e_, e_, ⟨r_0, r_1, rfl, (h_0.slF (by omega) (by omega))⟩⟩
  refine rga [] (by kernel_rfl) ?_ ?_
  ·
   rintro u_ I_
   have zu_ := I_.size
   have E := E.trans I_
   refine rg_val (xfieldAddr fo81f2 rfl) rfl I_ (Ext.refl _) rfl
  refine rga [(6, some 24)] (by kernel_rfl) ?_ ?_
  ·
   rintro u_ I_ _ rfl
   have zu_ := I_.size
   have E := E.trans I_
   replace O1 := O1.ext I_
   refine rg_val (xload1 Tryz.isAgg2 rfl (O1.cells) rfl) rfl I_ (Ext.refl _) rfl
  refine rga [] (by kernel_rfl) ?_ ?_
  ·
   rintro u_ I_
   have zu_ := I_.size
   have E := E.trans I_
   refine rg_val (xfieldAddr fo81f3 rfl) rfl I_ (Ext.refl _) rfl
  refine rga [(8, some 26)] (by kernel_rfl) ?_ ?_
  ·
   rintro u_ I_ _ rfl
   have zu_ := I_.size
   have E := E.trans I_
   replace O1 := O1.ext I_
   refine rg_val (xload1 Tryz.isAgg2 rfl (O1.cells) rfl) rfl I_ (Ext.refl _) rfl
  refine rga [(2, some 20), (5, some 23), (7, some 25), (9, some 27)] (by kernel_rfl) ?_ ?_
  ·
   rintro u_ I_ _ ⟨g20_0, g20_1, g20_2, g20_3, g20_4, g20_5, g20_6, g20_7, g20_8, rfl, f20_0, f20_1, f20_2⟩ _ ⟨g23_0, g23_1, rfl, f23_0⟩ _ rfl _ rfl
   have zu_ := I_.size
   have E := E.trans I_
   refine rg_val (xbuild (vs := [.agg #[.slice g20_0 g20_1 g20_2, .slice g20_3 g20_4 g20_5, .slice g20_6 g20_7 g20_8], .slice g23_0 n6 g23_1, .int .i64 z.T, .int .i64 z.Q]) (cells := #[.slice g20_0 g20_1 g20_2, .slice g20_3 g20_4 g20_5, .slice g20_6 g20_7 g20_8, .slice g23_0 n6 g23_1, .int .i64 z.T, .int .i64 z.Q]) rfl (by kernel_rfl)) rfl I_ (Ext.refl _) ⟨g20_0, g20_1, g20_2, g20_3, g20_4, g20_5, g20_6, g20_7, g20_8, g23_0, g23_1, rfl, f20_0, f20_1, f20_2, f23_0⟩
  exact rga_nil
 rintro w4 e4 _ ⟨g28_0, g28_1, g28_2, g28_3, g28_4, g28_5, g28_6, g28_7, g28_8, g28_9, g28_10, rfl, f28_0, f28_1, f28_2, f28_3⟩
 have z4 := e4.size
 have E := E.trans e4
 replace O1 := O1.ext e4
 replace O2 := O2.ext e4
 refine ostoreN (vs := _) Tryz.sizeOf81 rfl rfl O1 rfl (by simp) (by simp [Value.oneCell']) rfl ?_
 intro w5 on5 O5
 have hz5 := on5.size
 have E := on5.ext E (by omega)
 replace f28_0 := f28_0.only on5 (by omega)
 replace f28_1 := f28_1.only on5 (by omega)
 replace f28_2 := f28_2.only on5 (by omega)
 replace f28_3 := f28_3.only on5 (by omega)
 replace O2 := on5.own O2 (by omega)
 replace O5 : Own w5 b1 [.slice g28_0 g28_1 g28_2, .slice g28_3 g28_4 g28_5, .slice g28_6 g28_7 g28_8, .slice g28_9 n6 g28_10, .int .i64 z.T, .int .i64 z.Q] 81 := O5
 refine ops_nil ?_
 refine run_seq ?_
 refine sr_ ?_
 refine vn_ rfl rfl rfl ?_
 refine run_block ?_
 refine run_loop (ι := Nat × Sel × Option Addr × Nat × Nat × Option Addr × Nat × Nat × Option Addr × Nat × Nat × Option Addr × Nat × Nat × Nat × Nat × World) (fun x_ => match x_ with | (i, y, qa, ma, da, qb, mb, db, qc, mc, dc, qe, me, de, lo, hi, wr) => (Ext w wr) ∧ (Own wr b1 ([.slice qa ma da, .slice qb mb db, .slice qc mc dc, .slice qe me de, .int .i64 y.T, .int .i64 y.Q]) 81) ∧ (Own wr b2 ([.slice none 0 0, .slice none 0 0, .slice none 0 0, .slice none 0 0, .int .i64 0, .int .i64 0]) 81) ∧ (SlF i64c 1 wr lo hi qa ma da y.P.S) ∧ (SlF i64c 1 wr lo hi qb mb db y.P.W) ∧ (SlF i64c 1 wr lo hi qc mc dc y.P.G) ∧ (SlF i64c 1 wr lo hi qe me de y.L) ∧ (w5.heap.size ≤ wr.heap.size) ∧ (i ≤ n7) ∧ (isSel y = true) ∧ (playS ms z = playS (ms.drop i) y) ∧ (b2 + 1 ≤ lo ∧ hi ≤ wr.heap.size)) (fun x_ => match x_ with | (i, y, qa, ma, da, qb, mb, db, qc, mc, dc, qe, me, de, lo, hi, wr) => [(1, .slice u7 n7 v7), (2, .pointer (some ⟨b1, 0, none⟩)), (4, .pointer (some ⟨b2, 0, none⟩)), (7, .int .i64 (i : Int))]) (fun x_ => match x_ with | (i, y, qa, ma, da, qb, mb, db, qc, mc, dc, qe, me, de, lo, hi, wr) => wr) (fun x_ => match x_ with | (i, y, qa, ma, da, qb, mb, db, qc, mc, dc, qe, me, de, lo, hi, wr) => n7 - i) ?_ (0, z, g28_0, g28_1, g28_2, g28_3, g28_4, g28_5, g28_6, g28_7, g28_8, g28_9, n6, g28_10, (b2 + 1), w5.heap.size, w5) (⟨E, O5, O2, (f28_0.wide (by omega) (by omega)), (f28_1.wide (by omega) (by omega)), (f28_2.wide (by omega) (by omega)), (f28_3.wide (by omega) (by omega)), Nat.le_refl _, by omega, hS, rfl, by omega⟩) ⟨rfl, rfl, rfl, rfl, trivial⟩ rfl
 intro i_ hI_ hback7
 obtain ⟨i, y, qa, ma, da, qb, mb, db, qc, mc, dc, qe, me, de, lo, hi, wr⟩ := i_
 obtain ⟨E, O_b1, O_b2, FA, FB, FC, FE, lz_wr, hi7, hyS, hpl, hr⟩ := hI_
 try dsimp only
 have zr := E.size
 have lt_b1 := O_b1.lt
 have lt_b2 := O_b2.lt
 refine run_seq ?_
 refine sr_ ?_
 refine vm_ rfl rfl rfl ?_
 refine vm_ rfl rfl rfl ?_
 refine oz_ (xlen Tryz.underlying24 rfl) rfl rfl ?_
 refine oz_ (xlss rfl rfl _ rfl) rfl rfl ?_
 refine ods (fun c32 => ?_) (fun c32 => ?_)
 rotate_left
 ·
  refine cg_ rfl ?_
  refine run_exit rfl ?_
  refine sr_ ?_
  refine oz_ (v := .agg #[.slice qa ma da, .slice qb mb db, .slice qc mc dc, .slice qe me de, .int .i64 y.T, .int .i64 y.Q]) (xloadN Tryz.isAgg81 Tryz.sizeOf81 rfl (O_b1.cells) rfl) rfl rfl ?_
  refine vm_ rfl rfl rfl ?_
  refine oz_ (xlen Tryz.underlying24 rfl) rfl rfl ?_
  refine ostoreN (vs := _) Tryz.sizeOf81 rfl rfl O_b2 rfl (by simp) (by simp [Value.oneCell']) rfl ?_
  intro w6 on6 O6
  have hz6 := on6.size
  have E := on6.ext E (by omega)
  replace FA := FA.only on6 (by omega)
  replace FB := FB.only on6 (by omega)
  replace FC := FC.only on6 (by omega)
  replace FE := FE.only on6 (by omega)
  replace O6 : Own w6 b2 [.slice qa ma da, .slice qb mb db, .slice qc mc dc, .slice qe me de, .int .i64 y.T, .int .i64 y.Q] 81 := O6
  refine va_ rfl rfl rfl ?_
  refine vn_ rfl rfl rfl ?_
  refine run_ret Tryz.func55 (rescCTT rfl rfl (run_loadVar_cells Tryz.isAgg81 Tryz.sizeOf81 O6.cells rfl) rfl rfl) ?_
  have hst : playS ms z = (y, 0) := by rw [hpl, List.drop_of_length_le (by omega), play_nil]
  exact ⟨_, rfl, E, _, _, _, _, _, _, _, _, _, _, _, _, _, by rw [hst], by rw [hst]; exact (FA.wide (by omega) (by omega)), by rw [hst]; exact (FB.wide (by omega) (by omega)), by rw [hst]; exact (FC.wide (by omega) (by omega)), by rw [hst]; exact (FE.wide (by omega) (by omega))⟩
 have hil : i < ms.length := by omega
 refine ct_ rfl ?_
 refine run_skip ?_
 refine run_seq ?_
 refine run_block ?_
 refine run_seq ?_
 have hcut9 := cut_size (w := wr) (k := b2) (by omega)
 have RE := ext_to_cut E (k := b2) (by omega) (by omega)
 have RO_b1 := O_b1.cut (k := b2) (by omega) (by omega)
 refine run_heldC (ext_cut (w := wr) (k := b2) (by omega)) (by kernel_rfl) ?_
 intro wh9 F
 have zh9 := F.size
 have E := E.trans F
 replace FA := FA.ext F
 replace FB := FB.ext F
 replace FC := FC.ext F
 replace FE := FE.ext F
 replace O_b1 := O_b1.ext F
 replace O_b2 := O_b2.ext F
 replace F := (ext_cut (w := wr) (k := b2) (by omega)).trans F
 refine h_take 0 (v := .agg #[.slice qa ma da, .slice qb mb db, .slice qc mc dc, .slice qe me de, .int .i64 y.T, .int .i64 y.Q]) rfl (by kernel_rfl) (by kernel_rfl) (by kernel_rfl) (fun w' x_ => xloadN Tryz.isAgg81 Tryz.sizeOf81 rfl ((RO_b1.cells).ext x_) rfl) rfl rfl rfl F ?_
 refine h_take 1 rfl (by kernel_rfl) (by kernel_rfl) (by kernel_rfl) (fun w' x_ => xmove rfl) rfl rfl rfl F ?_
 refine h_take 2 rfl (by kernel_rfl) (by kernel_rfl) (by kernel_rfl) (fun w' x_ => xmove rfl) rfl rfl rfl F ?_
 have h39 := (H7.ext RE).at (i := i) (by omega)
 refine h_take 3 rfl (by kernel_rfl) (by kernel_rfl) (by kernel_rfl) (fun w' x_ => xindexN (i := i) Tryz.underlying24 Tryz.sizeOf2 rfl rfl rfl ((H7.ext RE).p (i := i) (by omega)) (by have := (H7.ext RE).len; omega)) rfl rfl rfl F ?_
 refine h_take 4 (v := .int .i64 ms[i]) rfl (by kernel_rfl) (by kernel_rfl) (by kernel_rfl) (fun w' x_ => xloadz Tryz.isAgg2 rfl ((h39).ext x_) rfl) rfl rfl rfl F ?_
 refine h_ready (rs := [5, 9]) (by kernel_rfl) (by decide) ⟨?_, ?_, trivial⟩
 ·
  refine hs_call rfl (xcall Tryz.call103 rfl) rfl rfl rfl (l14Move_ok _ _ _ _ _ _ _ _ _ _ _ _ y ms[i] _ (FA.sl) (FB.sl) (FC.sl) (FE.sl) hyS) ?_
  rintro _ w6 ⟨e6, q41_1, m41_1, d41_1, q41_2, m41_2, d41_2, q41_3, m41_3, d41_3, q41_6, m41_6, d41_6, T41, Q41_, rfl, ht41, F41_1, F41_2, F41_3, F41_6⟩
  have z6 := e6.size
  have E := E.trans e6
  replace FA := FA.ext e6
  replace FB := FB.ext e6
  replace FC := FC.ext e6
  replace FE := FE.ext e6
  replace O_b1 := O_b1.ext e6
  replace O_b2 := O_b2.ext e6
  have F := F.trans e6
  refine ⟨F, ?_⟩
  refine h_take 6 rfl (by kernel_rfl) (by kernel_rfl) (by kernel_rfl) (fun w' x_ => xmove rfl) rfl rfl rfl F ?_
  refine h_take 7 rfl (by kernel_rfl) (by kernel_rfl) (by kernel_rfl) (fun w' x_ => xextract rfl rfl) rfl rfl rfl F ?_
  refine h_take 8 rfl (by kernel_rfl) (by kernel_rfl) (by kernel_rfl) (fun w' x_ => xextract rfl rfl) rfl rfl rfl F ?_
  refine h_ready (rs := [9]) (by kernel_rfl) (by decide) ⟨?_, trivial⟩
  refine hs_alloc Tryz.zeroValue81 F rfl rfl rfl ?_
  intro b7 w7 e7 hb7 hz7 O7
  have E := E.trans e7
  replace FA := FA.ext e7
  replace FB := FB.ext e7
  replace FC := FC.ext e7
  replace FE := FE.ext e7
  replace F41_1 := F41_1.ext e7
  replace F41_2 := F41_2.ext e7
  replace F41_3 := F41_3.ext e7
  replace F41_6 := F41_6.ext e7
  replace O_b1 := O_b1.ext e7
  replace O_b2 := O_b2.ext e7
  have F := F.trans e7
  replace O7 : Own w7 b7 [.slice none 0 0, .slice none 0 0, .slice none 0 0, .slice none 0 0, .int .i64 0, .int .i64 0] 81 := O7
  refine h_ready (rs := [10]) (by kernel_rfl) (by decide) ⟨?_, trivial⟩
  refine hs_storeN (vs := [.slice q41_1 m41_1 d41_1, .slice q41_2 m41_2 d41_2, .slice q41_3 m41_3 d41_3, .slice q41_6 m41_6 d41_6, .int .i64 T41, .int .i64 Q41_]) Tryz.sizeOf81 rfl rfl O7 rfl (by simp) (by simp [Value.oneCell']) F (by omega) rfl rfl ?_
  intro w8 on8 O8
  have hz8 := on8.size
  have E := on8.ext E (by omega)
  replace FA := FA.only on8 (by omega)
  replace FB := FB.only on8 (by omega)
  replace FC := FC.only on8 (by omega)
  replace FE := FE.only on8 (by omega)
  replace F41_1 := F41_1.only on8 (by omega)
  replace F41_2 := F41_2.only on8 (by omega)
  replace F41_3 := F41_3.only on8 (by omega)
  replace F41_6 := F41_6.only on8 (by omega)
  replace O_b1 := on8.own O_b1 (by omega)
  replace O_b2 := on8.own O_b2 (by omega)
  have F := on8.ext F (by omega)
  replace O8 : Own w8 b7 [.slice q41_1 m41_1 d41_1, .slice q41_2 m41_2 d41_2, .slice q41_3 m41_3 d41_3, .slice q41_6 m41_6 d41_6, .int .i64 T41, .int .i64 Q41_] 81 := O8
  refine h_take 11 rfl (by kernel_rfl) (by kernel_rfl) (by kernel_rfl) (fun w' x_ => xassign rfl) rfl rfl rfl F ?_
  refine h_doneC (by kernel_rfl) ?_
  refine run_seq ?_
  refine sr_ ?_
  refine vm_ rfl rfl rfl ?_
  refine oz_ (xneq rfl rfl _ rfl) rfl rfl ?_
  refine ods (fun c45 => ?_) (fun c45 => ?_)
  ·
   refine ct_ rfl ?_
   refine sr_ ?_
   refine oz_ (v := .agg #[.slice qa ma da, .slice qb mb db, .slice qc mc dc, .slice qe me de, .int .i64 y.T, .int .i64 y.Q]) (xloadN Tryz.isAgg81 Tryz.sizeOf81 rfl (O_b1.cells) rfl) rfl rfl ?_
   refine vm_ rfl rfl rfl ?_
   refine vm_ rfl rfl rfl ?_
   refine ostoreN (vs := _) Tryz.sizeOf81 rfl rfl O_b2 rfl (by simp) (by simp [Value.oneCell']) rfl ?_
   intro w9 on9 O9
   have hz9 := on9.size
   have E := on9.ext E (by omega)
   replace FA := FA.only on9 (by omega)
   replace FB := FB.only on9 (by omega)
   replace FC := FC.only on9 (by omega)
   replace FE := FE.only on9 (by omega)
   replace O9 : Own w9 b2 [.slice qa ma da, .slice qb mb db, .slice qc mc dc, .slice qe me de, .int .i64 y.T, .int .i64 y.Q] 81 := O9
   refine va_ rfl rfl rfl ?_
   refine vn_ rfl rfl rfl ?_
   refine run_ret Tryz.func55 (rescCTT rfl rfl (run_loadVar_cells Tryz.isAgg81 Tryz.sizeOf81 O9.cells rfl) rfl rfl) ?_
   have hst : playS ms z = (y, moveCode y ms[i]) := by rw [hpl, play_bad hil (by omega)]
   exact ⟨_, rfl, E, _, _, _, _, _, _, _, _, _, _, _, _, _, by rw [hst], by rw [hst]; exact (FA.wide (by omega) (by omega)), by rw [hst]; exact (FB.wide (by omega) (by omega)), by rw [hst]; exact (FC.wide (by omega) (by omega)), by rw [hst]; exact (FE.wide (by omega) (by omega))⟩
  have hmc : moveCode y ms[i] = 0 := by omega
  obtain ⟨hT33, hQ33⟩ := ht41 hmc
  replace F41_1 := F41_1.get hmc
  replace F41_2 := F41_2.get hmc
  replace F41_3 := F41_3.get hmc
  replace F41_6 := F41_6.get hmc
  refine cf_ rfl ?_
  refine run_region ?_
  refine oz_ (v := .agg #[.slice q41_1 m41_1 d41_1, .slice q41_2 m41_2 d41_2, .slice q41_3 m41_3 d41_3, .slice q41_6 m41_6 d41_6, .int .i64 T41, .int .i64 Q41_]) (xloadN Tryz.isAgg81 Tryz.sizeOf81 rfl (O8.cells) rfl) rfl rfl ?_
  refine ostoreN (vs := _) Tryz.sizeOf81 rfl rfl O_b1 rfl (by simp) (by simp [Value.oneCell']) rfl ?_
  intro w9 on9 O9
  have hz9 := on9.size
  have E := on9.ext E (by omega)
  replace F41_1 := F41_1.only on9 (by omega)
  replace F41_2 := F41_2.only on9 (by omega)
  replace F41_3 := F41_3.only on9 (by omega)
  replace F41_6 := F41_6.only on9 (by omega)
  replace O_b2 := on9.own O_b2 (by omega)
  replace O9 : Own w9 b1 [.slice q41_1 m41_1 d41_1, .slice q41_2 m41_2 d41_2, .slice q41_3 m41_3 d41_3, .slice q41_6 m41_6 d41_6, .int .i64 T41, .int .i64 Q41_] 81 := O9
  refine ops_nil ?_
  refine run_inBlock ?_
  refine run_region ?_
  refine vm_ rfl rfl rfl ?_
  refine oz_ (xadd rfl rfl (by unfold I64; omega)) rfl rfl ?_
  refine vn_ rfl rfl rfl ?_
  refine run_sub ?_ (hback7 (i + 1, (moveS y ms[i]), q41_1, m41_1, d41_1, q41_2, m41_2, d41_2, q41_3, m41_3, d41_3, q41_6, m41_6, d41_6, (b2 + 1), w9.heap.size, w9) (⟨E, by rw [← hT33, ← hQ33]; exact O9, O_b2, (F41_1.wide (by omega) (by omega)), (F41_2.wide (by omega) (by omega)), (F41_3.wide (by omega) (by omega)), (F41_6.wide (by omega) (by omega)), by omega, by omega, (isSel_move hyS hmc).1, by rw [hpl, play_go hil hmc], by omega⟩) (by first | omega | (dsimp only; omega)))
  exact ⟨rfl, rfl, rfl, rfl, trivial⟩
 refine hs_alloc Tryz.zeroValue81 F rfl rfl rfl ?_
 intro b6 w6 e6 hb6 hz6 O6
 have E := E.trans e6
 replace FA := FA.ext e6
 replace FB := FB.ext e6
 replace FC := FC.ext e6
 replace FE := FE.ext e6
 replace O_b1 := O_b1.ext e6
 replace O_b2 := O_b2.ext e6
 have F := F.trans e6
 replace O6 : Own w6 b6 [.slice none 0 0, .slice none 0 0, .slice none 0 0, .slice none 0 0, .int .i64 0, .int .i64 0] 81 := O6
 refine h_ready (rs := [5]) (by kernel_rfl) (by decide) ⟨?_, trivial⟩
 refine hs_call rfl (xcall Tryz.call103 rfl) rfl rfl rfl (l14Move_ok _ _ _ _ _ _ _ _ _ _ _ _ y ms[i] _ (FA.sl) (FB.sl) (FC.sl) (FE.sl) hyS) ?_
 rintro _ w7 ⟨e7, q41_1, m41_1, d41_1, q41_2, m41_2, d41_2, q41_3, m41_3, d41_3, q41_6, m41_6, d41_6, T41, Q41_, rfl, ht41, F41_1, F41_2, F41_3, F41_6⟩
 have z7 := e7.size
 have E := E.trans e7
 replace FA := FA.ext e7
 replace FB := FB.ext e7
 replace FC := FC.ext e7
 replace FE := FE.ext e7
 replace O_b1 := O_b1.ext e7
 replace O_b2 := O_b2.ext e7
 replace O6 := O6.ext e7
 have F := F.trans e7
 refine ⟨F, ?_⟩
 refine h_take 6 rfl (by kernel_rfl) (by kernel_rfl) (by kernel_rfl) (fun w' x_ => xmove rfl) rfl rfl rfl F ?_
 refine h_take 7 rfl (by kernel_rfl) (by kernel_rfl) (by kernel_rfl) (fun w' x_ => xextract rfl rfl) rfl rfl rfl F ?_
 refine h_take 8 rfl (by kernel_rfl) (by kernel_rfl) (by kernel_rfl) (fun w' x_ => xextract rfl rfl) rfl rfl rfl F ?_
 refine h_ready (rs := [10]) (by kernel_rfl) (by decide) ⟨?_, trivial⟩
 refine hs_storeN (vs := [.slice q41_1 m41_1 d41_1, .slice q41_2 m41_2 d41_2, .slice q41_3 m41_3 d41_3, .slice q41_6 m41_6 d41_6, .int .i64 T41, .int .i64 Q41_]) Tryz.sizeOf81 rfl rfl O6 rfl (by simp) (by simp [Value.oneCell']) F (by omega) rfl rfl ?_
 intro w8 on8 O8
 have hz8 := on8.size
 have E := on8.ext E (by omega)
 replace FA := FA.only on8 (by omega)
 replace FB := FB.only on8 (by omega)
 replace FC := FC.only on8 (by omega)
 replace FE := FE.only on8 (by omega)
 replace F41_1 := F41_1.only on8 (by omega)
 replace F41_2 := F41_2.only on8 (by omega)
 replace F41_3 := F41_3.only on8 (by omega)
 replace F41_6 := F41_6.only on8 (by omega)
 replace O_b1 := on8.own O_b1 (by omega)
 replace O_b2 := on8.own O_b2 (by omega)
 have F := on8.ext F (by omega)
 replace O8 : Own w8 b6 [.slice q41_1 m41_1 d41_1, .slice q41_2 m41_2 d41_2, .slice q41_3 m41_3 d41_3, .slice q41_6 m41_6 d41_6, .int .i64 T41, .int .i64 Q41_] 81 := O8
 refine h_take 11 rfl (by kernel_rfl) (by kernel_rfl) (by kernel_rfl) (fun w' x_ => xassign rfl) rfl rfl rfl F ?_
 refine h_doneC (by kernel_rfl) ?_
 refine run_seq ?_
 refine sr_ ?_
 refine vm_ rfl rfl rfl ?_
 refine oz_ (xneq rfl rfl _ rfl) rfl rfl ?_
 refine ods (fun c45 => ?_) (fun c45 => ?_)
 ·
  refine ct_ rfl ?_
  refine sr_ ?_
  refine oz_ (v := .agg #[.slice qa ma da, .slice qb mb db, .slice qc mc dc, .slice qe me de, .int .i64 y.T, .int .i64 y.Q]) (xloadN Tryz.isAgg81 Tryz.sizeOf81 rfl (O_b1.cells) rfl) rfl rfl ?_
  refine vm_ rfl rfl rfl ?_
  refine vm_ rfl rfl rfl ?_
  refine ostoreN (vs := _) Tryz.sizeOf81 rfl rfl O_b2 rfl (by simp) (by simp [Value.oneCell']) rfl ?_
  intro w9 on9 O9
  have hz9 := on9.size
  have E := on9.ext E (by omega)
  replace FA := FA.only on9 (by omega)
  replace FB := FB.only on9 (by omega)
  replace FC := FC.only on9 (by omega)
  replace FE := FE.only on9 (by omega)
  replace O9 : Own w9 b2 [.slice qa ma da, .slice qb mb db, .slice qc mc dc, .slice qe me de, .int .i64 y.T, .int .i64 y.Q] 81 := O9
  refine va_ rfl rfl rfl ?_
  refine vn_ rfl rfl rfl ?_
  refine run_ret Tryz.func55 (rescCTT rfl rfl (run_loadVar_cells Tryz.isAgg81 Tryz.sizeOf81 O9.cells rfl) rfl rfl) ?_
  have hst : playS ms z = (y, moveCode y ms[i]) := by rw [hpl, play_bad hil (by omega)]
  exact ⟨_, rfl, E, _, _, _, _, _, _, _, _, _, _, _, _, _, by rw [hst], by rw [hst]; exact (FA.wide (by omega) (by omega)), by rw [hst]; exact (FB.wide (by omega) (by omega)), by rw [hst]; exact (FC.wide (by omega) (by omega)), by rw [hst]; exact (FE.wide (by omega) (by omega))⟩
 have hmc : moveCode y ms[i] = 0 := by omega
 obtain ⟨hT33, hQ33⟩ := ht41 hmc
 replace F41_1 := F41_1.get hmc
 replace F41_2 := F41_2.get hmc
 replace F41_3 := F41_3.get hmc
 replace F41_6 := F41_6.get hmc
 refine cf_ rfl ?_
 refine run_region ?_
 refine oz_ (v := .agg #[.slice q41_1 m41_1 d41_1, .slice q41_2 m41_2 d41_2, .slice q41_3 m41_3 d41_3, .slice q41_6 m41_6 d41_6, .int .i64 T41, .int .i64 Q41_]) (xloadN Tryz.isAgg81 Tryz.sizeOf81 rfl (O8.cells) rfl) rfl rfl ?_
 refine ostoreN (vs := _) Tryz.sizeOf81 rfl rfl O_b1 rfl (by simp) (by simp [Value.oneCell']) rfl ?_
 intro w9 on9 O9
 have hz9 := on9.size
 have E := on9.ext E (by omega)
 replace F41_1 := F41_1.only on9 (by omega)
 replace F41_2 := F41_2.only on9 (by omega)
 replace F41_3 := F41_3.only on9 (by omega)
 replace F41_6 := F41_6.only on9 (by omega)
 replace O_b2 := on9.own O_b2 (by omega)
 replace O9 : Own w9 b1 [.slice q41_1 m41_1 d41_1, .slice q41_2 m41_2 d41_2, .slice q41_3 m41_3 d41_3, .slice q41_6 m41_6 d41_6, .int .i64 T41, .int .i64 Q41_] 81 := O9
 refine ops_nil ?_
 refine run_inBlock ?_
 refine run_region ?_
 refine vm_ rfl rfl rfl ?_
 refine oz_ (xadd rfl rfl (by unfold I64; omega)) rfl rfl ?_
 refine vn_ rfl rfl rfl ?_
 refine run_sub ?_ (hback7 (i + 1, (moveS y ms[i]), q41_1, m41_1, d41_1, q41_2, m41_2, d41_2, q41_3, m41_3, d41_3, q41_6, m41_6, d41_6, (b2 + 1), w9.heap.size, w9) (⟨E, by rw [← hT33, ← hQ33]; exact O9, O_b2, (F41_1.wide (by omega) (by omega)), (F41_2.wide (by omega) (by omega)), (F41_3.wide (by omega) (by omega)), (F41_6.wide (by omega) (by omega)), by omega, by omega, (isSel_move hyS hmc).1, by rw [hpl, play_go hil hmc], by omega⟩) (by first | omega | (dsimp only; omega)))
 exact ⟨rfl, rfl, rfl, rfl, trivial⟩
end Go.Proofs.YtchblgaklknkcaaGreat
