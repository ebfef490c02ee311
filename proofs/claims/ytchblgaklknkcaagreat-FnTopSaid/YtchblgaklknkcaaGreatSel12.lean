/-
  Selections: the walks. No condition beyond those written in each theorem.
-/
import Derived.Test.YtchblgaklknkcaaGreatClr12
namespace Go.Proofs.YtchblgaklknkcaaGreat
open Go.RowKit
set_option linter.unusedVariables false
set_option linter.unusedSimpArgs false
set_option linter.unusedSectionVars false
set_option maxRecDepth 4000
structure SlC (g : Prop) (w : World) (lo hi : Nat) (p : Option Addr) (n c : Nat) (xs : List Int) : Prop where
  get : g → SlF i64c 1 w lo hi p n c xs
section
variable {g : Prop} {w w' : World} {lo hi lo' hi' l h' n c : Nat} {p : Option Addr} {xs : List Int}
theorem SlC.ext (h : SlC g w lo hi p n c xs) (e : Ext w w') : SlC g w' lo hi p n c xs := ⟨fun k => (h.get k).ext e⟩
theorem SlC.off (h : SlC g w lo hi p n c xs) (m : Mk l h' w w') (hd : h' ≤ lo ∨ hi ≤ l) : SlC g w' lo hi p n c xs := ⟨fun k => (h.get k).off m hd⟩
theorem SlC.only {b : Nat} (h : SlC g w lo hi p n c xs) (o : Only b w w') (hd : b < lo ∨ hi ≤ b) : SlC g w' lo hi p n c xs := ⟨fun k => (h.get k).only o hd⟩
theorem SlC.wide (h : SlC g w lo hi p n c xs) (hl : lo' ≤ lo) (hh : hi ≤ hi') : SlC g w lo' hi' p n c xs := ⟨fun k => (h.get k).wide hl hh⟩
end
theorem sel_le {z : Sel} (h : isSel z = true) : isPan z.P = true ∧ areStr z.L = true ∧ z.L.length = 2 ∧ (0 ≤ z.T ∧ z.T ≤ 1) ∧ (0 ≤ z.Q ∧ z.Q ≤ 2) := by
 obtain ⟨h1, h2, h3, h4⟩ := isSel_iff.1 h
 exact ⟨h1, h2, (areStr_iff.1 h2).1, h3, h4⟩
theorem pass_t {z : Sel} (h : overS z = true) : passCode z = 5 := by rw [passCode, if_pos h]
theorem pass_f {z : Sel} (h : overS z = false) : passCode z = 0 := by rw [passCode, if_neg (by simp [h])]
theorem str_5 {z : Sel} {m : Int} (h : overS z = true) : strCode z m = 5 := by rw [strCode, if_pos h]
theorem str_2 {z : Sel} {m : Int} (h : overS z = false) (h2 : m < 0 ∨ (z.P.S.length : Int) ≤ m) : strCode z m = 2 := by rw [strCode, if_neg (by simp [h]), if_pos h2]
theorem str_4 {z : Sel} {k : Nat} (h : overS z = false) (hk : k < z.P.S.length) (h3 : z.P.S[k] = 0) : strCode z (k : Int) = 4 := by
 rw [strCode, if_neg (by simp [h]), if_neg (by omega), if_pos (by rw [Int.toNat_natCast, atI_of hk]; exact h3)]
theorem str_3 {z : Sel} {k : Nat} (h : overS z = false) (hk : k < z.P.S.length) (h3 : z.P.S[k] ≠ 0) (ht : z.T.toNat < z.L.length) (h4 : z.L[z.T.toNat] = 0) : strCode z (k : Int) = 3 := by
 rw [strCode, if_neg (by simp [h]), if_neg (by omega), if_neg (by rw [Int.toNat_natCast, atI_of hk]; exact h3), if_pos (by rw [atI_of ht]; exact h4)]
theorem str_0 {z : Sel} {k : Nat} (h : overS z = false) (hk : k < z.P.S.length) (h3 : z.P.S[k] ≠ 0) (ht : z.T.toNat < z.L.length) (h4 : z.L[z.T.toNat] ≠ 0) : strCode z (k : Int) = 0 := by
 rw [strCode, if_neg (by simp [h]), if_neg (by omega), if_neg (by rw [Int.toNat_natCast, atI_of hk]; exact h3), if_neg (by rw [atI_of ht]; exact h4)]
theorem pass_over {z : Sel} (h : ¬ passCode z ≠ 0) : overS z = false := passCode_zero (by omega)
theorem str_pc {z : Sel} {m : Int} (h : passCode z ≠ 0) : strCode z m = passCode z := by
 have : overS z = true := by
   cases hh : overS z with
   | true => rfl
   | false => exact absurd (pass_f hh) h
 rw [str_5 this, pass_t this]
theorem play_nil {z : Sel} : playS [] z = (z, 0) := rfl
theorem play_bad {z : Sel} {ms : List Int} {k : Nat} (hk : k < ms.length) (h : moveCode z ms[k] ≠ 0) : playS (ms.drop k) z = (z, moveCode z ms[k]) := by
 rw [List.drop_eq_getElem_cons hk, playS, if_pos h]
theorem play_go {z : Sel} {ms : List Int} {k : Nat} (hk : k < ms.length) (h : moveCode z ms[k] = 0) : playS (ms.drop k) z = playS (ms.drop (k + 1)) (moveS z ms[k]) := by
 rw [List.drop_eq_getElem_cons hk, playS, if_neg (by simp [h])]
attribute [local irreducible] areTies causeB biasB clr clearP emptyP isPan meas bad overS passCode strCode playS isSel areStr
set_option maxHeartbeats 400000 in
theorem over_ok (u1 : Option Addr) (n1 v1 : Nat) (u2 : Option Addr) (n2 v2 : Nat) (u3 : Option Addr) (n3 v3 : Nat) (u6 : Option Addr) (n6 v6 : Nat) (z : Sel) (w : World) (H1 : Sl i64c 1 w u1 n1 v1 z.P.S) (H2 : Sl i64c 1 w u2 n2 v2 z.P.W) (H3 : Sl i64c 1 w u3 n3 v3 z.P.G) (H6 : Sl i64c 1 w u6 n6 v6 z.L) (hL : areStr z.L = true) : Ret Tryz.prog 153 [.agg #[.slice u1 n1 v1, .slice u2 n2 v2, .slice u3 n3 v3, .slice u6 n6 v6, .int .i64 z.T, .int .i64 z.Q]] w (Pv w (.bool (overS z))) := by
 refine ret_of_run (N := 12) Tryz.func153 rfl rfl rfl ?_
 have E : Ext w w := Ext.refl w
 refine sr_ ?_
 refine obox rfl rfl rfl ?_
 intro b1 w1 e1 hb1 hz1 O1
 have E := E.trans e1
 replace O1 : Own w1 b1 [.slice u1 n1 v1, .slice u2 n2 v2, .slice u3 n3 v3, .slice u6 n6 v6, .int .i64 z.T, .int .i64 z.Q] 81 := O1
 refine vn_ rfl rfl rfl ?_
 refine sr_ ?_
 refine oz_ (xfieldAddr fo81f3 rfl) rfl rfl ?_
 refine oz_ (v := .int .i64 z.Q) (xload1 Tryz.isAgg2 rfl (O1.cells) rfl) rfl rfl ?_
 refine oz_ (xeql rfl rfl _ rfl) rfl rfl ?_
 refine ods (fun c5 => ?_) (fun c5 => ?_)
 ·
  refine vm_ rfl rfl rfl ?_
  refine o2_ rfl rfl rfl rfl ?_
  refine o2_ rfl rfl rfl rfl ?_
  refine oz_ (xpick_t rfl rfl) rfl rfl ?_
  refine vn_ rfl rfl rfl ?_
  refine run_ret Tryz.func153 (res1 rfl rfl) ?_
  exact ⟨_, rfl, by unfold overS; rw [decide_eq_true c5]; rfl, E⟩
 refine vm_ rfl rfl rfl ?_
 refine oz_ (xfieldAddr fo81f1 rfl) rfl rfl ?_
 refine oz_ (v := .slice u6 n6 v6) (xload1 Tryz.isAgg24 rfl (O1.cells) rfl) rfl rfl ?_
 refine oc (xcall Tryz.call162 rfl) rfl rfl rfl (sumS_ok _ _ _ _ _ (H6.ext E) hL) ?_
 rintro _ w2 ⟨rfl, e2⟩
 have z2 := e2.size
 have E := E.trans e2
 refine oz_ (xeql rfl rfl _ rfl) rfl rfl ?_
 refine oz_ (xpick_f rfl rfl) rfl rfl ?_
 refine vn_ rfl rfl rfl ?_
 refine run_ret Tryz.func153 (res1 rfl rfl) ?_
 exact ⟨_, rfl, by unfold overS; rw [decide_eq_false c5]; rfl, E⟩
set_option maxHeartbeats 400000 in
theorem l14Over_ok (u1 : Option Addr) (n1 v1 : Nat) (u2 : Option Addr) (n2 v2 : Nat) (u3 : Option Addr) (n3 v3 : Nat) (u6 : Option Addr) (n6 v6 : Nat) (z : Sel) (w : World) (H1 : Sl i64c 1 w u1 n1 v1 z.P.S) (H2 : Sl i64c 1 w u2 n2 v2 z.P.W) (H3 : Sl i64c 1 w u3 n3 v3 z.P.G) (H6 : Sl i64c 1 w u6 n6 v6 z.L) (hL : areStr z.L = true) : Ret Tryz.prog 136 [.agg #[.slice u1 n1 v1, .slice u2 n2 v2, .slice u3 n3 v3, .slice u6 n6 v6, .int .i64 z.T, .int .i64 z.Q]] w (Pv w (.bool (overS z))) := by
 refine ret_of_run (N := 18) Tryz.func136 rfl rfl rfl ?_
 have hl2 := (areStr_iff.1 hL).1
 have hA := str_at hL 0
 have hB := str_at hL 1
 have eA := atI_of (show 0 < z.L.length by omega)
 have eB := atI_of (show 1 < z.L.length by omega)
 rw [eA] at hA
 rw [eB] at hB
 have E : Ext w w := Ext.refl w
 refine sr_ ?_
 refine obox rfl rfl rfl ?_
 intro b1 w1 e1 hb1 hz1 O1
 have E := E.trans e1
 replace O1 : Own w1 b1 [.slice u1 n1 v1, .slice u2 n2 v2, .slice u3 n3 v3, .slice u6 n6 v6, .int .i64 z.T, .int .i64 z.Q] 81 := O1
 refine vn_ rfl rfl rfl ?_
 refine run_seq ?_
 refine run_draw (by kernel_rfl) (by kernel_rfl) ?_
 refine qv (fun w' x_ => xfieldAddr fo81f3 rfl) rfl rfl rfl ?_
 refine qv (v := .int .i64 z.Q) (fun w' x_ => xload1 Tryz.isAgg2 rfl ((O1.cells).ext x_) rfl) rfl rfl rfl ?_
 refine qv (fun w' x_ => xeql rfl rfl _ rfl) rfl rfl rfl ?_
 refine qds (fun c5 => ?_) (fun c5 => ?_)
 ·
  refine qv (fun w' x_ => xmove rfl) rfl rfl rfl ?_
  refine qg rfl rfl rfl ?_
  refine qg rfl rfl rfl ?_
  refine qg rfl rfl rfl ?_
  refine qg rfl rfl rfl ?_
  refine qg rfl rfl rfl ?_
  refine qg rfl rfl rfl ?_
  refine qg rfl rfl rfl ?_
  refine qg rfl rfl rfl ?_
  refine qg rfl rfl rfl ?_
  refine qg rfl rfl rfl ?_
  refine qv (fun w' x_ => xpick_t rfl rfl) rfl rfl rfl ?_
  refine qv (fun w' x_ => xassign rfl) rfl rfl rfl ?_
  refine q_nil ?_
  intro w2 e2
  have z2 := e2.size
  have E := E.trans e2
  refine run_ret Tryz.func136 (res1 rfl rfl) ?_
  exact ⟨_, rfl, by unfold overS; rw [decide_eq_true c5]; rfl, E⟩
 refine qv (fun w' x_ => xmove rfl) rfl rfl rfl ?_
 refine qv (fun w' x_ => xfieldAddr fo81f1 rfl) rfl rfl rfl ?_
 refine qv (v := .slice u6 n6 v6) (fun w' x_ => xload1 Tryz.isAgg24 rfl ((O1.cells).ext x_) rfl) rfl rfl rfl ?_
 have h9 := (H6.ext E).at (i := 0) (by omega)
 refine qv (fun w' x_ => xindexN (i := 0) Tryz.underlying24 Tryz.sizeOf2 rfl rfl (by omega) ((H6.ext E).p (i := 0) (by omega)) (by have := (H6.ext E).len; omega)) rfl rfl rfl ?_
 refine qv (v := .int .i64 z.L[0]) (fun w' x_ => xloadz Tryz.isAgg2 rfl ((h9).ext x_) rfl) rfl rfl rfl ?_
 refine qv (fun w' x_ => xfieldAddr fo81f1 rfl) rfl rfl rfl ?_
 refine qv (v := .slice u6 n6 v6) (fun w' x_ => xload1 Tryz.isAgg24 rfl ((O1.cells).ext x_) rfl) rfl rfl rfl ?_
 have h13 := (H6.ext E).at (i := 1) (by omega)
 refine qv (fun w' x_ => xindexN (i := 1) Tryz.underlying24 Tryz.sizeOf2 rfl rfl (by omega) ((H6.ext E).p (i := 1) (by omega)) (by have := (H6.ext E).len; omega)) rfl rfl rfl ?_
 refine qv (v := .int .i64 z.L[1]) (fun w' x_ => xloadz Tryz.isAgg2 rfl ((h13).ext x_) rfl) rfl rfl rfl ?_
 refine qv (fun w' x_ => xadd rfl rfl (by unfold I64; omega)) rfl rfl rfl ?_
 refine qv (fun w' x_ => xeql rfl rfl _ rfl) rfl rfl rfl ?_
 refine qv (fun w' x_ => xpick_f rfl rfl) rfl rfl rfl ?_
 refine qv (fun w' x_ => xassign rfl) rfl rfl rfl ?_
 refine q_nil ?_
 intro w2 e2
 have z2 := e2.size
 have E := E.trans e2
 refine run_ret Tryz.func136 (res1 rfl rfl) ?_
 exact ⟨_, rfl, by unfold overS; rw [decide_eq_false c5, eA, eB]; rfl, E⟩
set_option maxHeartbeats 1000000 in
theorem IsSelection_ok (u1 : Option Addr) (n1 v1 : Nat) (u2 : Option Addr) (n2 v2 : Nat) (u3 : Option Addr) (n3 v3 : Nat) (u6 : Option Addr) (n6 v6 : Nat) (z : Sel) (w : World) (H1 : Sl i64c 1 w u1 n1 v1 z.P.S) (H2 : Sl i64c 1 w u2 n2 v2 z.P.W) (H3 : Sl i64c 1 w u3 n3 v3 z.P.G) (H6 : Sl i64c 1 w u6 n6 v6 z.L) (hb : n1 ≤ 1000 ∧ n2 ≤ 1000 ∧ n3 ≤ 1000) : Ret Tryz.prog 100 [.agg #[.slice u1 n1 v1, .slice u2 n2 v2, .slice u3 n3 v3, .slice u6 n6 v6, .int .i64 z.T, .int .i64 z.Q]] w (Pv w (.bool (isSel z))) := by
 refine ret_of_run (N := 36) Tryz.func100 rfl rfl rfl ?_
 have hn1 := H1.len
 have hn2 := H2.len
 have hn3 := H3.len
 have hn6 := H6.len
 have E : Ext w w := Ext.refl w
 refine sr_ ?_
 refine obox rfl rfl rfl ?_
 intro b1 w1 e1 hb1 hz1 O1
 have E := E.trans e1
 replace O1 : Own w1 b1 [.slice u1 n1 v1, .slice u2 n2 v2, .slice u3 n3 v3, .slice u6 n6 v6, .int .i64 z.T, .int .i64 z.Q] 81 := O1
 refine vn_ rfl rfl rfl ?_
 refine sr_ ?_
 refine oz_ (xfieldAddr fo81f0 rfl) rfl rfl ?_
 refine oz_ (v := .agg #[.slice u1 n1 v1, .slice u2 n2 v2, .slice u3 n3 v3]) (xloadN Tryz.isAgg79 Tryz.sizeOf79 rfl ((Cells.mid (pre := []) (row := [.slice u1 n1 v1, .slice u2 n2 v2, .slice u3 n3 v3]) (post := [.slice u6 n6 v6, .int .i64 z.T, .int .i64 z.Q]) (O1.cells))) rfl) rfl rfl ?_
 refine oc (xcall Tryz.call105 rfl) rfl rfl rfl (sIsPanel_ok _ _ _ _ _ _ _ _ _ z.P _ (H1.ext E) (H2.ext E) (H3.ext E) hb) ?_
 rintro _ w2 ⟨rfl, e2⟩
 have z2 := e2.size
 have E := E.trans e2
 replace O1 := O1.ext e2
 refine obs (fun c5 => ?_) (fun c5 => ?_)
 rotate_left
 ·
  refine vm_ rfl rfl rfl ?_
  refine o2_ rfl rfl rfl rfl ?_
  refine o2_ rfl rfl rfl rfl ?_
  refine oz_ (xpick_f rfl rfl) rfl rfl ?_
  refine vm_ rfl rfl rfl ?_
  refine o2_ rfl rfl rfl rfl ?_
  refine o2_ rfl rfl rfl rfl ?_
  refine og rfl rfl rfl ?_
  refine oz_ (xpick_f rfl rfl) rfl rfl ?_
  refine vm_ rfl rfl rfl ?_
  refine o2_ rfl rfl rfl rfl ?_
  refine o2_ rfl rfl rfl rfl ?_
  refine og rfl rfl rfl ?_
  refine oz_ (xpick_f rfl rfl) rfl rfl ?_
  refine vm_ rfl rfl rfl ?_
  refine o2_ rfl rfl rfl rfl ?_
  refine og rfl rfl rfl ?_
  refine oz_ (xpick_f rfl rfl) rfl rfl ?_
  refine vm_ rfl rfl rfl ?_
  refine o2_ rfl rfl rfl rfl ?_
  refine og rfl rfl rfl ?_
  refine oz_ (xpick_f rfl rfl) rfl rfl ?_
  refine vn_ rfl rfl rfl ?_
  refine run_ret Tryz.func100 (res1 rfl rfl) ?_
  exact ⟨_, rfl, by unfold isSel; rw [c5]; rfl, E⟩
 refine vm_ rfl rfl rfl ?_
 refine oz_ (xfieldAddr fo81f1 rfl) rfl rfl ?_
 refine oz_ (v := .slice u6 n6 v6) (xload1 Tryz.isAgg24 rfl (O1.cells) rfl) rfl rfl ?_
 refine oz_ (xlen Tryz.underlying24 rfl) rfl rfl ?_
 refine oz_ (xeql rfl rfl _ rfl) rfl rfl ?_
 refine ods (fun c10 => ?_) (fun c10 => ?_)
 rotate_left
 ·
  refine oz_ (xpick_t rfl rfl) rfl rfl ?_
  refine vm_ rfl rfl rfl ?_
  refine o2_ rfl rfl rfl rfl ?_
  refine o2_ rfl rfl rfl rfl ?_
  refine og rfl rfl rfl ?_
  refine oz_ (xpick_f rfl rfl) rfl rfl ?_
  refine vm_ rfl rfl rfl ?_
  refine o2_ rfl rfl rfl rfl ?_
  refine o2_ rfl rfl rfl rfl ?_
  refine og rfl rfl rfl ?_
  refine oz_ (xpick_f rfl rfl) rfl rfl ?_
  refine vm_ rfl rfl rfl ?_
  refine o2_ rfl rfl rfl rfl ?_
  refine og rfl rfl rfl ?_
  refine oz_ (xpick_f rfl rfl) rfl rfl ?_
  refine vm_ rfl rfl rfl ?_
  refine o2_ rfl rfl rfl rfl ?_
  refine og rfl rfl rfl ?_
  refine oz_ (xpick_f rfl rfl) rfl rfl ?_
  refine vn_ rfl rfl rfl ?_
  refine run_ret Tryz.func100 (res1 rfl rfl) ?_
  exact ⟨_, rfl, by unfold isSel areStr; rw [c5, decide_eq_false (show ¬ z.L.length = 2 by omega)]; rfl, E⟩
 refine oz_ (xpick_t rfl rfl) rfl rfl ?_
 refine vm_ rfl rfl rfl ?_
 refine oz_ (xfieldAddr fo81f1 rfl) rfl rfl ?_
 refine oz_ (v := .slice u6 n6 v6) (xload1 Tryz.isAgg24 rfl (O1.cells) rfl) rfl rfl ?_
 have h15 := (H6.ext E).at (i := 0) (by omega)
 refine oz_ (xindexN (i := 0) Tryz.underlying24 Tryz.sizeOf2 rfl rfl (by omega) ((H6.ext E).p (i := 0) (by omega)) (by have := (H6.ext E).len; omega)) rfl rfl ?_
 refine oz_ (v := .int .i64 z.L[0]) (xloadz Tryz.isAgg2 rfl (h15) rfl) rfl rfl ?_
 refine oc (xcall Tryz.call68 rfl) rfl rfl rfl (l01In_ok (z.L[0]) (0) (10) _) ?_
 rintro _ w_ ⟨rfl, hw_⟩
 replace hw_ := hw_.symm
 subst hw_
 refine obs (fun c17 => ?_) (fun c17 => ?_)
 rotate_left
 ·
  refine oz_ (xpick_t rfl rfl) rfl rfl ?_
  refine vm_ rfl rfl rfl ?_
  refine o2_ rfl rfl rfl rfl ?_
  refine o2_ rfl rfl rfl rfl ?_
  refine og rfl rfl rfl ?_
  refine oz_ (xpick_f rfl rfl) rfl rfl ?_
  refine vm_ rfl rfl rfl ?_
  refine o2_ rfl rfl rfl rfl ?_
  refine og rfl rfl rfl ?_
  refine oz_ (xpick_f rfl rfl) rfl rfl ?_
  refine vm_ rfl rfl rfl ?_
  refine o2_ rfl rfl rfl rfl ?_
  refine og rfl rfl rfl ?_
  refine oz_ (xpick_f rfl rfl) rfl rfl ?_
  refine vn_ rfl rfl rfl ?_
  refine run_ret Tryz.func100 (res1 rfl rfl) ?_
  have l2 : z.L.length = 2 := by omega
  have eA := atI_of (show 0 < z.L.length by omega)
  have eB := atI_of (show 1 < z.L.length by omega)
  exact ⟨_, rfl, by unfold isSel areStr; rw [c5, decide_eq_true l2, eA, c17]; simp, E⟩
 refine oz_ (xpick_t rfl rfl) rfl rfl ?_
 refine vm_ rfl rfl rfl ?_
 refine oz_ (xfieldAddr fo81f1 rfl) rfl rfl ?_
 refine oz_ (v := .slice u6 n6 v6) (xload1 Tryz.isAgg24 rfl (O1.cells) rfl) rfl rfl ?_
 have h22 := (H6.ext E).at (i := 1) (by omega)
 refine oz_ (xindexN (i := 1) Tryz.underlying24 Tryz.sizeOf2 rfl rfl (by omega) ((H6.ext E).p (i := 1) (by omega)) (by have := (H6.ext E).len; omega)) rfl rfl ?_
 refine oz_ (v := .int .i64 z.L[1]) (xloadz Tryz.isAgg2 rfl (h22) rfl) rfl rfl ?_
 refine oc (xcall Tryz.call68 rfl) rfl rfl rfl (l01In_ok (z.L[1]) (0) (10) _) ?_
 rintro _ w_ ⟨rfl, hw_⟩
 replace hw_ := hw_.symm
 subst hw_
 refine obs (fun c24 => ?_) (fun c24 => ?_)
 rotate_left
 ·
  refine oz_ (xpick_t rfl rfl) rfl rfl ?_
  refine vm_ rfl rfl rfl ?_
  refine o2_ rfl rfl rfl rfl ?_
  refine og rfl rfl rfl ?_
  refine oz_ (xpick_f rfl rfl) rfl rfl ?_
  refine vm_ rfl rfl rfl ?_
  refine o2_ rfl rfl rfl rfl ?_
  refine og rfl rfl rfl ?_
  refine oz_ (xpick_f rfl rfl) rfl rfl ?_
  refine vn_ rfl rfl rfl ?_
  refine run_ret Tryz.func100 (res1 rfl rfl) ?_
  have l2 : z.L.length = 2 := by omega
  have eA := atI_of (show 0 < z.L.length by omega)
  have eB := atI_of (show 1 < z.L.length by omega)
  exact ⟨_, rfl, by unfold isSel areStr; rw [c5, decide_eq_true l2, eA, c17, eB, c24]; simp, E⟩
 refine oz_ (xpick_t rfl rfl) rfl rfl ?_
 refine vm_ rfl rfl rfl ?_
 refine oz_ (xfieldAddr fo81f2 rfl) rfl rfl ?_
 refine oz_ (v := .int .i64 z.T) (xload1 Tryz.isAgg2 rfl (O1.cells) rfl) rfl rfl ?_
 refine oc (xcall Tryz.call68 rfl) rfl rfl rfl (l01In_ok (z.T) (0) (1) _) ?_
 rintro _ w_ ⟨rfl, hw_⟩
 replace hw_ := hw_.symm
 subst hw_
 refine obs (fun c29 => ?_) (fun c29 => ?_)
 ·
  refine oz_ (xpick_t rfl rfl) rfl rfl ?_
  refine vm_ rfl rfl rfl ?_
  refine oz_ (xfieldAddr fo81f3 rfl) rfl rfl ?_
  refine oz_ (v := .int .i64 z.Q) (xload1 Tryz.isAgg2 rfl (O1.cells) rfl) rfl rfl ?_
  refine oc (xcall Tryz.call68 rfl) rfl rfl rfl (l01In_ok (z.Q) (0) (2) _) ?_
  rintro _ w_ ⟨rfl, hw_⟩
  replace hw_ := hw_.symm
  subst hw_
  refine oz_ (xpick_t rfl rfl) rfl rfl ?_
  refine vn_ rfl rfl rfl ?_
  refine run_ret Tryz.func100 (res1 rfl rfl) ?_
  have l2 : z.L.length = 2 := by omega
  have eA := atI_of (show 0 < z.L.length by omega)
  have eB := atI_of (show 1 < z.L.length by omega)
  exact ⟨_, rfl, by unfold isSel areStr; rw [c5, decide_eq_true l2, eA, c17, eB, c24, c29]; simp, E⟩
 refine oz_ (xpick_t rfl rfl) rfl rfl ?_
 refine vm_ rfl rfl rfl ?_
 refine o2_ rfl rfl rfl rfl ?_
 refine og rfl rfl rfl ?_
 refine oz_ (xpick_f rfl rfl) rfl rfl ?_
 refine vn_ rfl rfl rfl ?_
 refine run_ret Tryz.func100 (res1 rfl rfl) ?_
 have l2 : z.L.length = 2 := by omega
 have eA := atI_of (show 0 < z.L.length by omega)
 have eB := atI_of (show 1 < z.L.length by omega)
 exact ⟨_, rfl, by unfold isSel areStr; rw [c5, decide_eq_true l2, eA, c17, eB, c24, c29]; simp, E⟩
set_option maxHeartbeats 400000 in
theorem l14Code_ok (u1 : Option Addr) (n1 v1 : Nat) (u2 : Option Addr) (n2 v2 : Nat) (u3 : Option Addr) (n3 v3 : Nat) (u6 : Option Addr) (n6 v6 : Nat) (z : Sel) (w : World) (H1 : Sl i64c 1 w u1 n1 v1 z.P.S) (H2 : Sl i64c 1 w u2 n2 v2 z.P.W) (H3 : Sl i64c 1 w u3 n3 v3 z.P.G) (H6 : Sl i64c 1 w u6 n6 v6 z.L) (hS : isSel z = true) : Ret Tryz.prog 121 [.agg #[.slice u1 n1 v1, .slice u2 n2 v2, .slice u3 n3 v3, .slice u6 n6 v6, .int .i64 z.T, .int .i64 z.Q]] w (Pv w (.int .i64 (passCode z))) := by
 refine ret_of_run (N := 8) Tryz.func121 rfl rfl rfl ?_
 have hn1 := H1.len
 have hn2 := H2.len
 have hn3 := H3.len
 have hn6 := H6.len
 obtain ⟨hP, hL, hl2, hT, hQ⟩ := sel_le hS
 have hle := pan_le hP
 have hA := str_at hL 0
 have hB := str_at hL 1
 rw [atI_of (by omega)] at hA hB
 have E : Ext w w := Ext.refl w
 refine sr_ ?_
 refine obox rfl rfl rfl ?_
 intro b1 w1 e1 hb1 hz1 O1
 have E := E.trans e1
 replace O1 : Own w1 b1 [.slice u1 n1 v1, .slice u2 n2 v2, .slice u3 n3 v3, .slice u6 n6 v6, .int .i64 z.T, .int .i64 z.Q] 81 := O1
 refine vn_ rfl rfl rfl ?_
 refine run_seq ?_
 refine sr_ ?_
 refine oz_ (v := .agg #[.slice u1 n1 v1, .slice u2 n2 v2, .slice u3 n3 v3, .slice u6 n6 v6, .int .i64 z.T, .int .i64 z.Q]) (xloadN Tryz.isAgg81 Tryz.sizeOf81 rfl (O1.cells) rfl) rfl rfl ?_
 refine oc (xcall Tryz.call100 rfl) rfl rfl rfl (IsSelection_ok _ _ _ _ _ _ _ _ _ _ _ _ z _ (H1.ext E) (H2.ext E) (H3.ext E) (H6.ext E) (by omega)) ?_
 rintro _ w2 ⟨rfl, e2⟩
 have z2 := e2.size
 have E := E.trans e2
 replace O1 := O1.ext e2
 refine obs (fun c4 => ?_) (fun c4 => ?_)
 rotate_left
 ·
  exfalso; rw [hS] at c4; cases c4
 refine oz_ (xnot rfl) rfl rfl ?_
 refine cf_ rfl ?_
 refine run_seq ?_
 refine sr_ ?_
 refine oz_ (v := .agg #[.slice u1 n1 v1, .slice u2 n2 v2, .slice u3 n3 v3, .slice u6 n6 v6, .int .i64 z.T, .int .i64 z.Q]) (xloadN Tryz.isAgg81 Tryz.sizeOf81 rfl (O1.cells) rfl) rfl rfl ?_
 refine oc (xcall Tryz.call136 rfl) rfl rfl rfl (l14Over_ok _ _ _ _ _ _ _ _ _ _ _ _ z _ (H1.ext E) (H2.ext E) (H3.ext E) (H6.ext E) hL) ?_
 rintro _ w3 ⟨rfl, e3⟩
 have z3 := e3.size
 have E := E.trans e3
 refine obs (fun c7 => ?_) (fun c7 => ?_)
 ·
  refine ct_ rfl ?_
  refine sr_ ?_
  refine vn_ rfl rfl rfl ?_
  refine run_ret Tryz.func121 (res1 rfl rfl) ?_
  exact ⟨_, rfl, by rw [pass_t c7], E⟩
 refine cf_ rfl ?_
 refine sr_ ?_
 refine vn_ rfl rfl rfl ?_
 refine run_ret Tryz.func121 (res1 rfl rfl) ?_
 exact ⟨_, rfl, by rw [pass_f c7], E⟩
set_option maxHeartbeats 1000000 in
theorem pass_ok (u1 : Option Addr) (n1 v1 : Nat) (u2 : Option Addr) (n2 v2 : Nat) (u3 : Option Addr) (n3 v3 : Nat) (u6 : Option Addr) (n6 v6 : Nat) (z : Sel) (w : World) (H1 : Sl i64c 1 w u1 n1 v1 z.P.S) (H2 : Sl i64c 1 w u2 n2 v2 z.P.W) (H3 : Sl i64c 1 w u3 n3 v3 z.P.G) (H6 : Sl i64c 1 w u6 n6 v6 z.L) (hS : isSel z = true) : Ret Tryz.prog 133 [.agg #[.slice u1 n1 v1, .slice u2 n2 v2, .slice u3 n3 v3, .slice u6 n6 v6, .int .i64 z.T, .int .i64 z.Q]] w (fun v w' => Ext w w' ∧ ∃ (q1 : Option Addr) (m1 d1 : Nat) (q2 : Option Addr) (m2 d2 : Nat) (q3 : Option Addr) (m3 d3 : Nat) (q6 : Option Addr) (m6 d6 : Nat) (T Q : Int), v = .tuple #[.agg #[.slice q1 m1 d1, .slice q2 m2 d2, .slice q3 m3 d3, .slice q6 m6 d6, .int .i64 T, .int .i64 Q], .int .i64 (passCode z)] ∧ (passCode z = 0 → T = (passS z).T ∧ Q = (passS z).Q) ∧ SlC (passCode z = 0) w' w.heap.size w'.heap.size q1 m1 d1 ((passS z).P.S) ∧ SlC (passCode z = 0) w' w.heap.size w'.heap.size q2 m2 d2 ((passS z).P.W) ∧ SlC (passCode z = 0) w' w.heap.size w'.heap.size q3 m3 d3 ((passS z).P.G) ∧ SlC (passCode z = 0) w' w.heap.size w'.heap.size q6 m6 d6 ((passS z).L)) := by
 refine ret_of_run (N := 20) Tryz.func133 rfl rfl rfl ?_
 have hn1 := H1.len
 have hn2 := H2.len
 have hn3 := H3.len
 have hn6 := H6.len
 obtain ⟨hP, hL, hl2, hT, hQ⟩ := sel_le hS
 have hle := pan_le hP
 have hA := str_at hL 0
 have hB := str_at hL 1
 rw [atI_of (by omega)] at hA hB
 have E : Ext w w := Ext.refl w
 refine sr_ ?_
 refine obox rfl rfl rfl ?_
 intro b1 w1 e1 hb1 hz1 O1
 have E := E.trans e1
 replace O1 : Own w1 b1 [.slice u1 n1 v1, .slice u2 n2 v2, .slice u3 n3 v3, .slice u6 n6 v6, .int .i64 z.T, .int .i64 z.Q] 81 := O1
 refine oalloc Tryz.zeroValue81 rfl rfl ?_
 intro b2 w2 e2 hb2 hz2 O2
 have E := E.trans e2
 replace O1 := O1.ext e2
 replace O2 : Own w2 b2 [.slice none 0 0, .slice none 0 0, .slice none 0 0, .slice none 0 0, .int .i64 0, .int .i64 0] 81 := O2
 refine vn_ rfl rfl rfl ?_
 refine run_seq ?_
 refine sr_ ?_
 refine oz_ (v := .agg #[.slice u1 n1 v1, .slice u2 n2 v2, .slice u3 n3 v3, .slice u6 n6 v6, .int .i64 z.T, .int .i64 z.Q]) (xloadN Tryz.isAgg81 Tryz.sizeOf81 rfl (O1.cells) rfl) rfl rfl ?_
 refine oc (xcall Tryz.call153 rfl) rfl rfl rfl (over_ok _ _ _ _ _ _ _ _ _ _ _ _ z _ (H1.ext E) (H2.ext E) (H3.ext E) (H6.ext E) hL) ?_
 rintro _ w3 ⟨rfl, e3⟩
 have z3 := e3.size
 have E := E.trans e3
 replace O1 := O1.ext e3
 replace O2 := O2.ext e3
 refine obs (fun c5 => ?_) (fun c5 => ?_)
 ·
  refine ct_ rfl ?_
  refine sr_ ?_
  refine oz_ (xbuild (vs := []) (cells := #[.slice none 0 0, .slice none 0 0, .slice none 0 0, .slice none 0 0, .int .i64 0, .int .i64 0]) rfl (by kernel_rfl)) rfl rfl ?_
  refine ostoreN (vs := _) Tryz.sizeOf81 rfl rfl O2 rfl (by simp) (by simp [Value.oneCell']) rfl ?_
  intro w4 on4 O4
  have hz4 := on4.size
  have E := on4.ext E (by omega)
  replace O4 : Own w4 b2 [.slice none 0 0, .slice none 0 0, .slice none 0 0, .slice none 0 0, .int .i64 0, .int .i64 0] 81 := O4
  refine vn_ rfl rfl rfl ?_
  refine run_ret Tryz.func133 (resc2 rfl rfl (run_loadVar_cells Tryz.isAgg81 Tryz.sizeOf81 O4.cells rfl) rfl) ?_
  have he := pass_t c5
  exact ⟨_, rfl, E, _, _, _, _, _, _, _, _, _, _, _, _, _, _, by rw [he], fun h => by omega, ⟨fun h => by omega⟩, ⟨fun h => by omega⟩, ⟨fun h => by omega⟩, ⟨fun h => by omega⟩⟩
 refine cf_ rfl ?_
 refine run_seq ?_
 have hcut3 := cut_size (w := w3) (k := b2) (by omega)
 have RE := ext_to_cut E (k := b2) (by omega) (by omega)
 have RO1 := O1.cut (k := b2) (by omega) (by omega)
 refine run_heldC (ext_cut (w := w3) (k := b2) (by omega)) (by kernel_rfl) ?_
 intro wh3 F
 have zh3 := F.size
 have E := E.trans F
 replace O2 := O2.ext F
 replace F := (ext_cut (w := w3) (k := b2) (by omega)).trans F
 refine h_take 0 rfl (by kernel_rfl) (by kernel_rfl) (by kernel_rfl) (fun w' x_ => xfieldAddr fo81f0 rfl) rfl rfl rfl F ?_
 refine h_take 1 (v := .agg #[.slice u1 n1 v1, .slice u2 n2 v2, .slice u3 n3 v3]) rfl (by kernel_rfl) (by kernel_rfl) (by kernel_rfl) (fun w' x_ => xloadN Tryz.isAgg79 Tryz.sizeOf79 rfl (((Cells.mid (pre := []) (row := [.slice u1 n1 v1, .slice u2 n2 v2, .slice u3 n3 v3]) (post := [.slice u6 n6 v6, .int .i64 z.T, .int .i64 z.Q]) (RO1.cells))).ext x_) rfl) rfl rfl rfl F ?_
 refine h_take 3 rfl (by kernel_rfl) (by kernel_rfl) (by kernel_rfl) (fun w' x_ => xfieldAddr fo81f1 rfl) rfl rfl rfl F ?_
 refine h_take 4 (v := .slice u6 n6 v6) rfl (by kernel_rfl) (by kernel_rfl) (by kernel_rfl) (fun w' x_ => xload1 Tryz.isAgg24 rfl ((RO1.cells).ext x_) rfl) rfl rfl rfl F ?_
 refine h_take 6 rfl (by kernel_rfl) (by kernel_rfl) (by kernel_rfl) (fun w' x_ => xfieldAddr fo81f2 rfl) rfl rfl rfl F ?_
 refine h_take 7 (v := .int .i64 z.T) rfl (by kernel_rfl) (by kernel_rfl) (by kernel_rfl) (fun w' x_ => xload1 Tryz.isAgg2 rfl ((RO1.cells).ext x_) rfl) rfl rfl rfl F ?_
 refine h_take 8 rfl (by kernel_rfl) (by kernel_rfl) (by kernel_rfl) (fun w' x_ => xsub rfl rfl (by unfold I64; omega)) rfl rfl rfl F ?_
 refine h_take 9 rfl (by kernel_rfl) (by kernel_rfl) (by kernel_rfl) (fun w' x_ => xfieldAddr fo81f3 rfl) rfl rfl rfl F ?_
 refine h_take 10 (v := .int .i64 z.Q) rfl (by kernel_rfl) (by kernel_rfl) (by kernel_rfl) (fun w' x_ => xload1 Tryz.isAgg2 rfl ((RO1.cells).ext x_) rfl) rfl rfl rfl F ?_
 refine h_take 11 rfl (by kernel_rfl) (by kernel_rfl) (by kernel_rfl) (fun w' x_ => xadd rfl rfl (by unfold I64; omega)) rfl rfl rfl F ?_
 refine h_ready (rs := [2]) (by kernel_rfl) (by decide) ⟨?_, trivial⟩
 refine hs_call rfl (xcall Tryz.call118 rfl) rfl rfl rfl (copyPanel_ok _ _ _ _ _ _ _ _ _ z.P _ (H1.ext E) (H2.ext E) (H3.ext E) (by omega)) ?_
 rintro _ w4 ⟨e4, q9_1, m9_1, d9_1, q9_2, m9_2, d9_2, q9_3, m9_3, d9_3, k9_1, k9_2, rfl, ⟨hk9_1, hk9_2, hk9_3⟩, F9_1, F9_2, F9_3⟩
 have z4 := e4.size
 have E := E.trans e4
 replace O2 := O2.ext e4
 have F := F.trans e4
 have lF9_1 := F9_1.len
 have lF9_2 := F9_2.len
 have lF9_3 := F9_3.len
 refine ⟨F, ?_⟩
 refine h_ready (rs := [5]) (by kernel_rfl) (by decide) ⟨?_, trivial⟩
 refine hs_call rfl (xcall Tryz.call97 rfl) rfl rfl rfl (cloneInt64_ok _ _ _ _ _ (H6.ext E) (H6.ext E).nil (by omega)) ?_
 rintro _ w5 ⟨e5, q12, cc12, rfl, Q12⟩
 have z5 := e5.size
 have E := E.trans e5
 replace F9_1 := F9_1.ext e5
 replace F9_2 := F9_2.ext e5
 replace F9_3 := F9_3.ext e5
 replace O2 := O2.ext e5
 have F := F.trans e5
 refine ⟨F, ?_⟩
 refine h_take 12 rfl (by kernel_rfl) (by kernel_rfl) (by kernel_rfl) (fun w' x_ => xbuild (vs := [.agg #[.slice q9_1 m9_1 d9_1, .slice q9_2 m9_2 d9_2, .slice q9_3 m9_3 d9_3], .slice q12 n6 cc12, .int .i64 (1 - z.T), .int .i64 (z.Q + 1)]) (cells := #[.slice q9_1 m9_1 d9_1, .slice q9_2 m9_2 d9_2, .slice q9_3 m9_3 d9_3, .slice q12 n6 cc12, .int .i64 (1 - z.T), .int .i64 (z.Q + 1)]) rfl (by kernel_rfl)) rfl rfl rfl F ?_
 refine h_ready (rs := [13]) (by kernel_rfl) (by decide) ⟨?_, trivial⟩
 refine hs_storeN (vs := [.slice q9_1 m9_1 d9_1, .slice q9_2 m9_2 d9_2, .slice q9_3 m9_3 d9_3, .slice q12 n6 cc12, .int .i64 (1 - z.T), .int .i64 (z.Q + 1)]) Tryz.sizeOf81 rfl rfl O2 rfl (by simp) (by simp [Value.oneCell']) F (by omega) rfl rfl ?_
 intro w6 on6 O6
 have hz6 := on6.size
 have E := on6.ext E (by omega)
 replace F9_1 := F9_1.only on6 (by omega)
 replace F9_2 := F9_2.only on6 (by omega)
 replace F9_3 := F9_3.only on6 (by omega)
 replace Q12 := Q12.only on6 (by omega)
 have F := on6.ext F (by omega)
 replace O6 : Own w6 b2 [.slice q9_1 m9_1 d9_1, .slice q9_2 m9_2 d9_2, .slice q9_3 m9_3 d9_3, .slice q12 n6 cc12, .int .i64 (1 - z.T), .int .i64 (z.Q + 1)] 81 := O6
 refine h_take 14 rfl (by kernel_rfl) (by kernel_rfl) (by kernel_rfl) (fun w' x_ => xassign rfl) rfl rfl rfl F ?_
 refine h_doneC (by kernel_rfl) ?_
 refine run_ret Tryz.func133 (resc2 rfl rfl (run_loadVar_cells Tryz.isAgg81 Tryz.sizeOf81 O6.cells rfl) rfl) ?_
 have he := pass_f c5
 exact ⟨_, rfl, E, _, _, _, _, _, _, _, _, _, _, _, _, ((1 - z.T)), ((z.Q + 1)), by rw [he], fun h => ⟨rfl, rfl⟩, ⟨fun _ => (F9_1.slF (by omega) (by omega))⟩, ⟨fun _ => (F9_2.slF (by omega) (by omega))⟩, ⟨fun _ => (F9_3.slF (by omega) (by omega))⟩, ⟨fun _ => (Q12.slF (by omega) (by omega))⟩⟩
set_option maxHeartbeats 1000000 in
theorem l14Pass_ok (u1 : Option Addr) (n1 v1 : Nat) (u2 : Option Addr) (n2 v2 : Nat) (u3 : Option Addr) (n3 v3 : Nat) (u6 : Option Addr) (n6 v6 : Nat) (z : Sel) (w : World) (H1 : Sl i64c 1 w u1 n1 v1 z.P.S) (H2 : Sl i64c 1 w u2 n2 v2 z.P.W) (H3 : Sl i64c 1 w u3 n3 v3 z.P.G) (H6 : Sl i64c 1 w u6 n6 v6 z.L) (hS : isSel z = true) : Ret Tryz.prog 122 [.agg #[.slice u1 n1 v1, .slice u2 n2 v2, .slice u3 n3 v3, .slice u6 n6 v6, .int .i64 z.T, .int .i64 z.Q]] w (fun v w' => Ext w w' ∧ ∃ (q1 : Option Addr) (m1 d1 : Nat) (q2 : Option Addr) (m2 d2 : Nat) (q3 : Option Addr) (m3 d3 : Nat) (q6 : Option Addr) (m6 d6 : Nat), v = .agg #[.slice q1 m1 d1, .slice q2 m2 d2, .slice q3 m3 d3, .slice q6 m6 d6, .int .i64 (passS z).T, .int .i64 (passS z).Q] ∧ SlF i64c 1 w' w.heap.size w'.heap.size q1 m1 d1 ((passS z).P.S) ∧ SlF i64c 1 w' w.heap.size w'.heap.size q2 m2 d2 ((passS z).P.W) ∧ SlF i64c 1 w' w.heap.size w'.heap.size q3 m3 d3 ((passS z).P.G) ∧ SlF i64c 1 w' w.heap.size w'.heap.size q6 m6 d6 ((passS z).L)) := by
 refine ret_of_run (N := 16) Tryz.func122 rfl rfl rfl ?_
 have hn1 := H1.len
 have hn2 := H2.len
 have hn3 := H3.len
 have hn6 := H6.len
 obtain ⟨hP, hL, hl2, hT, hQ⟩ := sel_le hS
 have hle := pan_le hP
 have hA := str_at hL 0
 have hB := str_at hL 1
 rw [atI_of (by omega)] at hA hB
 have E : Ext w w := Ext.refl w
 refine sr_ ?_
 refine obox rfl rfl rfl ?_
 intro b1 w1 e1 hb1 hz1 O1
 have E := E.trans e1
 replace O1 : Own w1 b1 [.slice u1 n1 v1, .slice u2 n2 v2, .slice u3 n3 v3, .slice u6 n6 v6, .int .i64 z.T, .int .i64 z.Q] 81 := O1
 refine oalloc Tryz.zeroValue81 rfl rfl ?_
 intro b2 w2 e2 hb2 hz2 O2
 have E := E.trans e2
 replace O1 := O1.ext e2
 replace O2 : Own w2 b2 [.slice none 0 0, .slice none 0 0, .slice none 0 0, .slice none 0 0, .int .i64 0, .int .i64 0] 81 := O2
 refine ops_nil ?_
 refine run_seq ?_
 have hcut1 := cut_size (w := w2) (k := b2) (by omega)
 have RE := ext_to_cut E (k := b2) (by omega) (by omega)
 have RO1 := O1.cut (k := b2) (by omega) (by omega)
 refine run_heldC (ext_cut (w := w2) (k := b2) (by omega)) (by kernel_rfl) ?_
 intro wh1 F
 have zh1 := F.size
 have E := E.trans F
 replace O2 := O2.ext F
 replace F := (ext_cut (w := w2) (k := b2) (by omega)).trans F
 refine h_take 0 rfl (by kernel_rfl) (by kernel_rfl) (by kernel_rfl) (fun w' x_ => xfieldAddr fo81f0 rfl) rfl rfl rfl F ?_
 refine h_take 1 (v := .agg #[.slice u1 n1 v1, .slice u2 n2 v2, .slice u3 n3 v3]) rfl (by kernel_rfl) (by kernel_rfl) (by kernel_rfl) (fun w' x_ => xloadN Tryz.isAgg79 Tryz.sizeOf79 rfl (((Cells.mid (pre := []) (row := [.slice u1 n1 v1, .slice u2 n2 v2, .slice u3 n3 v3]) (post := [.slice u6 n6 v6, .int .i64 z.T, .int .i64 z.Q]) (RO1.cells))).ext x_) rfl) rfl rfl rfl F ?_
 refine h_take 3 rfl (by kernel_rfl) (by kernel_rfl) (by kernel_rfl) (fun w' x_ => xfieldAddr fo81f1 rfl) rfl rfl rfl F ?_
 refine h_take 4 (v := .slice u6 n6 v6) rfl (by kernel_rfl) (by kernel_rfl) (by kernel_rfl) (fun w' x_ => xload1 Tryz.isAgg24 rfl ((RO1.cells).ext x_) rfl) rfl rfl rfl F ?_
 refine h_take 6 rfl (by kernel_rfl) (by kernel_rfl) (by kernel_rfl) (fun w' x_ => xfieldAddr fo81f2 rfl) rfl rfl rfl F ?_
 refine h_take 7 (v := .int .i64 z.T) rfl (by kernel_rfl) (by kernel_rfl) (by kernel_rfl) (fun w' x_ => xload1 Tryz.isAgg2 rfl ((RO1.cells).ext x_) rfl) rfl rfl rfl F ?_
 refine h_take 8 rfl (by kernel_rfl) (by kernel_rfl) (by kernel_rfl) (fun w' x_ => xsub rfl rfl (by unfold I64; omega)) rfl rfl rfl F ?_
 refine h_take 9 rfl (by kernel_rfl) (by kernel_rfl) (by kernel_rfl) (fun w' x_ => xfieldAddr fo81f3 rfl) rfl rfl rfl F ?_
 refine h_take 10 (v := .int .i64 z.Q) rfl (by kernel_rfl) (by kernel_rfl) (by kernel_rfl) (fun w' x_ => xload1 Tryz.isAgg2 rfl ((RO1.cells).ext x_) rfl) rfl rfl rfl F ?_
 refine h_take 11 rfl (by kernel_rfl) (by kernel_rfl) (by kernel_rfl) (fun w' x_ => xadd rfl rfl (by unfold I64; omega)) rfl rfl rfl F ?_
 refine h_ready (rs := [2]) (by kernel_rfl) (by decide) ⟨?_, trivial⟩
 refine hs_call rfl (xcall Tryz.call101 rfl) rfl rfl rfl (l14Own_ok _ _ _ _ _ _ _ _ _ z.P _ (H1.ext E) (H2.ext E) (H3.ext E) (by omega)) ?_
 rintro _ w3 ⟨e3, q5_1, m5_1, d5_1, q5_2, m5_2, d5_2, q5_3, m5_3, d5_3, k5_1, k5_2, rfl, ⟨hk5_1, hk5_2, hk5_3⟩, F5_1, F5_2, F5_3⟩
 have z3 := e3.size
 have E := E.trans e3
 replace O2 := O2.ext e3
 have F := F.trans e3
 have lF5_1 := F5_1.len
 have lF5_2 := F5_2.len
 have lF5_3 := F5_3.len
 refine ⟨F, ?_⟩
 refine h_ready (rs := [5]) (by kernel_rfl) (by decide) ⟨?_, trivial⟩
 refine hs_call rfl (xcall Tryz.call102 rfl) rfl rfl rfl (l01Own_ok _ _ _ _ _ (H6.ext E) (H6.ext E).nil (by omega)) ?_
 rintro _ w4 ⟨e4, q8, cc8, rfl, Q8⟩
 have z4 := e4.size
 have E := E.trans e4
 replace F5_1 := F5_1.ext e4
 replace F5_2 := F5_2.ext e4
 replace F5_3 := F5_3.ext e4
 replace O2 := O2.ext e4
 have F := F.trans e4
 refine ⟨F, ?_⟩
 refine h_take 12 rfl (by kernel_rfl) (by kernel_rfl) (by kernel_rfl) (fun w' x_ => xbuild (vs := [.agg #[.slice q5_1 m5_1 d5_1, .slice q5_2 m5_2 d5_2, .slice q5_3 m5_3 d5_3], .slice q8 n6 cc8, .int .i64 (1 - z.T), .int .i64 (z.Q + 1)]) (cells := #[.slice q5_1 m5_1 d5_1, .slice q5_2 m5_2 d5_2, .slice q5_3 m5_3 d5_3, .slice q8 n6 cc8, .int .i64 (1 - z.T), .int .i64 (z.Q + 1)]) rfl (by kernel_rfl)) rfl rfl rfl F ?_
 refine h_ready (rs := [13]) (by kernel_rfl) (by decide) ⟨?_, trivial⟩
 refine hs_storeN (vs := [.slice q5_1 m5_1 d5_1, .slice q5_2 m5_2 d5_2, .slice q5_3 m5_3 d5_3, .slice q8 n6 cc8, .int .i64 (1 - z.T), .int .i64 (z.Q + 1)]) Tryz.sizeOf81 rfl rfl O2 rfl (by simp) (by simp [Value.oneCell']) F (by omega) rfl rfl ?_
 intro w5 on5 O5
 have hz5 := on5.size
 have E := on5.ext E (by omega)
 replace F5_1 := F5_1.only on5 (by omega)
 replace F5_2 := F5_2.only on5 (by omega)
 replace F5_3 := F5_3.only on5 (by omega)
 replace Q8 := Q8.only on5 (by omega)
 have F := on5.ext F (by omega)
 replace O5 : Own w5 b2 [.slice q5_1 m5_1 d5_1, .slice q5_2 m5_2 d5_2, .slice q5_3 m5_3 d5_3, .slice q8 n6 cc8, .int .i64 (1 - z.T), .int .i64 (z.Q + 1)] 81 := O5
 refine h_doneC (by kernel_rfl) ?_
 refine run_ret Tryz.func122 (resc1 rfl rfl (run_loadVar_cells Tryz.isAgg81 Tryz.sizeOf81 O5.cells rfl)) ?_
 exact ⟨_, rfl, E, _, _, _, _, _, _, _, _, _, _, _, _, rfl, (F5_1.slF (by omega) (by omega)), (F5_2.slF (by omega) (by omega)), (F5_3.slF (by omega) (by omega)), (Q8.slF (by omega) (by omega))⟩
set_option maxHeartbeats 2000000 in
theorem strike_ok (u1 : Option Addr) (n1 v1 : Nat) (u2 : Option Addr) (n2 v2 : Nat) (u3 : Option Addr) (n3 v3 : Nat) (u6 : Option Addr) (n6 v6 : Nat) (z : Sel) (m : Int) (w : World) (H1 : Sl i64c 1 w u1 n1 v1 z.P.S) (H2 : Sl i64c 1 w u2 n2 v2 z.P.W) (H3 : Sl i64c 1 w u3 n3 v3 z.P.G) (H6 : Sl i64c 1 w u6 n6 v6 z.L) (hS : isSel z = true) : Ret Tryz.prog 134 [.agg #[.slice u1 n1 v1, .slice u2 n2 v2, .slice u3 n3 v3, .slice u6 n6 v6, .int .i64 z.T, .int .i64 z.Q], .int .i64 m] w (fun v w' => Ext w w' ∧ ∃ (q1 : Option Addr) (m1 d1 : Nat) (q2 : Option Addr) (m2 d2 : Nat) (q3 : Option Addr) (m3 d3 : Nat) (q6 : Option Addr) (m6 d6 : Nat) (T Q : Int), v = .tuple #[.agg #[.slice q1 m1 d1, .slice q2 m2 d2, .slice q3 m3 d3, .slice q6 m6 d6, .int .i64 T, .int .i64 Q], .int .i64 (strCode z m)] ∧ (strCode z m = 0 → T = (strikeS z m).T ∧ Q = (strikeS z m).Q) ∧ SlC (strCode z m = 0) w' w.heap.size w'.heap.size q1 m1 d1 ((strikeS z m).P.S) ∧ SlC (strCode z m = 0) w' w.heap.size w'.heap.size q2 m2 d2 ((strikeS z m).P.W) ∧ SlC (strCode z m = 0) w' w.heap.size w'.heap.size q3 m3 d3 ((strikeS z m).P.G) ∧ SlC (strCode z m = 0) w' w.heap.size w'.heap.size q6 m6 d6 ((strikeS z m).L)) := by
 refine ret_of_run (N := 58) Tryz.func134 rfl rfl rfl ?_
 have hn1 := H1.len
 have hn2 := H2.len
 have hn3 := H3.len
 have hn6 := H6.len
 obtain ⟨hP, hL, hl2, hT, hQ⟩ := sel_le hS
 have hle := pan_le hP
 have hA := str_at hL 0
 have hB := str_at hL 1
 rw [atI_of (by omega)] at hA hB
 have E : Ext w w := Ext.refl w
 refine sr_ ?_
 refine obox rfl rfl rfl ?_
 intro b1 w1 e1 hb1 hz1 O1
 have E := E.trans e1
 replace O1 : Own w1 b1 [.slice u1 n1 v1, .slice u2 n2 v2, .slice u3 n3 v3, .slice u6 n6 v6, .int .i64 z.T, .int .i64 z.Q] 81 := O1
 refine oalloc Tryz.zeroValue81 rfl rfl ?_
 intro b2 w2 e2 hb2 hz2 O2
 have E := E.trans e2
 replace O1 := O1.ext e2
 replace O2 : Own w2 b2 [.slice none 0 0, .slice none 0 0, .slice none 0 0, .slice none 0 0, .int .i64 0, .int .i64 0] 81 := O2
 refine vn_ rfl rfl rfl ?_
 refine run_seq ?_
 refine run_block ?_
 refine sr_ ?_
 refine oz_ (v := .agg #[.slice u1 n1 v1, .slice u2 n2 v2, .slice u3 n3 v3, .slice u6 n6 v6, .int .i64 z.T, .int .i64 z.Q]) (xloadN Tryz.isAgg81 Tryz.sizeOf81 rfl (O1.cells) rfl) rfl rfl ?_
 refine oc (xcall Tryz.call153 rfl) rfl rfl rfl (over_ok _ _ _ _ _ _ _ _ _ _ _ _ z _ (H1.ext E) (H2.ext E) (H3.ext E) (H6.ext E) hL) ?_
 rintro _ w3 ⟨rfl, e3⟩
 have z3 := e3.size
 have E := E.trans e3
 replace O1 := O1.ext e3
 replace O2 := O2.ext e3
 refine obs (fun c9 => ?_) (fun c9 => ?_)
 ·
  refine vn_ rfl rfl rfl ?_
  refine run_cond_t rfl ?_
  refine sr_ ?_
  refine oz_ (xbuild (vs := []) (cells := #[.slice none 0 0, .slice none 0 0, .slice none 0 0, .slice none 0 0, .int .i64 0, .int .i64 0]) rfl (by kernel_rfl)) rfl rfl ?_
  refine ostoreN (vs := _) Tryz.sizeOf81 rfl rfl O2 rfl (by simp) (by simp [Value.oneCell']) rfl ?_
  intro w4 on4 O4
  have hz4 := on4.size
  have E := on4.ext E (by omega)
  replace O4 : Own w4 b2 [.slice none 0 0, .slice none 0 0, .slice none 0 0, .slice none 0 0, .int .i64 0, .int .i64 0] 81 := O4
  refine vn_ rfl rfl rfl ?_
  refine run_ret Tryz.func134 (resc2 rfl rfl (run_loadVar_cells Tryz.isAgg81 Tryz.sizeOf81 O4.cells rfl) rfl) ?_
  have he := (str_5 (m := m) c9)
  exact ⟨_, rfl, E, _, _, _, _, _, _, _, _, _, _, _, _, _, _, by rw [he], fun h => by omega, ⟨fun h => by omega⟩, ⟨fun h => by omega⟩, ⟨fun h => by omega⟩, ⟨fun h => by omega⟩⟩
 refine vn_ rfl rfl rfl ?_
 refine run_cond_f rfl ?_
 refine sr_ ?_
 refine vm_ rfl rfl rfl ?_
 refine oz_ (xfieldAddr fo81f0 rfl) rfl rfl ?_
 refine oz_ (xfieldAddr fo79f0 rfl) rfl rfl ?_
 refine oz_ (v := .slice u1 n1 v1) (xload1 Tryz.isAgg24 rfl (O1.cells) rfl) rfl rfl ?_
 refine oz_ (xlen Tryz.underlying24 rfl) rfl rfl ?_
 refine oc (xcall Tryz.call130 rfl) rfl rfl rfl (at_ok (m) ((n1 : Int)) _) ?_
 rintro _ w_ ⟨rfl, hw_⟩
 replace hw_ := hw_.symm
 subst hw_
 refine obs (fun c17 => ?_) (fun c17 => ?_)
 rotate_left
 ·
  refine oz_ (xnot rfl) rfl rfl ?_
  refine vn_ rfl rfl rfl ?_
  refine run_cond_t rfl ?_
  refine sr_ ?_
  refine oz_ (xbuild (vs := []) (cells := #[.slice none 0 0, .slice none 0 0, .slice none 0 0, .slice none 0 0, .int .i64 0, .int .i64 0]) rfl (by kernel_rfl)) rfl rfl ?_
  refine ostoreN (vs := _) Tryz.sizeOf81 rfl rfl O2 rfl (by simp) (by simp [Value.oneCell']) rfl ?_
  intro w4 on4 O4
  have hz4 := on4.size
  have E := on4.ext E (by omega)
  replace O4 : Own w4 b2 [.slice none 0 0, .slice none 0 0, .slice none 0 0, .slice none 0 0, .int .i64 0, .int .i64 0] 81 := O4
  refine vn_ rfl rfl rfl ?_
  refine run_ret Tryz.func134 (resc2 rfl rfl (run_loadVar_cells Tryz.isAgg81 Tryz.sizeOf81 O4.cells rfl) rfl) ?_
  have he := (str_2 (m := m) c9 (by simp only [Bool.and_eq_false_iff, decide_eq_false_iff_not] at c17; omega))
  exact ⟨_, rfl, E, _, _, _, _, _, _, _, _, _, _, _, _, _, _, by rw [he], fun h => by omega, ⟨fun h => by omega⟩, ⟨fun h => by omega⟩, ⟨fun h => by omega⟩, ⟨fun h => by omega⟩⟩
 have hin : 0 ≤ m ∧ m < z.P.S.length := by simp only [Bool.and_eq_true, decide_eq_true_eq] at c17; omega
 obtain ⟨k, rfl⟩ : ∃ k : Nat, m = (k : Int) := ⟨m.toNat, by omega⟩
 have hk : k < z.P.S.length := by omega
 have htt : z.T.toNat < z.L.length := by omega
 have hsT := str_at hL z.T.toNat
 rw [atI_of htt] at hsT
 refine oz_ (xnot rfl) rfl rfl ?_
 refine vn_ rfl rfl rfl ?_
 refine run_cond_f rfl ?_
 refine sr_ ?_
 refine oz_ (xfieldAddr fo81f0 rfl) rfl rfl ?_
 refine oz_ (xfieldAddr fo79f0 rfl) rfl rfl ?_
 refine oz_ (v := .slice u1 n1 v1) (xload1 Tryz.isAgg24 rfl (O1.cells) rfl) rfl rfl ?_
 refine vm_ rfl rfl rfl ?_
 have h25 := (H1.ext E).at (i := k) (by omega)
 refine oz_ (xindexN (i := k) Tryz.underlying24 Tryz.sizeOf2 rfl rfl (by omega) ((H1.ext E).p (i := k) (by omega)) (by have := (H1.ext E).len; omega)) rfl rfl ?_
 refine oz_ (v := .int .i64 z.P.S[k]) (xloadz Tryz.isAgg2 rfl (h25) rfl) rfl rfl ?_
 refine oz_ (xeql rfl rfl _ rfl) rfl rfl ?_
 refine ods (fun c27 => ?_) (fun c27 => ?_)
 ·
  refine vn_ rfl rfl rfl ?_
  refine run_cond_t rfl ?_
  refine sr_ ?_
  refine oz_ (xbuild (vs := []) (cells := #[.slice none 0 0, .slice none 0 0, .slice none 0 0, .slice none 0 0, .int .i64 0, .int .i64 0]) rfl (by kernel_rfl)) rfl rfl ?_
  refine ostoreN (vs := _) Tryz.sizeOf81 rfl rfl O2 rfl (by simp) (by simp [Value.oneCell']) rfl ?_
  intro w4 on4 O4
  have hz4 := on4.size
  have E := on4.ext E (by omega)
  replace O4 : Own w4 b2 [.slice none 0 0, .slice none 0 0, .slice none 0 0, .slice none 0 0, .int .i64 0, .int .i64 0] 81 := O4
  refine vn_ rfl rfl rfl ?_
  refine run_ret Tryz.func134 (resc2 rfl rfl (run_loadVar_cells Tryz.isAgg81 Tryz.sizeOf81 O4.cells rfl) rfl) ?_
  have he := str_4 c9 hk c27
  exact ⟨_, rfl, E, _, _, _, _, _, _, _, _, _, _, _, _, _, _, by rw [he], fun h => by omega, ⟨fun h => by omega⟩, ⟨fun h => by omega⟩, ⟨fun h => by omega⟩, ⟨fun h => by omega⟩⟩
 refine vn_ rfl rfl rfl ?_
 refine run_cond_f rfl ?_
 refine sr_ ?_
 refine oz_ (xfieldAddr fo81f1 rfl) rfl rfl ?_
 refine oz_ (v := .slice u6 n6 v6) (xload1 Tryz.isAgg24 rfl (O1.cells) rfl) rfl rfl ?_
 refine oz_ (xfieldAddr fo81f2 rfl) rfl rfl ?_
 refine oz_ (v := .int .i64 z.T) (xload1 Tryz.isAgg2 rfl (O1.cells) rfl) rfl rfl ?_
 have h34 := (H6.ext E).at (i := z.T.toNat) (by omega)
 refine oz_ (xindexN (i := z.T.toNat) Tryz.underlying24 Tryz.sizeOf2 rfl rfl (by omega) ((H6.ext E).p (i := z.T.toNat) (by omega)) (by have := (H6.ext E).len; omega)) rfl rfl ?_
 refine oz_ (v := .int .i64 z.L[z.T.toNat]) (xloadz Tryz.isAgg2 rfl (h34) rfl) rfl rfl ?_
 refine oz_ (xeql rfl rfl _ rfl) rfl rfl ?_
 refine ods (fun c36 => ?_) (fun c36 => ?_)
 ·
  refine vn_ rfl rfl rfl ?_
  refine run_cond_t rfl ?_
  refine sr_ ?_
  refine oz_ (xbuild (vs := []) (cells := #[.slice none 0 0, .slice none 0 0, .slice none 0 0, .slice none 0 0, .int .i64 0, .int .i64 0]) rfl (by kernel_rfl)) rfl rfl ?_
  refine ostoreN (vs := _) Tryz.sizeOf81 rfl rfl O2 rfl (by simp) (by simp [Value.oneCell']) rfl ?_
  intro w4 on4 O4
  have hz4 := on4.size
  have E := on4.ext E (by omega)
  replace O4 : Own w4 b2 [.slice none 0 0, .slice none 0 0, .slice none 0 0, .slice none 0 0, .int .i64 0, .int .i64 0] 81 := O4
  refine vn_ rfl rfl rfl ?_
  refine run_ret Tryz.func134 (resc2 rfl rfl (run_loadVar_cells Tryz.isAgg81 Tryz.sizeOf81 O4.cells rfl) rfl) ?_
  have he := str_3 c9 hk c27 htt c36
  exact ⟨_, rfl, E, _, _, _, _, _, _, _, _, _, _, _, _, _, _, by rw [he], fun h => by omega, ⟨fun h => by omega⟩, ⟨fun h => by omega⟩, ⟨fun h => by omega⟩, ⟨fun h => by omega⟩⟩
 refine vn_ rfl rfl rfl ?_
 refine run_cond_f rfl ?_
 refine run_skip ?_
 refine run_inBlock ?_
 refine run_seq ?_
 have hcut9 := cut_size (w := w3) (k := b2) (by omega)
 have RE := ext_to_cut E (k := b2) (by omega) (by omega)
 have RO1 := O1.cut (k := b2) (by omega) (by omega)
 refine run_heldC (ext_cut (w := w3) (k := b2) (by omega)) (by kernel_rfl) ?_
 intro wh9 F
 have zh9 := F.size
 have E := E.trans F
 replace O1 := O1.ext F
 replace O2 := O2.ext F
 replace F := (ext_cut (w := w3) (k := b2) (by omega)).trans F
 refine h_take 0 rfl (by kernel_rfl) (by kernel_rfl) (by kernel_rfl) (fun w' x_ => xfieldAddr fo81f0 rfl) rfl rfl rfl F ?_
 refine h_take 1 (v := .agg #[.slice u1 n1 v1, .slice u2 n2 v2, .slice u3 n3 v3]) rfl (by kernel_rfl) (by kernel_rfl) (by kernel_rfl) (fun w' x_ => xloadN Tryz.isAgg79 Tryz.sizeOf79 rfl (((Cells.mid (pre := []) (row := [.slice u1 n1 v1, .slice u2 n2 v2, .slice u3 n3 v3]) (post := [.slice u6 n6 v6, .int .i64 z.T, .int .i64 z.Q]) (RO1.cells))).ext x_) rfl) rfl rfl rfl F ?_
 refine h_take 2 rfl (by kernel_rfl) (by kernel_rfl) (by kernel_rfl) (fun w' x_ => xmove rfl) rfl rfl rfl F ?_
 refine h_take 4 rfl (by kernel_rfl) (by kernel_rfl) (by kernel_rfl) (fun w' x_ => xfieldAddr fo81f1 rfl) rfl rfl rfl F ?_
 refine h_take 5 (v := .slice u6 n6 v6) rfl (by kernel_rfl) (by kernel_rfl) (by kernel_rfl) (fun w' x_ => xload1 Tryz.isAgg24 rfl ((RO1.cells).ext x_) rfl) rfl rfl rfl F ?_
 refine h_take 7 rfl (by kernel_rfl) (by kernel_rfl) (by kernel_rfl) (fun w' x_ => xfieldAddr fo81f2 rfl) rfl rfl rfl F ?_
 refine h_take 8 (v := .int .i64 z.T) rfl (by kernel_rfl) (by kernel_rfl) (by kernel_rfl) (fun w' x_ => xload1 Tryz.isAgg2 rfl ((RO1.cells).ext x_) rfl) rfl rfl rfl F ?_
 refine h_take 9 rfl (by kernel_rfl) (by kernel_rfl) (by kernel_rfl) (fun w' x_ => xsub rfl rfl (by unfold I64; omega)) rfl rfl rfl F ?_
 refine h_ready (rs := [3, 11]) (by kernel_rfl) (by decide) ⟨?_, ?_, trivial⟩
 rotate_left
 ·
  refine hs_alloc Tryz.zeroValue81 F rfl rfl rfl ?_
  intro b4 w4 e4 hb4 hz4 O4
  have E := E.trans e4
  replace O1 := O1.ext e4
  replace O2 := O2.ext e4
  have F := F.trans e4
  replace O4 : Own w4 b4 [.slice none 0 0, .slice none 0 0, .slice none 0 0, .slice none 0 0, .int .i64 0, .int .i64 0] 81 := O4
  refine h_ready (rs := [3]) (by kernel_rfl) (by decide) ⟨?_, trivial⟩
  refine hs_call rfl (xcall Tryz.call132 rfl) rfl rfl rfl (empty_ok _ _ _ _ _ _ _ _ _ z.P k _ (H1.ext E) (H2.ext E) (H3.ext E) hP hk) ?_
  rintro _ w5 ⟨e5, q41_1, m41_1, d41_1, q41_2, m41_2, d41_2, q41_3, m41_3, d41_3, rfl, F41_1, F41_2, F41_3⟩
  have z5 := e5.size
  have E := E.trans e5
  replace O1 := O1.ext e5
  replace O2 := O2.ext e5
  replace O4 := O4.ext e5
  have F := F.trans e5
  have lF41_1 := F41_1.sl.len
  have lF41_2 := F41_2.sl.len
  have lF41_3 := F41_3.sl.len
  refine ⟨F, ?_⟩
  refine h_ready (rs := [6]) (by kernel_rfl) (by decide) ⟨?_, trivial⟩
  refine hs_call rfl (xcall Tryz.call97 rfl) rfl rfl rfl (cloneInt64_ok _ _ _ _ _ (H6.ext E) (H6.ext E).nil (by omega)) ?_
  rintro _ w6 ⟨e6, q44, cc44, rfl, Q44⟩
  have z6 := e6.size
  have E := E.trans e6
  replace F41_1 := F41_1.ext e6
  replace F41_2 := F41_2.ext e6
  replace F41_3 := F41_3.ext e6
  replace O1 := O1.ext e6
  replace O2 := O2.ext e6
  replace O4 := O4.ext e6
  have F := F.trans e6
  refine ⟨F, ?_⟩
  refine h_take 10 rfl (by kernel_rfl) (by kernel_rfl) (by kernel_rfl) (fun w' x_ => xbuild (vs := [.agg #[.slice q41_1 m41_1 d41_1, .slice q41_2 m41_2 d41_2, .slice q41_3 m41_3 d41_3], .slice q44 n6 cc44, .int .i64 (1 - z.T)]) (cells := #[.slice q41_1 m41_1 d41_1, .slice q41_2 m41_2 d41_2, .slice q41_3 m41_3 d41_3, .slice q44 n6 cc44, .int .i64 (1 - z.T), .int .i64 0]) rfl (by kernel_rfl)) rfl rfl rfl F ?_
  refine h_ready (rs := [12]) (by kernel_rfl) (by decide) ⟨?_, trivial⟩
  refine hs_storeN (vs := [.slice q41_1 m41_1 d41_1, .slice q41_2 m41_2 d41_2, .slice q41_3 m41_3 d41_3, .slice q44 n6 cc44, .int .i64 (1 - z.T), .int .i64 0]) Tryz.sizeOf81 rfl rfl O4 rfl (by simp) (by simp [Value.oneCell']) F (by omega) rfl rfl ?_
  intro w7 on7 O7
  have hz7 := on7.size
  have E := on7.ext E (by omega)
  replace F41_1 := F41_1.only on7 (by omega)
  replace F41_2 := F41_2.only on7 (by omega)
  replace F41_3 := F41_3.only on7 (by omega)
  replace Q44 := Q44.only on7 (by omega)
  replace O1 := on7.own O1 (by omega)
  replace O2 := on7.own O2 (by omega)
  have F := on7.ext F (by omega)
  replace O7 : Own w7 b4 [.slice q41_1 m41_1 d41_1, .slice q41_2 m41_2 d41_2, .slice q41_3 m41_3 d41_3, .slice q44 n6 cc44, .int .i64 (1 - z.T), .int .i64 0] 81 := O7
  refine h_doneC (by kernel_rfl) ?_
  refine sr_ ?_
  refine oz_ (xfieldAddr fo81f1 rfl) rfl rfl ?_
  refine oz_ (v := .slice q44 n6 cc44) (xload1 Tryz.isAgg24 rfl (O7.cells) rfl) rfl rfl ?_
  refine oz_ (xfieldAddr fo81f2 rfl) rfl rfl ?_
  refine oz_ (v := .int .i64 z.T) (xload1 Tryz.isAgg2 rfl (O1.cells) rfl) rfl rfl ?_
  have h53 := (Q44.sl).at (i := z.T.toNat) (by omega)
  refine oz_ (xindexN (i := z.T.toNat) Tryz.underlying24 Tryz.sizeOf2 rfl rfl (by omega) ((Q44.sl).p (i := z.T.toNat) (by omega)) (by have := (Q44.sl).len; omega)) rfl rfl ?_
  refine oz_ (v := .int .i64 z.L[z.T.toNat]) (xloadz Tryz.isAgg2 rfl (h53) rfl) rfl rfl ?_
  refine oz_ (xsub rfl rfl (by unfold I64; omega)) rfl rfl ?_
  have h56 := (Q44.sl).at (i := z.T.toNat) (by omega)
  refine oz_ (xindexN (i := z.T.toNat) Tryz.underlying24 Tryz.sizeOf2 rfl rfl (by omega) ((Q44.sl).p (i := z.T.toNat) (by omega)) (by have := (Q44.sl).len; omega)) rfl rfl ?_
  refine ostoreOw1 (i := z.T.toNat) (y := ((z.L[z.T.toNat] - 1))) Tryz.sizeOf2 Q44 (by omega) rfl rfl rfl rfl rfl ?_
  intro w8 m8 g8
  have z8 := m8.size
  have E := m8.toExt E (by omega)
  replace F41_1 := F41_1.off m8 (by omega)
  replace F41_2 := F41_2.off m8 (by omega)
  replace F41_3 := F41_3.off m8 (by omega)
  try replace O2 := m8.own O2 (by omega)
  try replace O7 := m8.own O7 (by omega)
  replace Q44 := g8
  refine ops_nil ?_
  refine sr_ ?_
  refine oz_ (v := .agg #[.slice q41_1 m41_1 d41_1, .slice q41_2 m41_2 d41_2, .slice q41_3 m41_3 d41_3, .slice q44 n6 cc44, .int .i64 (1 - z.T), .int .i64 0]) (xloadN Tryz.isAgg81 Tryz.sizeOf81 rfl (O7.cells) rfl) rfl rfl ?_
  refine ostoreN (vs := _) Tryz.sizeOf81 rfl rfl O2 rfl (by simp) (by simp [Value.oneCell']) rfl ?_
  intro w9 on9 O9
  have hz9 := on9.size
  have E := on9.ext E (by omega)
  replace F41_1 := F41_1.only on9 (by omega)
  replace F41_2 := F41_2.only on9 (by omega)
  replace F41_3 := F41_3.only on9 (by omega)
  replace Q44 := Q44.only on9 (by omega)
  replace O9 : Own w9 b2 [.slice q41_1 m41_1 d41_1, .slice q41_2 m41_2 d41_2, .slice q41_3 m41_3 d41_3, .slice q44 n6 cc44, .int .i64 (1 - z.T), .int .i64 0] 81 := O9
  refine vn_ rfl rfl rfl ?_
  refine run_ret Tryz.func134 (resc2 rfl rfl (run_loadVar_cells Tryz.isAgg81 Tryz.sizeOf81 O9.cells rfl) rfl) ?_
  have he := str_0 c9 hk c27 htt c36
  have eL : (strikeS z (k : Int)).L = z.L.set z.T.toNat (z.L[z.T.toNat] - 1) := by simp only [strikeS]; rw [atI_of htt]
  exact ⟨_, rfl, E, _, _, _, _, _, _, _, _, _, _, _, _, ((1 - z.T)), (0), by rw [he], fun h => ⟨rfl, rfl⟩, ⟨fun _ => (F41_1.wide (by omega) (by omega))⟩, ⟨fun _ => (F41_2.wide (by omega) (by omega))⟩, ⟨fun _ => (F41_3.wide (by omega) (by omega))⟩, ⟨fun _ => by rw [eL]; exact (Q44.slF (by omega) (by omega))⟩⟩
 refine hs_call rfl (xcall Tryz.call132 rfl) rfl rfl rfl (empty_ok _ _ _ _ _ _ _ _ _ z.P k _ (H1.ext E) (H2.ext E) (H3.ext E) hP hk) ?_
 rintro _ w4 ⟨e4, q41_1, m41_1, d41_1, q41_2, m41_2, d41_2, q41_3, m41_3, d41_3, rfl, F41_1, F41_2, F41_3⟩
 have z4 := e4.size
 have E := E.trans e4
 replace O1 := O1.ext e4
 replace O2 := O2.ext e4
 have F := F.trans e4
 have lF41_1 := F41_1.sl.len
 have lF41_2 := F41_2.sl.len
 have lF41_3 := F41_3.sl.len
 refine ⟨F, ?_⟩
 refine h_ready (rs := [6, 11]) (by kernel_rfl) (by decide) ⟨?_, ?_, trivial⟩
 ·
  refine hs_call rfl (xcall Tryz.call97 rfl) rfl rfl rfl (cloneInt64_ok _ _ _ _ _ (H6.ext E) (H6.ext E).nil (by omega)) ?_
  rintro _ w5 ⟨e5, q44, cc44, rfl, Q44⟩
  have z5 := e5.size
  have E := E.trans e5
  replace F41_1 := F41_1.ext e5
  replace F41_2 := F41_2.ext e5
  replace F41_3 := F41_3.ext e5
  replace O1 := O1.ext e5
  replace O2 := O2.ext e5
  have F := F.trans e5
  refine ⟨F, ?_⟩
  refine h_take 10 rfl (by kernel_rfl) (by kernel_rfl) (by kernel_rfl) (fun w' x_ => xbuild (vs := [.agg #[.slice q41_1 m41_1 d41_1, .slice q41_2 m41_2 d41_2, .slice q41_3 m41_3 d41_3], .slice q44 n6 cc44, .int .i64 (1 - z.T)]) (cells := #[.slice q41_1 m41_1 d41_1, .slice q41_2 m41_2 d41_2, .slice q41_3 m41_3 d41_3, .slice q44 n6 cc44, .int .i64 (1 - z.T), .int .i64 0]) rfl (by kernel_rfl)) rfl rfl rfl F ?_
  refine h_ready (rs := [11]) (by kernel_rfl) (by decide) ⟨?_, trivial⟩
  refine hs_alloc Tryz.zeroValue81 F rfl rfl rfl ?_
  intro b6 w6 e6 hb6 hz6 O6
  have E := E.trans e6
  replace F41_1 := F41_1.ext e6
  replace F41_2 := F41_2.ext e6
  replace F41_3 := F41_3.ext e6
  replace Q44 := Q44.ext e6
  replace O1 := O1.ext e6
  replace O2 := O2.ext e6
  have F := F.trans e6
  replace O6 : Own w6 b6 [.slice none 0 0, .slice none 0 0, .slice none 0 0, .slice none 0 0, .int .i64 0, .int .i64 0] 81 := O6
  refine h_ready (rs := [12]) (by kernel_rfl) (by decide) ⟨?_, trivial⟩
  refine hs_storeN (vs := [.slice q41_1 m41_1 d41_1, .slice q41_2 m41_2 d41_2, .slice q41_3 m41_3 d41_3, .slice q44 n6 cc44, .int .i64 (1 - z.T), .int .i64 0]) Tryz.sizeOf81 rfl rfl O6 rfl (by simp) (by simp [Value.oneCell']) F (by omega) rfl rfl ?_
  intro w7 on7 O7
  have hz7 := on7.size
  have E := on7.ext E (by omega)
  replace F41_1 := F41_1.only on7 (by omega)
  replace F41_2 := F41_2.only on7 (by omega)
  replace F41_3 := F41_3.only on7 (by omega)
  replace Q44 := Q44.only on7 (by omega)
  replace O1 := on7.own O1 (by omega)
  replace O2 := on7.own O2 (by omega)
  have F := on7.ext F (by omega)
  replace O7 : Own w7 b6 [.slice q41_1 m41_1 d41_1, .slice q41_2 m41_2 d41_2, .slice q41_3 m41_3 d41_3, .slice q44 n6 cc44, .int .i64 (1 - z.T), .int .i64 0] 81 := O7
  refine h_doneC (by kernel_rfl) ?_
  refine sr_ ?_
  refine oz_ (xfieldAddr fo81f1 rfl) rfl rfl ?_
  refine oz_ (v := .slice q44 n6 cc44) (xload1 Tryz.isAgg24 rfl (O7.cells) rfl) rfl rfl ?_
  refine oz_ (xfieldAddr fo81f2 rfl) rfl rfl ?_
  refine oz_ (v := .int .i64 z.T) (xload1 Tryz.isAgg2 rfl (O1.cells) rfl) rfl rfl ?_
  have h53 := (Q44.sl).at (i := z.T.toNat) (by omega)
  refine oz_ (xindexN (i := z.T.toNat) Tryz.underlying24 Tryz.sizeOf2 rfl rfl (by omega) ((Q44.sl).p (i := z.T.toNat) (by omega)) (by have := (Q44.sl).len; omega)) rfl rfl ?_
  refine oz_ (v := .int .i64 z.L[z.T.toNat]) (xloadz Tryz.isAgg2 rfl (h53) rfl) rfl rfl ?_
  refine oz_ (xsub rfl rfl (by unfold I64; omega)) rfl rfl ?_
  have h56 := (Q44.sl).at (i := z.T.toNat) (by omega)
  refine oz_ (xindexN (i := z.T.toNat) Tryz.underlying24 Tryz.sizeOf2 rfl rfl (by omega) ((Q44.sl).p (i := z.T.toNat) (by omega)) (by have := (Q44.sl).len; omega)) rfl rfl ?_
  refine ostoreOw1 (i := z.T.toNat) (y := ((z.L[z.T.toNat] - 1))) Tryz.sizeOf2 Q44 (by omega) rfl rfl rfl rfl rfl ?_
  intro w8 m8 g8
  have z8 := m8.size
  have E := m8.toExt E (by omega)
  replace F41_1 := F41_1.off m8 (by omega)
  replace F41_2 := F41_2.off m8 (by omega)
  replace F41_3 := F41_3.off m8 (by omega)
  try replace O2 := m8.own O2 (by omega)
  try replace O7 := m8.own O7 (by omega)
  replace Q44 := g8
  refine ops_nil ?_
  refine sr_ ?_
  refine oz_ (v := .agg #[.slice q41_1 m41_1 d41_1, .slice q41_2 m41_2 d41_2, .slice q41_3 m41_3 d41_3, .slice q44 n6 cc44, .int .i64 (1 - z.T), .int .i64 0]) (xloadN Tryz.isAgg81 Tryz.sizeOf81 rfl (O7.cells) rfl) rfl rfl ?_
  refine ostoreN (vs := _) Tryz.sizeOf81 rfl rfl O2 rfl (by simp) (by simp [Value.oneCell']) rfl ?_
  intro w9 on9 O9
  have hz9 := on9.size
  have E := on9.ext E (by omega)
  replace F41_1 := F41_1.only on9 (by omega)
  replace F41_2 := F41_2.only on9 (by omega)
  replace F41_3 := F41_3.only on9 (by omega)
  replace Q44 := Q44.only on9 (by omega)
  replace O9 : Own w9 b2 [.slice q41_1 m41_1 d41_1, .slice q41_2 m41_2 d41_2, .slice q41_3 m41_3 d41_3, .slice q44 n6 cc44, .int .i64 (1 - z.T), .int .i64 0] 81 := O9
  refine vn_ rfl rfl rfl ?_
  refine run_ret Tryz.func134 (resc2 rfl rfl (run_loadVar_cells Tryz.isAgg81 Tryz.sizeOf81 O9.cells rfl) rfl) ?_
  have he := str_0 c9 hk c27 htt c36
  have eL : (strikeS z (k : Int)).L = z.L.set z.T.toNat (z.L[z.T.toNat] - 1) := by simp only [strikeS]; rw [atI_of htt]
  exact ⟨_, rfl, E, _, _, _, _, _, _, _, _, _, _, _, _, ((1 - z.T)), (0), by rw [he], fun h => ⟨rfl, rfl⟩, ⟨fun _ => (F41_1.wide (by omega) (by omega))⟩, ⟨fun _ => (F41_2.wide (by omega) (by omega))⟩, ⟨fun _ => (F41_3.wide (by omega) (by omega))⟩, ⟨fun _ => by rw [eL]; exact (Q44.slF (by omega) (by omega))⟩⟩
 refine hs_alloc Tryz.zeroValue81 F rfl rfl rfl ?_
 intro b5 w5 e5 hb5 hz5 O5
 have E := E.trans e5
 replace F41_1 := F41_1.ext e5
 replace F41_2 := F41_2.ext e5
 replace F41_3 := F41_3.ext e5
 replace O1 := O1.ext e5
 replace O2 := O2.ext e5
 have F := F.trans e5
 replace O5 : Own w5 b5 [.slice none 0 0, .slice none 0 0, .slice none 0 0, .slice none 0 0, .int .i64 0, .int .i64 0] 81 := O5
 refine h_ready (rs := [6]) (by kernel_rfl) (by decide) ⟨?_, trivial⟩
 refine hs_call rfl (xcall Tryz.call97 rfl) rfl rfl rfl (cloneInt64_ok _ _ _ _ _ (H6.ext E) (H6.ext E).nil (by omega)) ?_
 rintro _ w6 ⟨e6, q44, cc44, rfl, Q44⟩
 have z6 := e6.size
 have E := E.trans e6
 replace F41_1 := F41_1.ext e6
 replace F41_2 := F41_2.ext e6
 replace F41_3 := F41_3.ext e6
 replace O1 := O1.ext e6
 replace O2 := O2.ext e6
 replace O5 := O5.ext e6
 have F := F.trans e6
 refine ⟨F, ?_⟩
 refine h_take 10 rfl (by kernel_rfl) (by kernel_rfl) (by kernel_rfl) (fun w' x_ => xbuild (vs := [.agg #[.slice q41_1 m41_1 d41_1, .slice q41_2 m41_2 d41_2, .slice q41_3 m41_3 d41_3], .slice q44 n6 cc44, .int .i64 (1 - z.T)]) (cells := #[.slice q41_1 m41_1 d41_1, .slice q41_2 m41_2 d41_2, .slice q41_3 m41_3 d41_3, .slice q44 n6 cc44, .int .i64 (1 - z.T), .int .i64 0]) rfl (by kernel_rfl)) rfl rfl rfl F ?_
 refine h_ready (rs := [12]) (by kernel_rfl) (by decide) ⟨?_, trivial⟩
 refine hs_storeN (vs := [.slice q41_1 m41_1 d41_1, .slice q41_2 m41_2 d41_2, .slice q41_3 m41_3 d41_3, .slice q44 n6 cc44, .int .i64 (1 - z.T), .int .i64 0]) Tryz.sizeOf81 rfl rfl O5 rfl (by simp) (by simp [Value.oneCell']) F (by omega) rfl rfl ?_
 intro w7 on7 O7
 have hz7 := on7.size
 have E := on7.ext E (by omega)
 replace F41_1 := F41_1.only on7 (by omega)
 replace F41_2 := F41_2.only on7 (by omega)
 replace F41_3 := F41_3.only on7 (by omega)
 replace Q44 := Q44.only on7 (by omega)
 replace O1 := on7.own O1 (by omega)
 replace O2 := on7.own O2 (by omega)
 have F := on7.ext F (by omega)
 replace O7 : Own w7 b5 [.slice q41_1 m41_1 d41_1, .slice q41_2 m41_2 d41_2, .slice q41_3 m41_3 d41_3, .slice q44 n6 cc44, .int .i64 (1 - z.T), .int .i64 0] 81 := O7
 refine h_doneC (by kernel_rfl) ?_
 refine sr_ ?_
 refine oz_ (xfieldAddr fo81f1 rfl) rfl rfl ?_
 refine oz_ (v := .slice q44 n6 cc44) (xload1 Tryz.isAgg24 rfl (O7.cells) rfl) rfl rfl ?_
 refine oz_ (xfieldAddr fo81f2 rfl) rfl rfl ?_
 refine oz_ (v := .int .i64 z.T) (xload1 Tryz.isAgg2 rfl (O1.cells) rfl) rfl rfl ?_
 have h53 := (Q44.sl).at (i := z.T.toNat) (by omega)
 refine oz_ (xindexN (i := z.T.toNat) Tryz.underlying24 Tryz.sizeOf2 rfl rfl (by omega) ((Q44.sl).p (i := z.T.toNat) (by omega)) (by have := (Q44.sl).len; omega)) rfl rfl ?_
 refine oz_ (v := .int .i64 z.L[z.T.toNat]) (xloadz Tryz.isAgg2 rfl (h53) rfl) rfl rfl ?_
 refine oz_ (xsub rfl rfl (by unfold I64; omega)) rfl rfl ?_
 have h56 := (Q44.sl).at (i := z.T.toNat) (by omega)
 refine oz_ (xindexN (i := z.T.toNat) Tryz.underlying24 Tryz.sizeOf2 rfl rfl (by omega) ((Q44.sl).p (i := z.T.toNat) (by omega)) (by have := (Q44.sl).len; omega)) rfl rfl ?_
 refine ostoreOw1 (i := z.T.toNat) (y := ((z.L[z.T.toNat] - 1))) Tryz.sizeOf2 Q44 (by omega) rfl rfl rfl rfl rfl ?_
 intro w8 m8 g8
 have z8 := m8.size
 have E := m8.toExt E (by omega)
 replace F41_1 := F41_1.off m8 (by omega)
 replace F41_2 := F41_2.off m8 (by omega)
 replace F41_3 := F41_3.off m8 (by omega)
 try replace O2 := m8.own O2 (by omega)
 try replace O7 := m8.own O7 (by omega)
 replace Q44 := g8
 refine ops_nil ?_
 refine sr_ ?_
 refine oz_ (v := .agg #[.slice q41_1 m41_1 d41_1, .slice q41_2 m41_2 d41_2, .slice q41_3 m41_3 d41_3, .slice q44 n6 cc44, .int .i64 (1 - z.T), .int .i64 0]) (xloadN Tryz.isAgg81 Tryz.sizeOf81 rfl (O7.cells) rfl) rfl rfl ?_
 refine ostoreN (vs := _) Tryz.sizeOf81 rfl rfl O2 rfl (by simp) (by simp [Value.oneCell']) rfl ?_
 intro w9 on9 O9
 have hz9 := on9.size
 have E := on9.ext E (by omega)
 replace F41_1 := F41_1.only on9 (by omega)
 replace F41_2 := F41_2.only on9 (by omega)
 replace F41_3 := F41_3.only on9 (by omega)
 replace Q44 := Q44.only on9 (by omega)
 replace O9 : Own w9 b2 [.slice q41_1 m41_1 d41_1, .slice q41_2 m41_2 d41_2, .slice q41_3 m41_3 d41_3, .slice q44 n6 cc44, .int .i64 (1 - z.T), .int .i64 0] 81 := O9
 refine vn_ rfl rfl rfl ?_
 refine run_ret Tryz.func134 (resc2 rfl rfl (run_loadVar_cells Tryz.isAgg81 Tryz.sizeOf81 O9.cells rfl) rfl) ?_
 have he := str_0 c9 hk c27 htt c36
 have eL : (strikeS z (k : Int)).L = z.L.set z.T.toNat (z.L[z.T.toNat] - 1) := by simp only [strikeS]; rw [atI_of htt]
 exact ⟨_, rfl, E, _, _, _, _, _, _, _, _, _, _, _, _, ((1 - z.T)), (0), by rw [he], fun h => ⟨rfl, rfl⟩, ⟨fun _ => (F41_1.wide (by omega) (by omega))⟩, ⟨fun _ => (F41_2.wide (by omega) (by omega))⟩, ⟨fun _ => (F41_3.wide (by omega) (by omega))⟩, ⟨fun _ => by rw [eL]; exact (Q44.slF (by omega) (by omega))⟩⟩
set_option maxHeartbeats 2000000 in
theorem l14Strike_ok (u1 : Option Addr) (n1 v1 : Nat) (u2 : Option Addr) (n2 v2 : Nat) (u3 : Option Addr) (n3 v3 : Nat) (u6 : Option Addr) (n6 v6 : Nat) (z : Sel) (m : Int) (w : World) (H1 : Sl i64c 1 w u1 n1 v1 z.P.S) (H2 : Sl i64c 1 w u2 n2 v2 z.P.W) (H3 : Sl i64c 1 w u3 n3 v3 z.P.G) (H6 : Sl i64c 1 w u6 n6 v6 z.L) (hS : isSel z = true) : Ret Tryz.prog 120 [.agg #[.slice u1 n1 v1, .slice u2 n2 v2, .slice u3 n3 v3, .slice u6 n6 v6, .int .i64 z.T, .int .i64 z.Q], .int .i64 m] w (fun v w' => Ext w w' ∧ ∃ (q1 : Option Addr) (m1 d1 : Nat) (q2 : Option Addr) (m2 d2 : Nat) (q3 : Option Addr) (m3 d3 : Nat) (q6 : Option Addr) (m6 d6 : Nat) (T Q : Int), v = .tuple #[.agg #[.slice q1 m1 d1, .slice q2 m2 d2, .slice q3 m3 d3, .slice q6 m6 d6, .int .i64 T, .int .i64 Q], .int .i64 (strCode z m)] ∧ (strCode z m = 0 → T = (strikeS z m).T ∧ Q = (strikeS z m).Q) ∧ SlC (strCode z m = 0) w' w.heap.size w'.heap.size q1 m1 d1 ((strikeS z m).P.S) ∧ SlC (strCode z m = 0) w' w.heap.size w'.heap.size q2 m2 d2 ((strikeS z m).P.W) ∧ SlC (strCode z m = 0) w' w.heap.size w'.heap.size q3 m3 d3 ((strikeS z m).P.G) ∧ SlC (strCode z m = 0) w' w.heap.size w'.heap.size q6 m6 d6 ((strikeS z m).L)) := by
 refine ret_of_run (N := 61) Tryz.func120 rfl rfl rfl ?_
 have hn1 := H1.len
 have hn2 := H2.len
 have hn3 := H3.len
 have hn6 := H6.len
 obtain ⟨hP, hL, hl2, hT, hQ⟩ := sel_le hS
 have hle := pan_le hP
 have hA := str_at hL 0
 have hB := str_at hL 1
 rw [atI_of (by omega)] at hA hB
 have E : Ext w w := Ext.refl w
 refine sr_ ?_
 refine obox rfl rfl rfl ?_
 intro b1 w1 e1 hb1 hz1 O1
 have E := E.trans e1
 replace O1 : Own w1 b1 [.slice u1 n1 v1, .slice u2 n2 v2, .slice u3 n3 v3, .slice u6 n6 v6, .int .i64 z.T, .int .i64 z.Q] 81 := O1
 refine oalloc Tryz.zeroValue81 rfl rfl ?_
 intro b2 w2 e2 hb2 hz2 O2
 have E := E.trans e2
 replace O1 := O1.ext e2
 replace O2 : Own w2 b2 [.slice none 0 0, .slice none 0 0, .slice none 0 0, .slice none 0 0, .int .i64 0, .int .i64 0] 81 := O2
 refine vn_ rfl rfl rfl ?_
 refine sr_ ?_
 refine oz_ (v := .agg #[.slice u1 n1 v1, .slice u2 n2 v2, .slice u3 n3 v3, .slice u6 n6 v6, .int .i64 z.T, .int .i64 z.Q]) (xloadN Tryz.isAgg81 Tryz.sizeOf81 rfl (O1.cells) rfl) rfl rfl ?_
 refine oc (xcall Tryz.call121 rfl) rfl rfl rfl (l14Code_ok _ _ _ _ _ _ _ _ _ _ _ _ z _ (H1.ext E) (H2.ext E) (H3.ext E) (H6.ext E) hS) ?_
 rintro _ w3 ⟨rfl, e3⟩
 have z3 := e3.size
 have E := E.trans e3
 replace O1 := O1.ext e3
 replace O2 := O2.ext e3
 refine vn_ rfl rfl rfl ?_
 refine run_seq ?_
 refine run_block ?_
 refine sr_ ?_
 refine vm_ rfl rfl rfl ?_
 refine oz_ (xneq rfl rfl _ rfl) rfl rfl ?_
 refine ods (fun c12 => ?_) (fun c12 => ?_)
 ·
  refine vn_ rfl rfl rfl ?_
  refine run_cond_t rfl ?_
  refine run_skip ?_
  refine run_inBlock ?_
  refine run_seq ?_
  refine sr_ ?_
  refine vm_ rfl rfl rfl ?_
  refine oz_ (xneq rfl rfl _ rfl) rfl rfl ?_
  refine ods (fun c39 => ?_) (fun c39 => ?_)
  rotate_left
  ·
   exfalso; omega
  refine ct_ rfl ?_
  refine sr_ ?_
  refine oz_ (v := .agg #[.slice u1 n1 v1, .slice u2 n2 v2, .slice u3 n3 v3, .slice u6 n6 v6, .int .i64 z.T, .int .i64 z.Q]) (xloadN Tryz.isAgg81 Tryz.sizeOf81 rfl (O1.cells) rfl) rfl rfl ?_
  refine vm_ rfl rfl rfl ?_
  refine ostoreN (vs := _) Tryz.sizeOf81 rfl rfl O2 rfl (by simp) (by simp [Value.oneCell']) rfl ?_
  intro w4 on4 O4
  have hz4 := on4.size
  have E := on4.ext E (by omega)
  replace O4 : Own w4 b2 [.slice u1 n1 v1, .slice u2 n2 v2, .slice u3 n3 v3, .slice u6 n6 v6, .int .i64 z.T, .int .i64 z.Q] 81 := O4
  refine vn_ rfl rfl rfl ?_
  refine run_ret Tryz.func120 (resc2 rfl rfl (run_loadVar_cells Tryz.isAgg81 Tryz.sizeOf81 O4.cells rfl) rfl) ?_
  have he := str_pc (m := m) c12
  exact ⟨_, rfl, E, _, _, _, _, _, _, _, _, _, _, _, _, _, _, by rw [he], fun h => by omega, ⟨fun h => by omega⟩, ⟨fun h => by omega⟩, ⟨fun h => by omega⟩, ⟨fun h => by omega⟩⟩
 have hov := pass_over c12
 refine vn_ rfl rfl rfl ?_
 refine run_cond_f rfl ?_
 refine sr_ ?_
 refine vm_ rfl rfl rfl ?_
 refine oz_ (xfieldAddr fo81f0 rfl) rfl rfl ?_
 refine oz_ (xfieldAddr fo79f0 rfl) rfl rfl ?_
 refine oz_ (v := .slice u1 n1 v1) (xload1 Tryz.isAgg24 rfl (O1.cells) rfl) rfl rfl ?_
 refine oz_ (xlen Tryz.underlying24 rfl) rfl rfl ?_
 refine oz_ (xsub rfl rfl (by unfold I64; omega)) rfl rfl ?_
 refine oc (xcall Tryz.call68 rfl) rfl rfl rfl (l01In_ok (m) (0) (((n1 : Int) - 1)) _) ?_
 rintro _ w_ ⟨rfl, hw_⟩
 replace hw_ := hw_.symm
 subst hw_
 refine obs (fun c20 => ?_) (fun c20 => ?_)
 rotate_left
 ·
  refine oz_ (xnot rfl) rfl rfl ?_
  refine vn_ rfl rfl rfl ?_
  refine run_cond_t rfl ?_
  refine run_region ?_
  refine vn_ rfl rfl rfl ?_
  refine run_inBlock ?_
  refine run_seq ?_
  refine sr_ ?_
  refine vm_ rfl rfl rfl ?_
  refine oz_ (xneq rfl rfl _ rfl) rfl rfl ?_
  refine ods (fun c39 => ?_) (fun c39 => ?_)
  rotate_left
  ·
   exfalso; omega
  refine ct_ rfl ?_
  refine sr_ ?_
  refine oz_ (v := .agg #[.slice u1 n1 v1, .slice u2 n2 v2, .slice u3 n3 v3, .slice u6 n6 v6, .int .i64 z.T, .int .i64 z.Q]) (xloadN Tryz.isAgg81 Tryz.sizeOf81 rfl (O1.cells) rfl) rfl rfl ?_
  refine vm_ rfl rfl rfl ?_
  refine ostoreN (vs := _) Tryz.sizeOf81 rfl rfl O2 rfl (by simp) (by simp [Value.oneCell']) rfl ?_
  intro w4 on4 O4
  have hz4 := on4.size
  have E := on4.ext E (by omega)
  replace O4 : Own w4 b2 [.slice u1 n1 v1, .slice u2 n2 v2, .slice u3 n3 v3, .slice u6 n6 v6, .int .i64 z.T, .int .i64 z.Q] 81 := O4
  refine vn_ rfl rfl rfl ?_
  refine run_ret Tryz.func120 (resc2 rfl rfl (run_loadVar_cells Tryz.isAgg81 Tryz.sizeOf81 O4.cells rfl) rfl) ?_
  have he := (str_2 (m := m) hov (by have h_ := c20; rw [Bool.eq_false_iff, ne_eq, inR_iff] at h_; omega))
  exact ⟨_, rfl, E, _, _, _, _, _, _, _, _, _, _, _, _, _, _, by rw [he], fun h => by omega, ⟨fun h => by omega⟩, ⟨fun h => by omega⟩, ⟨fun h => by omega⟩, ⟨fun h => by omega⟩⟩
 have hin : 0 ≤ m ∧ m < z.P.S.length := by have := inR_iff.1 c20; omega
 obtain ⟨k, rfl⟩ : ∃ k : Nat, m = (k : Int) := ⟨m.toNat, by omega⟩
 have hk : k < z.P.S.length := by omega
 have htt : z.T.toNat < z.L.length := by omega
 have hsT := str_at hL z.T.toNat
 rw [atI_of htt] at hsT
 refine oz_ (xnot rfl) rfl rfl ?_
 refine vn_ rfl rfl rfl ?_
 refine run_cond_f rfl ?_
 refine sr_ ?_
 refine oz_ (xfieldAddr fo81f0 rfl) rfl rfl ?_
 refine oz_ (xfieldAddr fo79f0 rfl) rfl rfl ?_
 refine oz_ (v := .slice u1 n1 v1) (xload1 Tryz.isAgg24 rfl (O1.cells) rfl) rfl rfl ?_
 refine vm_ rfl rfl rfl ?_
 have h27 := (H1.ext E).at (i := k) (by omega)
 refine oz_ (xindexN (i := k) Tryz.underlying24 Tryz.sizeOf2 rfl rfl (by omega) ((H1.ext E).p (i := k) (by omega)) (by have := (H1.ext E).len; omega)) rfl rfl ?_
 refine oz_ (v := .int .i64 z.P.S[k]) (xloadz Tryz.isAgg2 rfl (h27) rfl) rfl rfl ?_
 refine oz_ (xeql rfl rfl _ rfl) rfl rfl ?_
 refine ods (fun c29 => ?_) (fun c29 => ?_)
 ·
  refine vn_ rfl rfl rfl ?_
  refine run_cond_t rfl ?_
  refine run_region ?_
  refine vn_ rfl rfl rfl ?_
  refine run_inBlock ?_
  refine run_seq ?_
  refine sr_ ?_
  refine vm_ rfl rfl rfl ?_
  refine oz_ (xneq rfl rfl _ rfl) rfl rfl ?_
  refine ods (fun c39 => ?_) (fun c39 => ?_)
  rotate_left
  ·
   exfalso; omega
  refine ct_ rfl ?_
  refine sr_ ?_
  refine oz_ (v := .agg #[.slice u1 n1 v1, .slice u2 n2 v2, .slice u3 n3 v3, .slice u6 n6 v6, .int .i64 z.T, .int .i64 z.Q]) (xloadN Tryz.isAgg81 Tryz.sizeOf81 rfl (O1.cells) rfl) rfl rfl ?_
  refine vm_ rfl rfl rfl ?_
  refine ostoreN (vs := _) Tryz.sizeOf81 rfl rfl O2 rfl (by simp) (by simp [Value.oneCell']) rfl ?_
  intro w4 on4 O4
  have hz4 := on4.size
  have E := on4.ext E (by omega)
  replace O4 : Own w4 b2 [.slice u1 n1 v1, .slice u2 n2 v2, .slice u3 n3 v3, .slice u6 n6 v6, .int .i64 z.T, .int .i64 z.Q] 81 := O4
  refine vn_ rfl rfl rfl ?_
  refine run_ret Tryz.func120 (resc2 rfl rfl (run_loadVar_cells Tryz.isAgg81 Tryz.sizeOf81 O4.cells rfl) rfl) ?_
  have he := str_4 hov hk c29
  exact ⟨_, rfl, E, _, _, _, _, _, _, _, _, _, _, _, _, _, _, by rw [he], fun h => by omega, ⟨fun h => by omega⟩, ⟨fun h => by omega⟩, ⟨fun h => by omega⟩, ⟨fun h => by omega⟩⟩
 refine vn_ rfl rfl rfl ?_
 refine run_cond_f rfl ?_
 refine sr_ ?_
 refine oz_ (xfieldAddr fo81f1 rfl) rfl rfl ?_
 refine oz_ (v := .slice u6 n6 v6) (xload1 Tryz.isAgg24 rfl (O1.cells) rfl) rfl rfl ?_
 refine oz_ (xfieldAddr fo81f2 rfl) rfl rfl ?_
 refine oz_ (v := .int .i64 z.T) (xload1 Tryz.isAgg2 rfl (O1.cells) rfl) rfl rfl ?_
 have h35 := (H6.ext E).at (i := z.T.toNat) (by omega)
 refine oz_ (xindexN (i := z.T.toNat) Tryz.underlying24 Tryz.sizeOf2 rfl rfl (by omega) ((H6.ext E).p (i := z.T.toNat) (by omega)) (by have := (H6.ext E).len; omega)) rfl rfl ?_
 refine oz_ (v := .int .i64 z.L[z.T.toNat]) (xloadz Tryz.isAgg2 rfl (h35) rfl) rfl rfl ?_
 refine oz_ (xeql rfl rfl _ rfl) rfl rfl ?_
 refine ods (fun c37 => ?_) (fun c37 => ?_)
 ·
  refine vn_ rfl rfl rfl ?_
  refine run_cond_t rfl ?_
  refine run_region ?_
  refine vn_ rfl rfl rfl ?_
  refine run_inBlock ?_
  refine run_seq ?_
  refine sr_ ?_
  refine vm_ rfl rfl rfl ?_
  refine oz_ (xneq rfl rfl _ rfl) rfl rfl ?_
  refine ods (fun c39 => ?_) (fun c39 => ?_)
  rotate_left
  ·
   exfalso; omega
  refine ct_ rfl ?_
  refine sr_ ?_
  refine oz_ (v := .agg #[.slice u1 n1 v1, .slice u2 n2 v2, .slice u3 n3 v3, .slice u6 n6 v6, .int .i64 z.T, .int .i64 z.Q]) (xloadN Tryz.isAgg81 Tryz.sizeOf81 rfl (O1.cells) rfl) rfl rfl ?_
  refine vm_ rfl rfl rfl ?_
  refine ostoreN (vs := _) Tryz.sizeOf81 rfl rfl O2 rfl (by simp) (by simp [Value.oneCell']) rfl ?_
  intro w4 on4 O4
  have hz4 := on4.size
  have E := on4.ext E (by omega)
  replace O4 : Own w4 b2 [.slice u1 n1 v1, .slice u2 n2 v2, .slice u3 n3 v3, .slice u6 n6 v6, .int .i64 z.T, .int .i64 z.Q] 81 := O4
  refine vn_ rfl rfl rfl ?_
  refine run_ret Tryz.func120 (resc2 rfl rfl (run_loadVar_cells Tryz.isAgg81 Tryz.sizeOf81 O4.cells rfl) rfl) ?_
  have he := str_3 hov hk c29 htt c37
  exact ⟨_, rfl, E, _, _, _, _, _, _, _, _, _, _, _, _, _, _, by rw [he], fun h => by omega, ⟨fun h => by omega⟩, ⟨fun h => by omega⟩, ⟨fun h => by omega⟩, ⟨fun h => by omega⟩⟩
 refine vn_ rfl rfl rfl ?_
 refine run_cond_f rfl ?_
 refine run_skip ?_
 refine run_inBlock ?_
 refine run_seq ?_
 refine sr_ ?_
 refine vm_ rfl rfl rfl ?_
 refine oz_ (xneq rfl rfl _ rfl) rfl rfl ?_
 refine ods (fun c39 => ?_) (fun c39 => ?_)
 ·
  exfalso; omega
 refine cf_ rfl ?_
 refine sr_ ?_
 refine oz_ (xfieldAddr fo81f1 rfl) rfl rfl ?_
 refine oz_ (v := .slice u6 n6 v6) (xload1 Tryz.isAgg24 rfl (O1.cells) rfl) rfl rfl ?_
 refine oc (xcall Tryz.call102 rfl) rfl rfl rfl (l01Own_ok _ _ _ _ _ (H6.ext E) (H6.ext E).nil (by omega)) ?_
 rintro _ w4 ⟨e4, q44, cc44, rfl, Q44⟩
 have z4 := e4.size
 have E := E.trans e4
 replace O1 := O1.ext e4
 replace O2 := O2.ext e4
 refine vn_ rfl rfl rfl ?_
 refine sr_ ?_
 refine vm_ rfl rfl rfl ?_
 refine oz_ (xfieldAddr fo81f2 rfl) rfl rfl ?_
 refine oz_ (v := .int .i64 z.T) (xload1 Tryz.isAgg2 rfl (O1.cells) rfl) rfl rfl ?_
 have h48 := (Q44.sl).at (i := z.T.toNat) (by omega)
 refine oz_ (xindexN (i := z.T.toNat) Tryz.underlying24 Tryz.sizeOf2 rfl rfl (by omega) ((Q44.sl).p (i := z.T.toNat) (by omega)) (by have := (Q44.sl).len; omega)) rfl rfl ?_
 refine oz_ (v := .int .i64 z.L[z.T.toNat]) (xloadz Tryz.isAgg2 rfl (h48) rfl) rfl rfl ?_
 refine oz_ (xsub rfl rfl (by unfold I64; omega)) rfl rfl ?_
 have h51 := (Q44.sl).at (i := z.T.toNat) (by omega)
 refine oz_ (xindexN (i := z.T.toNat) Tryz.underlying24 Tryz.sizeOf2 rfl rfl (by omega) ((Q44.sl).p (i := z.T.toNat) (by omega)) (by have := (Q44.sl).len; omega)) rfl rfl ?_
 refine ostoreOw1 (i := z.T.toNat) (y := ((z.L[z.T.toNat] - 1))) Tryz.sizeOf2 Q44 (by omega) rfl rfl rfl rfl rfl ?_
 intro w5 m5 g5
 have z5 := m5.size
 have E := m5.toExt E (by omega)
 try replace O1 := m5.own O1 (by omega)
 try replace O2 := m5.own O2 (by omega)
 replace Q44 := g5
 refine ops_nil ?_
 refine run_seq ?_
 have hcut13 := cut_size (w := w5) (k := b2) (by omega)
 have RE := ext_to_cut E (k := b2) (by omega) (by omega)
 have RO1 := O1.cut (k := b2) (by omega) (by omega)
 refine run_heldC (ext_cut (w := w5) (k := b2) (by omega)) (by kernel_rfl) ?_
 intro wh13 F
 have zh13 := F.size
 have E := E.trans F
 replace Q44 := Q44.ext F
 replace O2 := O2.ext F
 replace F := (ext_cut (w := w5) (k := b2) (by omega)).trans F
 refine h_take 0 rfl (by kernel_rfl) (by kernel_rfl) (by kernel_rfl) (fun w' x_ => xfieldAddr fo81f0 rfl) rfl rfl rfl F ?_
 refine h_take 1 (v := .agg #[.slice u1 n1 v1, .slice u2 n2 v2, .slice u3 n3 v3]) rfl (by kernel_rfl) (by kernel_rfl) (by kernel_rfl) (fun w' x_ => xloadN Tryz.isAgg79 Tryz.sizeOf79 rfl (((Cells.mid (pre := []) (row := [.slice u1 n1 v1, .slice u2 n2 v2, .slice u3 n3 v3]) (post := [.slice u6 n6 v6, .int .i64 z.T, .int .i64 z.Q]) (RO1.cells))).ext x_) rfl) rfl rfl rfl F ?_
 refine h_take 2 rfl (by kernel_rfl) (by kernel_rfl) (by kernel_rfl) (fun w' x_ => xmove rfl) rfl rfl rfl F ?_
 refine h_take 4 rfl (by kernel_rfl) (by kernel_rfl) (by kernel_rfl) (fun w' x_ => xmove rfl) rfl rfl rfl F ?_
 refine h_take 5 rfl (by kernel_rfl) (by kernel_rfl) (by kernel_rfl) (fun w' x_ => xfieldAddr fo81f2 rfl) rfl rfl rfl F ?_
 refine h_take 6 (v := .int .i64 z.T) rfl (by kernel_rfl) (by kernel_rfl) (by kernel_rfl) (fun w' x_ => xload1 Tryz.isAgg2 rfl ((RO1.cells).ext x_) rfl) rfl rfl rfl F ?_
 refine h_take 7 rfl (by kernel_rfl) (by kernel_rfl) (by kernel_rfl) (fun w' x_ => xsub rfl rfl (by unfold I64; omega)) rfl rfl rfl F ?_
 refine h_ready (rs := [3]) (by kernel_rfl) (by decide) ⟨?_, trivial⟩
 refine hs_call rfl (xcall Tryz.call135 rfl) rfl rfl rfl (l12Empty_ok _ _ _ _ _ _ _ _ _ z.P k _ (H1.ext E) (H2.ext E) (H3.ext E) hP hk) ?_
 rintro _ w6 ⟨e6, q55_1, m55_1, d55_1, q55_2, m55_2, d55_2, q55_3, m55_3, d55_3, rfl, F55_1, F55_2, F55_3⟩
 have z6 := e6.size
 have E := E.trans e6
 replace Q44 := Q44.ext e6
 replace O2 := O2.ext e6
 have F := F.trans e6
 have lF55_1 := F55_1.sl.len
 have lF55_2 := F55_2.sl.len
 have lF55_3 := F55_3.sl.len
 refine ⟨F, ?_⟩
 refine h_take 8 rfl (by kernel_rfl) (by kernel_rfl) (by kernel_rfl) (fun w' x_ => xbuild (vs := [.agg #[.slice q55_1 m55_1 d55_1, .slice q55_2 m55_2 d55_2, .slice q55_3 m55_3 d55_3], .slice q44 n6 cc44, .int .i64 (1 - z.T)]) (cells := #[.slice q55_1 m55_1 d55_1, .slice q55_2 m55_2 d55_2, .slice q55_3 m55_3 d55_3, .slice q44 n6 cc44, .int .i64 (1 - z.T), .int .i64 0]) rfl (by kernel_rfl)) rfl rfl rfl F ?_
 refine h_ready (rs := [9]) (by kernel_rfl) (by decide) ⟨?_, trivial⟩
 refine hs_storeN (vs := [.slice q55_1 m55_1 d55_1, .slice q55_2 m55_2 d55_2, .slice q55_3 m55_3 d55_3, .slice q44 n6 cc44, .int .i64 (1 - z.T), .int .i64 0]) Tryz.sizeOf81 rfl rfl O2 rfl (by simp) (by simp [Value.oneCell']) F (by omega) rfl rfl ?_
 intro w7 on7 O7
 have hz7 := on7.size
 have E := on7.ext E (by omega)
 replace Q44 := Q44.only on7 (by omega)
 replace F55_1 := F55_1.only on7 (by omega)
 replace F55_2 := F55_2.only on7 (by omega)
 replace F55_3 := F55_3.only on7 (by omega)
 have F := on7.ext F (by omega)
 replace O7 : Own w7 b2 [.slice q55_1 m55_1 d55_1, .slice q55_2 m55_2 d55_2, .slice q55_3 m55_3 d55_3, .slice q44 n6 cc44, .int .i64 (1 - z.T), .int .i64 0] 81 := O7
 refine h_take 10 rfl (by kernel_rfl) (by kernel_rfl) (by kernel_rfl) (fun w' x_ => xassign rfl) rfl rfl rfl F ?_
 refine h_doneC (by kernel_rfl) ?_
 refine run_ret Tryz.func120 (resc2 rfl rfl (run_loadVar_cells Tryz.isAgg81 Tryz.sizeOf81 O7.cells rfl) rfl) ?_
 have he := str_0 hov hk c29 htt c37
 have eL : (strikeS z (k : Int)).L = z.L.set z.T.toNat (z.L[z.T.toNat] - 1) := by simp only [strikeS]; rw [atI_of htt]
 exact ⟨_, rfl, E, _, _, _, _, _, _, _, _, _, _, _, _, ((1 - z.T)), (0), by rw [he], fun h => ⟨rfl, rfl⟩, ⟨fun _ => (F55_1.wide (by omega) (by omega))⟩, ⟨fun _ => (F55_2.wide (by omega) (by omega))⟩, ⟨fun _ => (F55_3.wide (by omega) (by omega))⟩, ⟨fun _ => by rw [eL]; exact (Q44.slF (by omega) (by omega))⟩⟩
end Go.Proofs.YtchblgaklknkcaaGreat
