/-
  Sorting a slice of texts, each text once, by the contracts of the library. No condition beyond those written in each theorem.
-/
import Derived.Test.YtgbedilaiefcbaaSrtP
import Derived.Shelf.SlGeneric
import Derived.Ground.SlgnProg
import Derived.Ground.SlgmProg
import Derived.Shelf.SlicesG.CompactS
import Derived.Shelf.SortM.Plain
namespace Go.Proofs.Ytgbedilaiefcbaa
open Go.RowKit Go.Shelf
set_option linter.unusedVariables false
set_option linter.unusedSimpArgs false
set_option linter.unusedSectionVars false
set_option maxRecDepth 4000

end Go.Proofs.Ytgbedilaiefcbaa
namespace Go.Proofs
open Go.Shelf
def Try.laysSs_ren : Go.Shelf.Ren := ⟨fun | 6 => 74 | 8 => 86 | 9 => 85 | 19 => 102 | 20 => 103 | 21 => 93 | 22 => 94 | 23 => 95 | 24 => 96 | 25 => 97 | 26 => 98 | 27 => 99 | 28 => 100 | 29 => 101 | 36 => 106 | 31 => 107 | 32 => 108 | 37 => 109 | 38 => 110 | 39 => 111 | 41 => 114 | n => n, fun | 27 => 48 | 29 => 9 | 3 => 3 | 32 => 107 | 26 => 48 | 0 => 0 | 44 => 122 | 46 => 124 | 4 => 4 | 36 => 115 | 35 => 114 | 41 => 119 | 5 => 5 | 9 => 9 | 53 => 125 | 57 => 129 | 63 => 133 | 64 => 134 | n => n, fun | n => n⟩
theorem Try.laysSs : Go.Proofs.SlLaysM.n6 Try.prog Try.laysSs_ren := {
  mixed := by kernel_rfl
  f6 := ⟨Try.f74.name, by decide, Try.func74.trans (congrArg some (by kernel_rfl))⟩
  f8 := Try.func86.trans (congrArg some (by kernel_rfl))
  f9 := ⟨Try.f85.name, by decide, Try.func85.trans (congrArg some (by kernel_rfl))⟩
  f19 := Try.func102.trans (congrArg some (by kernel_rfl))
  f20 := Try.func103.trans (congrArg some (by kernel_rfl))
  f21 := ⟨Try.f93.name, by decide, Try.func93.trans (congrArg some (by kernel_rfl))⟩
  f22 := ⟨Try.f94.name, by decide, Try.func94.trans (congrArg some (by kernel_rfl))⟩
  f23 := ⟨Try.f95.name, by decide, Try.func95.trans (congrArg some (by kernel_rfl))⟩
  f24 := ⟨Try.f96.name, by decide, Try.func96.trans (congrArg some (by kernel_rfl))⟩
  f25 := ⟨Try.f97.name, by decide, Try.func97.trans (congrArg some (by kernel_rfl))⟩
  f26 := ⟨Try.f98.name, by decide, Try.func98.trans (congrArg some (by kernel_rfl))⟩
  f27 := ⟨Try.f99.name, by decide, Try.func99.trans (congrArg some (by kernel_rfl))⟩
  f28 := ⟨Try.f100.name, by decide, Try.func100.trans (congrArg some (by kernel_rfl))⟩
  f29 := ⟨Try.f101.name, by decide, Try.func101.trans (congrArg some (by kernel_rfl))⟩
  f31 := Try.func107.trans (congrArg some (by kernel_rfl))
  f32 := Try.func108.trans (congrArg some (by kernel_rfl))
  f36 := ⟨Try.f106.name, by decide, Try.func106.trans (congrArg some (by kernel_rfl))⟩
  f37 := ⟨Try.f109.name, by decide, Try.func109.trans (congrArg some (by kernel_rfl))⟩
  f38 := ⟨Try.f110.name, by decide, Try.func110.trans (congrArg some (by kernel_rfl))⟩
  f39 := ⟨Try.f111.name, by decide, Try.func111.trans (congrArg some (by kernel_rfl))⟩
  f41 := ⟨Try.f114.name, by decide, Try.func114.trans (congrArg some (by kernel_rfl))⟩
  t0 := Try.underlying0
  a0 := Try.isAgg0
  z0 := Try.sizeOf0
  v0 := Try.zeroValue0
  t3 := Try.underlying3
  a3 := Try.isAgg3
  z3 := Try.sizeOf3
  v3 := Try.zeroValue3
  t4 := Try.underlying4
  a4 := Try.isAgg4
  z4 := Try.sizeOf4
  v4 := Try.zeroValue4
  t5 := Try.underlying5
  a5 := Try.isAgg5
  z5 := Try.sizeOf5
  v5 := Try.zeroValue5
  t9 := Try.underlying9
  a9 := Try.isAgg9
  z9 := Try.sizeOf9
  v9 := Try.zeroValue9
  t26 := Try.underlying48
  a26 := Try.isAgg48
  z26 := Try.sizeOf48
  v26 := Try.zeroValue48
  t27 := Try.underlying48
  a27 := Try.isAgg48
  z27 := Try.sizeOf48
  v27 := Try.zeroValue48
  t29 := Try.underlying9
  a29 := Try.isAgg9
  z29 := Try.sizeOf9
  v29 := Try.zeroValue9
  t32 := Try.underlying107
  a32 := Try.isAgg107
  z32 := Try.sizeOf107
  v32 := Try.zeroValue107
  t35 := Try.underlying114
  a35 := Try.isAgg114
  z35 := Try.sizeOf114
  v35 := Try.zeroValue114
  t36 := Try.underlying115
  a36 := Try.isAgg115
  z36 := Try.sizeOf115
  v36 := Try.zeroValue115
  t41 := Try.underlying119
  a41 := Try.isAgg119
  z41 := Try.sizeOf119
  v41 := Try.zeroValue119
  t44 := Try.underlying122
  a44 := Try.isAgg122
  z44 := Try.sizeOf122
  v44 := Try.zeroValue122
  t46 := Try.underlying124
  a46 := Try.isAgg124
  z46 := Try.sizeOf124
  v46 := Try.zeroValue124
  t53 := Try.underlying125
  a53 := Try.isAgg125
  z53 := Try.sizeOf125
  v53 := Try.zeroValue125
  t57 := Try.underlying129
  a57 := Try.isAgg129
  z57 := Try.sizeOf129
  v57 := Try.zeroValue129
  t63 := Try.underlying133
  a63 := Try.isAgg133
  z63 := Try.sizeOf133
  v63 := Try.zeroValue133
  t64 := Try.underlying134
  a64 := Try.isAgg134
  z64 := Try.sizeOf134
  v64 := Try.zeroValue134 }
def Try.laysCs_ren : Go.Shelf.Ren := ⟨fun | 44 => 75 | n => n, fun | 25 => 48 | 26 => 9 | 3 => 3 | 4 => 4 | 0 => 0 | n => n, fun | n => n⟩
theorem Try.laysCs : Go.Proofs.SlLaysN.n44 Try.prog Try.laysCs_ren := {
  mixed := by kernel_rfl
  f44 := ⟨Try.f75.name, by decide, Try.func75.trans (congrArg some (by kernel_rfl))⟩
  t0 := Try.underlying0
  a0 := Try.isAgg0
  z0 := Try.sizeOf0
  v0 := Try.zeroValue0
  t3 := Try.underlying3
  a3 := Try.isAgg3
  z3 := Try.sizeOf3
  v3 := Try.zeroValue3
  t4 := Try.underlying4
  a4 := Try.isAgg4
  z4 := Try.sizeOf4
  v4 := Try.zeroValue4
  t25 := Try.underlying48
  a25 := Try.isAgg48
  z25 := Try.sizeOf48
  v25 := Try.zeroValue48
  t26 := Try.underlying9
  a26 := Try.isAgg9
  z26 := Try.sizeOf9
  v26 := Try.zeroValue9
  i26 := by kernel_rfl }
end Go.Proofs
namespace Go.Proofs.Ytgbedilaiefcbaa
open Go.Shelf

theorem encStr_bts (x : ByteArray) : encStr (bts x) = .string x := by cases x; simp [bts]
theorem flat_str (xs : List ByteArray) : (xs.map strc).flatten = (xs.map bts).map encStr := by
  induction xs with
  | nil => rfl
  | cons x r ih => simp only [List.map_cons, List.flatten_cons, ih, strc, encStr_bts]; rfl
theorem map_ofB (l : List (List UInt8)) : (l.map ofB).map bts = l := by
  rw [List.map_map]
  have : bts ∘ ofB = id := funext bts_ofB
  rw [this, List.map_id]
theorem putCells_listS (ys : List (List UInt8)) (cs s : List Value) (hc : cs.length = ys.length) : Sort.putCells encStr 0 ys.toArray (cs ++ s).toArray = (ys.map encStr ++ s).toArray := by
  apply Array.ext_getElem?
  intro k
  simp only [Sort.putCells, Array.getElem?_mapIdx, List.getElem?_toArray, List.size_toArray]
  rcases Nat.lt_or_ge k ys.length with h | h
  · have h1 : k < cs.length := by omega
    have h2 : k < (ys.map encStr).length := by simpa using h
    rw [List.getElem?_append_left h1, List.getElem?_append_left h2, List.getElem?_eq_getElem h1, List.getElem?_eq_getElem h2]
    simp [h]
  · rw [List.getElem?_append_right (by omega), List.getElem?_append_right (by simpa using h), List.length_map, hc]
    cases s[k - ys.length]? with
    | none => rfl
    | some v => simp; intro h2; omega
theorem put_ownS {w : World} {b : Nat} {T : TypeId} {xs ys : List ByteArray} {s : List Value} (h : Own w b ((xs.map strc).flatten ++ s) T) (hl : ys.length = xs.length) (n : Nat) (os : Array Obj) :
    Own (Sort.grow (Sort.putRow encStr (Sort.ahead w n) b 0 (ys.map bts).toArray) os) b ((ys.map strc).flatten ++ s) T ∧ Mk b (b + 1) w (Sort.grow (Sort.putRow encStr (Sort.ahead w n) b 0 (ys.map bts).toArray) os) := by
  have hlt := h.lt
  refine ⟨?_, rfl, rfl, rfl, by simp, fun j hj hn => ?_⟩
  · unfold Own at h ⊢
    rw [Sort.heap_grow_old _ _ (by simpa using hlt)]
    simp only [Sort.putRow, Sort.mapBlock, Array.getElem?_modify, if_true, Sort.heap_ahead, h, Option.map_some, Sort.onCells]
    rw [flat_str, flat_str, putCells_listS (ys.map bts) _ s (by simp [hl])]
  · rw [Sort.heap_grow_old _ _ (by simpa using hj)]
    simp only [Sort.putRow, Sort.mapBlock, Array.getElem?_modify, Sort.heap_ahead]
    rw [if_neg (by omega)]
theorem own_holdsS {w : World} {b : Nat} {T : TypeId} {xs : List ByteArray} {s : List Value} (h : Own w b ((xs.map strc).flatten ++ s) T) : Sort.Holds encStr w b 0 (xs.map bts).toArray := fun j hj => by
  have hj' : j < (xs.map bts).length := by simpa using hj
  refine ⟨?_, ?_⟩
  · refine h.cells j _ ?_
    rw [flat_str]
    generalize xs.map bts = ys at hj' ⊢
    rw [List.getElem?_append_left (by simpa using hj')]
    simp [hj']
  · unfold Own at h; simp [World.frozen?, h]
/-- sorted -/
def srt0 (xs : List ByteArray) : List ByteArray := ((xs.map bts).mergeSort fun x y => decide (x ≤ y)).map ofB
theorem srt0_len (xs : List ByteArray) : (srt0 xs).length = xs.length := by simp [srt0, List.length_mergeSort]
theorem srt0_srt (xs : List ByteArray) : (Lib.compact ((srt0 xs).map bts)).map ofB = srtS xs := by rw [srt0, map_ofB]; rfl
theorem sortS_ok (p : Option Addr) (n c : Nat) (xs : List ByteArray) (lo hi : Nat) (w : World) (G : Ow strc 1 9 w lo hi p n c xs) (h0 : p ≠ none) (h1 : n ≤ 1000000000) :
    Ret Try.prog 74 [.slice p n c] w (fun v w' => v = .tuple #[] ∧ Mk lo hi w w' ∧ Ow strc 1 9 w' lo hi p n c (srt0 xs)) := by
  have hl := G.len; have hc := G.cap
  rcases G.row with ⟨h2, _⟩ | ⟨b, s, rfl, h3, h4, h5, h6⟩
  · exact absurd h2 h0
  · have key := AnyM.slices_Sort_string Try.laysSs b 0 c (xs.map bts) w (own_holdsS h5) h5.lt (by rw [List.length_map]; omega)
    rw [List.length_map, ← hl] at key
    refine Calls.mono key fun e w' he => ?_
    obtain ⟨he, q, os, rfl⟩ := he
    have e1 : ((xs.map bts).mergeSort fun x y => decide (x ≤ y)) = (srt0 xs).map bts := by rw [srt0, map_ofB]
    rw [e1]
    obtain ⟨k1, k2⟩ := put_ownS h5 (ys := srt0 xs) (srt0_len xs) q os
    exact ⟨_, he, rfl, k2.wide h3 (by omega), ⟨by rw [srt0_len]; exact hl, hc, G.big, .inr ⟨b, s, rfl, h3, h4, k1, h6⟩, fun _ _ => rfl⟩⟩
theorem compactS_ok (p : Option Addr) (n c : Nat) (xs : List ByteArray) (lo hi : Nat) (w : World) (G : Ow strc 1 9 w lo hi p n c xs) (h0 : p ≠ none) (h1 : n ≤ 1000000000) :
    Ret Try.prog 75 [.slice p n c] w (fun v w' => ∃ m, v = .slice p m c ∧ m ≤ n ∧ Mk lo hi w w' ∧ Ow strc 1 9 w' lo hi p m c ((Lib.compact (xs.map bts)).map ofB)) := by
  have hl := G.len; have hc := G.cap
  rcases G.row with ⟨h2, _⟩ | ⟨b, s, rfl, h3, h4, h5, h6⟩
  · exact absurd h2 h0
  · have key := AnyG.slices_Compact_string Try.laysCs b 0 c (xs.map bts) w (own_holdsS h5) (by rw [List.length_map]; omega) (by rw [List.length_map]; omega)
    rw [List.length_map, ← hl] at key
    have hle : (Lib.compact (xs.map bts)).length ≤ xs.length := by
      rw [Lib.compact, Lib.compactUpTo, List.length_map]
      refine Nat.le_trans (List.length_filter_le _ _) ?_
      simp
    refine Calls.mono key fun e w' he => ?_
    obtain ⟨he, q, rfl⟩ := he
    have e1 : Lib.compact (xs.map bts) ++ List.replicate (n - (Lib.compact (xs.map bts)).length) [] = ((Lib.compact (xs.map bts)).map ofB ++ List.replicate (n - (Lib.compact (xs.map bts)).length) (⟨#[]⟩ : ByteArray)).map bts := by
      rw [List.map_append, map_ofB, List.map_replicate]; rfl
    rw [e1]
    obtain ⟨k1, k2⟩ := put_ownS h5 (ys := (Lib.compact (xs.map bts)).map ofB ++ List.replicate (n - (Lib.compact (xs.map bts)).length) (⟨#[]⟩ : ByteArray)) (by simp; omega) q #[]
    rw [Sort.grow_empty] at k1 k2
    refine ⟨_, he, _, rfl, by omega, k2.wide h3 (by omega), ⟨by simp, by omega, G.big, .inr ⟨b, ((List.replicate (n - (Lib.compact (xs.map bts)).length) (⟨#[]⟩ : ByteArray)).map strc).flatten ++ s, rfl, h3, h4, ?_, ?_⟩, fun _ _ => rfl⟩⟩
    · have k3 : ∀ (a b : List ByteArray) (s : List Value), ((a ++ b).map strc).flatten ++ s = (a.map strc).flatten ++ ((b.map strc).flatten ++ s) := fun a b s => by rw [List.map_append, List.flatten_append, List.append_assoc]
      rw [k3] at k1; exact k1
    · rw [flat_str]; simp; omega

set_option maxHeartbeats 400000 in
theorem sortedNames_ok (p : Option Addr) (n c : Nat) (xs : List ByteArray) (lo hi : Nat) (w : World) (G : Ow strc 1 9 w lo hi p n c xs) (h0 : p ≠ none) (h1 : n ≤ 1000000000) : Ret Try.prog 59 [.slice p n c] w (fun v w' => ∃ m, v = .slice p m c ∧ m ≤ n ∧ Mk lo hi w w' ∧ Ow strc 1 9 w' lo hi p m c (srtS xs)) := by
  refine ret_of_run (N := 7) Try.func59 rfl rfl rfl ?_
  have E : Mk lo hi w w := Mk.refl _ _ _
  refine run_seq ?_
  refine run_region ?_
  refine ov (xassign rfl) rfl rfl rfl ?_
  refine ops_nil ?_
  refine run_seq ?_
  refine run_region ?_
  refine ov (xmove rfl) rfl rfl rfl ?_
  refine oc (xcall Try.call74 rfl) rfl rfl rfl (sortS_ok _ _ _ _ _ _ _ G h0 h1) ?_
  rintro _ w1 ⟨rfl, m1, g1⟩
  have z1 := m1.size
  have E := E.trans m1
  replace G := g1
  refine ops_nil ?_
  refine run_seq ?_
  refine run_region ?_
  refine ov (xmove rfl) rfl rfl rfl ?_
  refine oc (xcall Try.call75 rfl) rfl rfl rfl (compactS_ok _ _ _ _ _ _ _ G h0 h1) ?_
  rintro _ w2 ⟨mz, rfl, hmz, m2, g2⟩
  have z2 := m2.size
  have E := E.trans m2
  replace G := g2
  refine ov (xassign rfl) rfl rfl rfl ?_
  refine ops_nil ?_
  refine run_ret Try.func59 (res1 rfl rfl) ?_
  exact ⟨_, rfl, _, rfl, hmz, E, by rw [srt0_srt] at G; exact G⟩

set_option maxHeartbeats 1000000 in
theorem l13Insert_ok (p : Option Addr) (n c : Nat) (xs : List ByteArray) (x : ByteArray) (lo hi : Nat) (w : World) (G : Ow strc 1 9 w lo hi p n c xs) (hh : hi ≤ w.heap.size) (hn2 : n ≤ 10000000) (hlo : lo ≤ w.heap.size) : Ret Try.prog 71 [.slice p n c, .string x] w (fun v w' => Ext w w' ∧ ∃ q m d, v = .slice q m d ∧ Ow strc 1 9 w' lo w'.heap.size q m d (insT xs x)) := by
  refine ret_of_run (N := 45) Try.func71 rfl rfl rfl ?_
  have hn := G.len
  have E : Ext w w := Ext.refl w
  refine run_seq ?_
  refine run_region ?_
  refine ov (xassign rfl) rfl rfl rfl ?_
  refine ops_nil ?_
  refine run_seq ?_
  refine run_region ?_
  refine ov (xassign rfl) rfl rfl rfl ?_
  refine ops_nil ?_
  refine run_seq ?_
  refine run_block ?_
  refine run_loop (ι := Nat × World) (fun x_ => match x_ with | (k, wr) => (Ext w wr) ∧ (Ow strc 1 9 wr lo hi p n c xs) ∧ (w.heap.size ≤ wr.heap.size) ∧ (k ≤ n) ∧ (∀ j (hj : j < xs.length), j < k → slt xs[j] x = true)) (fun x_ => match x_ with | (k, wr) => [(0, .slice p n c), (1, .string x), (5, .int .i64 (k : Int))]) (fun x_ => match x_ with | (k, wr) => wr) (fun x_ => match x_ with | (k, wr) => n - k) ?_ (0, w) (⟨E, G, Nat.le_refl _, by omega, fun j hj h => absurd h (Nat.not_lt_zero j)⟩) ⟨rfl, rfl, rfl, trivial⟩ rfl
  intro i_ hI_ hback2
  obtain ⟨k, wr⟩ := i_
  obtain ⟨E, G, lz_wr, hk, ha⟩ := hI_
  try dsimp only
  have zr := E.size
  refine run_seq ?_
  refine run_seq ?_
  refine run_region ?_
  refine ov (xmove rfl) rfl rfl rfl ?_
  refine ov (xmove rfl) rfl rfl rfl ?_
  refine ov (xlen Try.underlying48 rfl) rfl rfl rfl ?_
  refine ov (xlss rfl rfl _ rfl) rfl rfl rfl ?_
  refine ods (fun c9 => ?_) (fun c9 => ?_)
  ·
    refine ov (xmove rfl) rfl rfl rfl ?_
    refine ov (xmove rfl) rfl rfl rfl ?_
    refine ov (xmove rfl) rfl rfl rfl ?_
    have h13 := (G.sl).at (i := k) (by omega)
    refine ov (xindexN (i := k) Try.underlying48 Try.sizeOf9 rfl rfl rfl ((G.sl).p (i := k) (by omega)) (by have := (G.sl).len; omega)) rfl rfl rfl ?_
    refine ov (v := .string xs[k]) (xloadz Try.isAgg9 rfl (h13) rfl) rfl rfl rfl ?_
    refine ov (xmove rfl) rfl rfl rfl ?_
    refine ov (xslss rfl rfl _ rfl) rfl rfl rfl ?_
    refine obs (fun c16 => ?_) (fun c16 => ?_)
    ·
      refine ov (xpick_t rfl rfl) rfl rfl rfl ?_
      refine ops_nil ?_
      refine run_cond_t rfl ?_
      refine run_skip ?_
      refine run_block ?_
      refine run_region ?_
      refine ov (xmove rfl) rfl rfl rfl ?_
      refine ov (xadd rfl rfl (by unfold I64; omega)) rfl rfl rfl ?_
      refine ov (xassign rfl) rfl rfl rfl ?_
      refine ops_nil ?_
      refine run_inBlock ?_
      refine run_sub ?_ (hback2 (k + 1, wr) (⟨E, G, by omega, by omega, below_succ (q := fun y => slt y x = true) ha (fun _ => c16)⟩) (by first | omega | (dsimp only; omega)))
      exact ⟨rfl, rfl, rfl, trivial⟩
    ·
      refine ov (xpick_t rfl rfl) rfl rfl rfl ?_
      refine ops_nil ?_
      refine run_cond_f rfl ?_
      refine run_exit rfl ?_
      refine run_seq ?_
      refine run_seq ?_
      refine run_region ?_
      have hins : (∀ h : k < xs.length, slt xs[k] x = false) → insT xs x = if ∃ h : k < xs.length, xs[k] = x then xs else xs.take k ++ x :: xs.drop k := fun h => insT_at (by omega) ha h
      refine ov (xmove rfl) rfl rfl rfl ?_
      refine ov (xmove rfl) rfl rfl rfl ?_
      refine ov (xlen Try.underlying48 rfl) rfl rfl rfl ?_
      refine ov (xlss rfl rfl _ rfl) rfl rfl rfl ?_
      refine ods (fun c23 => ?_) (fun c23 => ?_)
      ·
        refine ov (xmove rfl) rfl rfl rfl ?_
        refine ov (xmove rfl) rfl rfl rfl ?_
        refine ov (xmove rfl) rfl rfl rfl ?_
        have h27 := (G.sl).at (i := k) (by omega)
        refine ov (xindexN (i := k) Try.underlying48 Try.sizeOf9 rfl rfl rfl ((G.sl).p (i := k) (by omega)) (by have := (G.sl).len; omega)) rfl rfl rfl ?_
        refine ov (v := .string xs[k]) (xloadz Try.isAgg9 rfl (h27) rfl) rfl rfl rfl ?_
        refine ov (xmove rfl) rfl rfl rfl ?_
        refine ov (xseql rfl rfl _ rfl) rfl rfl rfl ?_
        refine ods (fun c30 => ?_) (fun c30 => ?_)
        ·
          refine ov (xpick_t rfl rfl) rfl rfl rfl ?_
          refine ops_nil ?_
          refine run_cond_t rfl ?_
          refine run_seq ?_
          refine run_region ?_
          refine ov (xmove rfl) rfl rfl rfl ?_
          refine ov (xassign rfl) rfl rfl rfl ?_
          refine ops_nil ?_
          refine run_ret Try.func71 (res1 rfl rfl) ?_
          have he : insT xs x = xs := by rw [hins (fun h => by first | assumption | omega), if_pos ⟨by omega, c30⟩]
          exact ⟨_, rfl, E, _, _, _, rfl, by rw [he]; exact G.wide (by omega) (by omega)⟩
        ·
          refine ov (xpick_t rfl rfl) rfl rfl rfl ?_
          refine ops_nil ?_
          refine run_cond_f rfl ?_
          refine run_skip ?_
          refine run_seq ?_
          have RE := E
          refine run_held (ι := Option Addr × Nat) (fun x_ w' => match x_ with | (q, d) => Ext wr w' ∧ Ow strc 1 9 w' wr.heap.size w'.heap.size q (k + 1 + (n - k)) d (xs.take k ++ [x] ++ xs.drop k)) (fun x_ => match x_ with | (q, d) => [(4, .slice q (k + 1 + (n - k)) d)]) (by kernel_rfl) ?_ ?_
          · intro w0_ F
            have z0_ := F.size
            have E := E.trans F
            replace G := G.ext F
            refine h_take 1 rfl (by kernel_rfl) (by kernel_rfl) (by kernel_rfl) (fun w' x_ => xmove rfl) rfl rfl rfl F ?_
            refine h_take 2 rfl (by kernel_rfl) (by kernel_rfl) (by kernel_rfl) (fun w' x_ => xmove rfl) rfl rfl rfl F ?_
            refine h_take 3 rfl (by kernel_rfl) (by kernel_rfl) (by kernel_rfl) (fun w' x_ => xslice_h (k := k) Try.underlying48 Try.sizeOf9 rfl rfl rfl (by have := (G.sl).cap; omega)) rfl rfl rfl F ?_
            refine h_take 5 rfl (by kernel_rfl) (by kernel_rfl) (by kernel_rfl) (fun w' x_ => xmove rfl) rfl rfl rfl F ?_
            refine h_take 8 rfl (by kernel_rfl) (by kernel_rfl) (by kernel_rfl) (fun w' x_ => xmove rfl) rfl rfl rfl F ?_
            refine h_take 9 rfl (by kernel_rfl) (by kernel_rfl) (by kernel_rfl) (fun w' x_ => xmove rfl) rfl rfl rfl F ?_
            refine h_take 10 rfl (by kernel_rfl) (by kernel_rfl) (by kernel_rfl) (fun w' x_ => xslice_l (k := k) Try.underlying48 Try.sizeOf9 rfl rfl rfl (by omega)) rfl rfl rfl F ?_
            refine h_ready (rs := [0, 6]) (by kernel_rfl) (by decide) ⟨?_, ?_, trivial⟩
            ·
              refine hs_build (len := 0) (vs := []) (cs := []) (sz := 1) Try.underlying48 inf9 rfl rfl (by decide) (by rfl) (by rfl) (by simp [Value.cells]) rfl F rfl rfl rfl ?_
              intro b1 w1 e1 hb1 hz1 O1
              have E := E.trans e1
              replace G := G.ext e1
              have G1 : Ow strc 1 9 w1 b1 (b1 + 1) (some ⟨b1, 0, none⟩) 0 0 ([] : List ByteArray) := Own.ow (by simpa [strc] using O1) rfl (by omega) (Nat.le_refl _) (by omega) (by intro x hx; rfl)
              have F := F.trans e1
              refine h_ready (rs := [4, 6]) (by kernel_rfl) (by decide) ⟨?_, ?_, trivial⟩
              ·
                refine hs_app (bytes := 16) (nm := k) G1 (by rfl) (by rfl) elem9 ((G.sl).take (k := k) (by omega)) ((G.sl).take (k := k) (by omega)).nil (by intro y hy; rfl) (by intro y hy u hu; simp only [strc, List.mem_singleton] at hu; subst hu; rfl) (by omega) (by omega) (by omega) (by omega) F (by omega) rfl rfl rfl ?_
                intro p2 c2_ w2 m2 G2
                have hz2 := m2.size
                have E := m2.toExt E (by omega)
                have F := m2.toExt F (by omega)
                replace G := G.off m2 (by omega)
                refine h_ready (rs := [6]) (by kernel_rfl) (by decide) ⟨?_, trivial⟩
                ·
                  refine hs_build (len := 1) (vs := [.string x]) (cs := [.string x]) (sz := 1) Try.underlying48 inf9 rfl rfl (by decide) (by rfl) (by rfl) (by simp [Value.cells]) rfl F rfl rfl rfl ?_
                  intro b3 w3 e3 hb3 hz3 O3
                  have E := E.trans e3
                  replace G := G.ext e3
                  replace G2 := G2.ext e3
                  have F := F.trans e3
                  refine h_ready (rs := [7]) (by kernel_rfl) (by decide) ⟨?_, trivial⟩
                  ·
                    refine hs_app (bytes := 16) (nm := (k + 1)) G2 (by rfl) (by rfl) elem9 (Own.sl1 (y := x) O3) (by intro h; cases h) (by intro y hy; rfl) (by intro y hy u hu; rw [List.mem_singleton] at hy; subst hy; revert u; simp [Value.oneCell', strc]) (by omega) (by omega) (by omega) (by omega) F (by omega) rfl rfl rfl ?_
                    intro p4 c4_ w4 m4 G4
                    have hz4 := m4.size
                    have E := m4.toExt E (by omega)
                    have F := m4.toExt F (by omega)
                    replace G := G.off m4 (by omega)
                    try replace O3 := m4.own O3 (by omega)
                    refine h_ready (rs := [11]) (by kernel_rfl) (by decide) ⟨?_, trivial⟩
                    ·
                      refine hs_app (bytes := 16) (nm := ((k + 1) + (n - k))) G4 (by rfl) (by rfl) elem9 ((G.sl).drop (k := k) (by omega)) ((G.sl).drop (k := k) (by omega)).nil (by intro y hy; rfl) (by intro y hy u hu; simp only [strc, List.mem_singleton] at hu; subst hu; rfl) (by omega) (by omega) (by omega) (by omega) F (by omega) rfl rfl rfl ?_
                      intro p5 c5_ w5 m5 G5
                      have hz5 := m5.size
                      have E := m5.toExt E (by omega)
                      have F := m5.toExt F (by omega)
                      replace G := G.off m5 (by omega)
                      try replace O3 := m5.own O3 (by omega)
                      refine h_take 12 rfl (by kernel_rfl) (by kernel_rfl) (by kernel_rfl) (fun w' x_ => xassign rfl) rfl rfl rfl F ?_
                      refine h_done (by kernel_rfl) ?_
                      intro a_ ha_
                      exact ⟨(p5, c5_), ⟨F, (by simpa using G5.wide (by omega) (by omega))⟩, ha_.sub ⟨rfl, trivial⟩⟩
              ·
                refine hs_build (len := 1) (vs := [.string x]) (cs := [.string x]) (sz := 1) Try.underlying48 inf9 rfl rfl (by decide) (by rfl) (by rfl) (by simp [Value.cells]) rfl F rfl rfl rfl ?_
                intro b2 w2 e2 hb2 hz2 O2
                have E := E.trans e2
                replace G := G.ext e2
                replace G1 := G1.ext e2
                have F := F.trans e2
                refine h_ready (rs := [4]) (by kernel_rfl) (by decide) ⟨?_, trivial⟩
                ·
                  refine hs_app (bytes := 16) (nm := k) G1 (by rfl) (by rfl) elem9 ((G.sl).take (k := k) (by omega)) ((G.sl).take (k := k) (by omega)).nil (by intro y hy; rfl) (by intro y hy u hu; simp only [strc, List.mem_singleton] at hu; subst hu; rfl) (by omega) (by omega) (by omega) (by omega) F (by omega) rfl rfl rfl ?_
                  intro p3 c3_ w3 m3 G3
                  have hz3 := m3.size
                  have E := m3.toExt E (by omega)
                  have F := m3.toExt F (by omega)
                  replace G := G.off m3 (by omega)
                  try replace O2 := m3.own O2 (by omega)
                  refine h_ready (rs := [7]) (by kernel_rfl) (by decide) ⟨?_, trivial⟩
                  ·
                    refine hs_app (bytes := 16) (nm := (k + 1)) G3 (by rfl) (by rfl) elem9 (Own.sl1 (y := x) O2) (by intro h; cases h) (by intro y hy; rfl) (by intro y hy u hu; rw [List.mem_singleton] at hy; subst hy; revert u; simp [Value.oneCell', strc]) (by omega) (by omega) (by omega) (by omega) F (by omega) rfl rfl rfl ?_
                    intro p4 c4_ w4 m4 G4
                    have hz4 := m4.size
                    have E := m4.toExt E (by omega)
                    have F := m4.toExt F (by omega)
                    replace G := G.off m4 (by omega)
                    try replace O2 := m4.own O2 (by omega)
                    refine h_ready (rs := [11]) (by kernel_rfl) (by decide) ⟨?_, trivial⟩
                    ·
                      refine hs_app (bytes := 16) (nm := ((k + 1) + (n - k))) G4 (by rfl) (by rfl) elem9 ((G.sl).drop (k := k) (by omega)) ((G.sl).drop (k := k) (by omega)).nil (by intro y hy; rfl) (by intro y hy u hu; simp only [strc, List.mem_singleton] at hu; subst hu; rfl) (by omega) (by omega) (by omega) (by omega) F (by omega) rfl rfl rfl ?_
                      intro p5 c5_ w5 m5 G5
                      have hz5 := m5.size
                      have E := m5.toExt E (by omega)
                      have F := m5.toExt F (by omega)
                      replace G := G.off m5 (by omega)
                      try replace O2 := m5.own O2 (by omega)
                      refine h_take 12 rfl (by kernel_rfl) (by kernel_rfl) (by kernel_rfl) (fun w' x_ => xassign rfl) rfl rfl rfl F ?_
                      refine h_done (by kernel_rfl) ?_
                      intro a_ ha_
                      exact ⟨(p5, c5_), ⟨F, (by simpa using G5.wide (by omega) (by omega))⟩, ha_.sub ⟨rfl, trivial⟩⟩
            ·
              refine hs_build (len := 1) (vs := [.string x]) (cs := [.string x]) (sz := 1) Try.underlying48 inf9 rfl rfl (by decide) (by rfl) (by rfl) (by simp [Value.cells]) rfl F rfl rfl rfl ?_
              intro b1 w1 e1 hb1 hz1 O1
              have E := E.trans e1
              replace G := G.ext e1
              have F := F.trans e1
              refine h_ready (rs := [0]) (by kernel_rfl) (by decide) ⟨?_, trivial⟩
              ·
                refine hs_build (len := 0) (vs := []) (cs := []) (sz := 1) Try.underlying48 inf9 rfl rfl (by decide) (by rfl) (by rfl) (by simp [Value.cells]) rfl F rfl rfl rfl ?_
                intro b2 w2 e2 hb2 hz2 O2
                have E := E.trans e2
                replace G := G.ext e2
                replace O1 := O1.ext e2
                have G2 : Ow strc 1 9 w2 b2 (b2 + 1) (some ⟨b2, 0, none⟩) 0 0 ([] : List ByteArray) := Own.ow (by simpa [strc] using O2) rfl (by omega) (Nat.le_refl _) (by omega) (by intro x hx; rfl)
                have F := F.trans e2
                refine h_ready (rs := [4]) (by kernel_rfl) (by decide) ⟨?_, trivial⟩
                ·
                  refine hs_app (bytes := 16) (nm := k) G2 (by rfl) (by rfl) elem9 ((G.sl).take (k := k) (by omega)) ((G.sl).take (k := k) (by omega)).nil (by intro y hy; rfl) (by intro y hy u hu; simp only [strc, List.mem_singleton] at hu; subst hu; rfl) (by omega) (by omega) (by omega) (by omega) F (by omega) rfl rfl rfl ?_
                  intro p3 c3_ w3 m3 G3
                  have hz3 := m3.size
                  have E := m3.toExt E (by omega)
                  have F := m3.toExt F (by omega)
                  replace G := G.off m3 (by omega)
                  try replace O1 := m3.own O1 (by omega)
                  refine h_ready (rs := [7]) (by kernel_rfl) (by decide) ⟨?_, trivial⟩
                  ·
                    refine hs_app (bytes := 16) (nm := (k + 1)) G3 (by rfl) (by rfl) elem9 (Own.sl1 (y := x) O1) (by intro h; cases h) (by intro y hy; rfl) (by intro y hy u hu; rw [List.mem_singleton] at hy; subst hy; revert u; simp [Value.oneCell', strc]) (by omega) (by omega) (by omega) (by omega) F (by omega) rfl rfl rfl ?_
                    intro p4 c4_ w4 m4 G4
                    have hz4 := m4.size
                    have E := m4.toExt E (by omega)
                    have F := m4.toExt F (by omega)
                    replace G := G.off m4 (by omega)
                    try replace O1 := m4.own O1 (by omega)
                    refine h_ready (rs := [11]) (by kernel_rfl) (by decide) ⟨?_, trivial⟩
                    ·
                      refine hs_app (bytes := 16) (nm := ((k + 1) + (n - k))) G4 (by rfl) (by rfl) elem9 ((G.sl).drop (k := k) (by omega)) ((G.sl).drop (k := k) (by omega)).nil (by intro y hy; rfl) (by intro y hy u hu; simp only [strc, List.mem_singleton] at hu; subst hu; rfl) (by omega) (by omega) (by omega) (by omega) F (by omega) rfl rfl rfl ?_
                      intro p5 c5_ w5 m5 G5
                      have hz5 := m5.size
                      have E := m5.toExt E (by omega)
                      have F := m5.toExt F (by omega)
                      replace G := G.off m5 (by omega)
                      try replace O1 := m5.own O1 (by omega)
                      refine h_take 12 rfl (by kernel_rfl) (by kernel_rfl) (by kernel_rfl) (fun w' x_ => xassign rfl) rfl rfl rfl F ?_
                      refine h_done (by kernel_rfl) ?_
                      intro a_ ha_
                      exact ⟨(p5, c5_), ⟨F, (by simpa using G5.wide (by omega) (by omega))⟩, ha_.sub ⟨rfl, trivial⟩⟩
          · intro x_
            obtain ⟨q, d⟩ := x_
            rintro w1 ⟨e1, G6_⟩
            have z1 := e1.size
            have E := E.trans e1
            replace G := G.ext e1
            refine run_ret Try.func71 (res1 rfl rfl) ?_
            have hno : ¬ ∃ h : k < xs.length, xs[k] = x := by
              rintro ⟨h, e⟩; exact c30 e
            have he : insT xs x = xs.take k ++ [x] ++ xs.drop k := by rw [hins (fun h => by first | assumption | omega), if_neg hno]; simp
            exact ⟨_, rfl, E, _, _, _, rfl, by rw [he]; exact G6_.wide (by omega) (by omega)⟩
      ·
        refine ov (xmove rfl) rfl rfl rfl ?_
        refine og rfl rfl rfl ?_
        refine og rfl rfl rfl ?_
        refine og rfl rfl rfl ?_
        refine og rfl rfl rfl ?_
        refine og rfl rfl rfl ?_
        refine og rfl rfl rfl ?_
        refine ov (xpick_f rfl rfl) rfl rfl rfl ?_
        refine ops_nil ?_
        refine run_cond_f rfl ?_
        refine run_skip ?_
        refine run_seq ?_
        have RE := E
        refine run_held (ι := Option Addr × Nat) (fun x_ w' => match x_ with | (q, d) => Ext wr w' ∧ Ow strc 1 9 w' wr.heap.size w'.heap.size q (k + 1 + (n - k)) d (xs.take k ++ [x] ++ xs.drop k)) (fun x_ => match x_ with | (q, d) => [(4, .slice q (k + 1 + (n - k)) d)]) (by kernel_rfl) ?_ ?_
        · intro w0_ F
          have z0_ := F.size
          have E := E.trans F
          replace G := G.ext F
          refine h_take 1 rfl (by kernel_rfl) (by kernel_rfl) (by kernel_rfl) (fun w' x_ => xmove rfl) rfl rfl rfl F ?_
          refine h_take 2 rfl (by kernel_rfl) (by kernel_rfl) (by kernel_rfl) (fun w' x_ => xmove rfl) rfl rfl rfl F ?_
          refine h_take 3 rfl (by kernel_rfl) (by kernel_rfl) (by kernel_rfl) (fun w' x_ => xslice_h (k := k) Try.underlying48 Try.sizeOf9 rfl rfl rfl (by have := (G.sl).cap; omega)) rfl rfl rfl F ?_
          refine h_take 5 rfl (by kernel_rfl) (by kernel_rfl) (by kernel_rfl) (fun w' x_ => xmove rfl) rfl rfl rfl F ?_
          refine h_take 8 rfl (by kernel_rfl) (by kernel_rfl) (by kernel_rfl) (fun w' x_ => xmove rfl) rfl rfl rfl F ?_
          refine h_take 9 rfl (by kernel_rfl) (by kernel_rfl) (by kernel_rfl) (fun w' x_ => xmove rfl) rfl rfl rfl F ?_
          refine h_take 10 rfl (by kernel_rfl) (by kernel_rfl) (by kernel_rfl) (fun w' x_ => xslice_l (k := k) Try.underlying48 Try.sizeOf9 rfl rfl rfl (by omega)) rfl rfl rfl F ?_
          refine h_ready (rs := [0, 6]) (by kernel_rfl) (by decide) ⟨?_, ?_, trivial⟩
          ·
            refine hs_build (len := 0) (vs := []) (cs := []) (sz := 1) Try.underlying48 inf9 rfl rfl (by decide) (by rfl) (by rfl) (by simp [Value.cells]) rfl F rfl rfl rfl ?_
            intro b1 w1 e1 hb1 hz1 O1
            have E := E.trans e1
            replace G := G.ext e1
            have G1 : Ow strc 1 9 w1 b1 (b1 + 1) (some ⟨b1, 0, none⟩) 0 0 ([] : List ByteArray) := Own.ow (by simpa [strc] using O1) rfl (by omega) (Nat.le_refl _) (by omega) (by intro x hx; rfl)
            have F := F.trans e1
            refine h_ready (rs := [4, 6]) (by kernel_rfl) (by decide) ⟨?_, ?_, trivial⟩
            ·
              refine hs_app (bytes := 16) (nm := k) G1 (by rfl) (by rfl) elem9 ((G.sl).take (k := k) (by omega)) ((G.sl).take (k := k) (by omega)).nil (by intro y hy; rfl) (by intro y hy u hu; simp only [strc, List.mem_singleton] at hu; subst hu; rfl) (by omega) (by omega) (by omega) (by omega) F (by omega) rfl rfl rfl ?_
              intro p2 c2_ w2 m2 G2
              have hz2 := m2.size
              have E := m2.toExt E (by omega)
              have F := m2.toExt F (by omega)
              replace G := G.off m2 (by omega)
              refine h_ready (rs := [6]) (by kernel_rfl) (by decide) ⟨?_, trivial⟩
              ·
                refine hs_build (len := 1) (vs := [.string x]) (cs := [.string x]) (sz := 1) Try.underlying48 inf9 rfl rfl (by decide) (by rfl) (by rfl) (by simp [Value.cells]) rfl F rfl rfl rfl ?_
                intro b3 w3 e3 hb3 hz3 O3
                have E := E.trans e3
                replace G := G.ext e3
                replace G2 := G2.ext e3
                have F := F.trans e3
                refine h_ready (rs := [7]) (by kernel_rfl) (by decide) ⟨?_, trivial⟩
                ·
                  refine hs_app (bytes := 16) (nm := (k + 1)) G2 (by rfl) (by rfl) elem9 (Own.sl1 (y := x) O3) (by intro h; cases h) (by intro y hy; rfl) (by intro y hy u hu; rw [List.mem_singleton] at hy; subst hy; revert u; simp [Value.oneCell', strc]) (by omega) (by omega) (by omega) (by omega) F (by omega) rfl rfl rfl ?_
                  intro p4 c4_ w4 m4 G4
                  have hz4 := m4.size
                  have E := m4.toExt E (by omega)
                  have F := m4.toExt F (by omega)
                  replace G := G.off m4 (by omega)
                  try replace O3 := m4.own O3 (by omega)
                  refine h_ready (rs := [11]) (by kernel_rfl) (by decide) ⟨?_, trivial⟩
                  ·
                    refine hs_app (bytes := 16) (nm := ((k + 1) + (n - k))) G4 (by rfl) (by rfl) elem9 ((G.sl).drop (k := k) (by omega)) ((G.sl).drop (k := k) (by omega)).nil (by intro y hy; rfl) (by intro y hy u hu; simp only [strc, List.mem_singleton] at hu; subst hu; rfl) (by omega) (by omega) (by omega) (by omega) F (by omega) rfl rfl rfl ?_
                    intro p5 c5_ w5 m5 G5
                    have hz5 := m5.size
                    have E := m5.toExt E (by omega)
                    have F := m5.toExt F (by omega)
                    replace G := G.off m5 (by omega)
                    try replace O3 := m5.own O3 (by omega)
                    refine h_take 12 rfl (by kernel_rfl) (by kernel_rfl) (by kernel_rfl) (fun w' x_ => xassign rfl) rfl rfl rfl F ?_
                    refine h_done (by kernel_rfl) ?_
                    intro a_ ha_
                    exact ⟨(p5, c5_), ⟨F, (by simpa using G5.wide (by omega) (by omega))⟩, ha_.sub ⟨rfl, trivial⟩⟩
            ·
              refine hs_build (len := 1) (vs := [.string x]) (cs := [.string x]) (sz := 1) Try.underlying48 inf9 rfl rfl (by decide) (by rfl) (by rfl) (by simp [Value.cells]) rfl F rfl rfl rfl ?_
              intro b2 w2 e2 hb2 hz2 O2
              have E := E.trans e2
              replace G := G.ext e2
              replace G1 := G1.ext e2
              have F := F.trans e2
              refine h_ready (rs := [4]) (by kernel_rfl) (by decide) ⟨?_, trivial⟩
              ·
                refine hs_app (bytes := 16) (nm := k) G1 (by rfl) (by rfl) elem9 ((G.sl).take (k := k) (by omega)) ((G.sl).take (k := k) (by omega)).nil (by intro y hy; rfl) (by intro y hy u hu; simp only [strc, List.mem_singleton] at hu; subst hu; rfl) (by omega) (by omega) (by omega) (by omega) F (by omega) rfl rfl rfl ?_
                intro p3 c3_ w3 m3 G3
                have hz3 := m3.size
                have E := m3.toExt E (by omega)
                have F := m3.toExt F (by omega)
                replace G := G.off m3 (by omega)
                try replace O2 := m3.own O2 (by omega)
                refine h_ready (rs := [7]) (by kernel_rfl) (by decide) ⟨?_, trivial⟩
                ·
                  refine hs_app (bytes := 16) (nm := (k + 1)) G3 (by rfl) (by rfl) elem9 (Own.sl1 (y := x) O2) (by intro h; cases h) (by intro y hy; rfl) (by intro y hy u hu; rw [List.mem_singleton] at hy; subst hy; revert u; simp [Value.oneCell', strc]) (by omega) (by omega) (by omega) (by omega) F (by omega) rfl rfl rfl ?_
                  intro p4 c4_ w4 m4 G4
                  have hz4 := m4.size
                  have E := m4.toExt E (by omega)
                  have F := m4.toExt F (by omega)
                  replace G := G.off m4 (by omega)
                  try replace O2 := m4.own O2 (by omega)
                  refine h_ready (rs := [11]) (by kernel_rfl) (by decide) ⟨?_, trivial⟩
                  ·
                    refine hs_app (bytes := 16) (nm := ((k + 1) + (n - k))) G4 (by rfl) (by rfl) elem9 ((G.sl).drop (k := k) (by omega)) ((G.sl).drop (k := k) (by omega)).nil (by intro y hy; rfl) (by intro y hy u hu; simp only [strc, List.mem_singleton] at hu; subst hu; rfl) (by omega) (by omega) (by omega) (by omega) F (by omega) rfl rfl rfl ?_
                    intro p5 c5_ w5 m5 G5
                    have hz5 := m5.size
                    have E := m5.toExt E (by omega)
                    have F := m5.toExt F (by omega)
                    replace G := G.off m5 (by omega)
                    try replace O2 := m5.own O2 (by omega)
                    refine h_take 12 rfl (by kernel_rfl) (by kernel_rfl) (by kernel_rfl) (fun w' x_ => xassign rfl) rfl rfl rfl F ?_
                    refine h_done (by kernel_rfl) ?_
                    intro a_ ha_
                    exact ⟨(p5, c5_), ⟨F, (by simpa using G5.wide (by omega) (by omega))⟩, ha_.sub ⟨rfl, trivial⟩⟩
          ·
            refine hs_build (len := 1) (vs := [.string x]) (cs := [.string x]) (sz := 1) Try.underlying48 inf9 rfl rfl (by decide) (by rfl) (by rfl) (by simp [Value.cells]) rfl F rfl rfl rfl ?_
            intro b1 w1 e1 hb1 hz1 O1
            have E := E.trans e1
            replace G := G.ext e1
            have F := F.trans e1
            refine h_ready (rs := [0]) (by kernel_rfl) (by decide) ⟨?_, trivial⟩
            ·
              refine hs_build (len := 0) (vs := []) (cs := []) (sz := 1) Try.underlying48 inf9 rfl rfl (by decide) (by rfl) (by rfl) (by simp [Value.cells]) rfl F rfl rfl rfl ?_
              intro b2 w2 e2 hb2 hz2 O2
              have E := E.trans e2
              replace G := G.ext e2
              replace O1 := O1.ext e2
              have G2 : Ow strc 1 9 w2 b2 (b2 + 1) (some ⟨b2, 0, none⟩) 0 0 ([] : List ByteArray) := Own.ow (by simpa [strc] using O2) rfl (by omega) (Nat.le_refl _) (by omega) (by intro x hx; rfl)
              have F := F.trans e2
              refine h_ready (rs := [4]) (by kernel_rfl) (by decide) ⟨?_, trivial⟩
              ·
                refine hs_app (bytes := 16) (nm := k) G2 (by rfl) (by rfl) elem9 ((G.sl).take (k := k) (by omega)) ((G.sl).take (k := k) (by omega)).nil (by intro y hy; rfl) (by intro y hy u hu; simp only [strc, List.mem_singleton] at hu; subst hu; rfl) (by omega) (by omega) (by omega) (by omega) F (by omega) rfl rfl rfl ?_
                intro p3 c3_ w3 m3 G3
                have hz3 := m3.size
                have E := m3.toExt E (by omega)
                have F := m3.toExt F (by omega)
                replace G := G.off m3 (by omega)
                try replace O1 := m3.own O1 (by omega)
                refine h_ready (rs := [7]) (by kernel_rfl) (by decide) ⟨?_, trivial⟩
                ·
                  refine hs_app (bytes := 16) (nm := (k + 1)) G3 (by rfl) (by rfl) elem9 (Own.sl1 (y := x) O1) (by intro h; cases h) (by intro y hy; rfl) (by intro y hy u hu; rw [List.mem_singleton] at hy; subst hy; revert u; simp [Value.oneCell', strc]) (by omega) (by omega) (by omega) (by omega) F (by omega) rfl rfl rfl ?_
                  intro p4 c4_ w4 m4 G4
                  have hz4 := m4.size
                  have E := m4.toExt E (by omega)
                  have F := m4.toExt F (by omega)
                  replace G := G.off m4 (by omega)
                  try replace O1 := m4.own O1 (by omega)
                  refine h_ready (rs := [11]) (by kernel_rfl) (by decide) ⟨?_, trivial⟩
                  ·
                    refine hs_app (bytes := 16) (nm := ((k + 1) + (n - k))) G4 (by rfl) (by rfl) elem9 ((G.sl).drop (k := k) (by omega)) ((G.sl).drop (k := k) (by omega)).nil (by intro y hy; rfl) (by intro y hy u hu; simp only [strc, List.mem_singleton] at hu; subst hu; rfl) (by omega) (by omega) (by omega) (by omega) F (by omega) rfl rfl rfl ?_
                    intro p5 c5_ w5 m5 G5
                    have hz5 := m5.size
                    have E := m5.toExt E (by omega)
                    have F := m5.toExt F (by omega)
                    replace G := G.off m5 (by omega)
                    try replace O1 := m5.own O1 (by omega)
                    refine h_take 12 rfl (by kernel_rfl) (by kernel_rfl) (by kernel_rfl) (fun w' x_ => xassign rfl) rfl rfl rfl F ?_
                    refine h_done (by kernel_rfl) ?_
                    intro a_ ha_
                    exact ⟨(p5, c5_), ⟨F, (by simpa using G5.wide (by omega) (by omega))⟩, ha_.sub ⟨rfl, trivial⟩⟩
        · intro x_
          obtain ⟨q, d⟩ := x_
          rintro w1 ⟨e1, G6_⟩
          have z1 := e1.size
          have E := E.trans e1
          replace G := G.ext e1
          refine run_ret Try.func71 (res1 rfl rfl) ?_
          have hno : ¬ ∃ h : k < xs.length, xs[k] = x := by
            rintro ⟨h, e⟩; omega
          have he : insT xs x = xs.take k ++ [x] ++ xs.drop k := by rw [hins (fun h => by first | assumption | omega), if_neg hno]; simp
          exact ⟨_, rfl, E, _, _, _, rfl, by rw [he]; exact G6_.wide (by omega) (by omega)⟩
  ·
    refine ov (xmove rfl) rfl rfl rfl ?_
    refine og rfl rfl rfl ?_
    refine og rfl rfl rfl ?_
    refine og rfl rfl rfl ?_
    refine og rfl rfl rfl ?_
    refine og rfl rfl rfl ?_
    refine og rfl rfl rfl ?_
    refine ov (xpick_f rfl rfl) rfl rfl rfl ?_
    refine ops_nil ?_
    refine run_cond_f rfl ?_
    refine run_exit rfl ?_
    refine run_seq ?_
    refine run_seq ?_
    refine run_region ?_
    have hins : (∀ h : k < xs.length, slt xs[k] x = false) → insT xs x = if ∃ h : k < xs.length, xs[k] = x then xs else xs.take k ++ x :: xs.drop k := fun h => insT_at (by omega) ha h
    refine ov (xmove rfl) rfl rfl rfl ?_
    refine ov (xmove rfl) rfl rfl rfl ?_
    refine ov (xlen Try.underlying48 rfl) rfl rfl rfl ?_
    refine ov (xlss rfl rfl _ rfl) rfl rfl rfl ?_
    refine ods (fun c23 => ?_) (fun c23 => ?_)
    ·
      refine ov (xmove rfl) rfl rfl rfl ?_
      refine ov (xmove rfl) rfl rfl rfl ?_
      refine ov (xmove rfl) rfl rfl rfl ?_
      have h27 := (G.sl).at (i := k) (by omega)
      refine ov (xindexN (i := k) Try.underlying48 Try.sizeOf9 rfl rfl rfl ((G.sl).p (i := k) (by omega)) (by have := (G.sl).len; omega)) rfl rfl rfl ?_
      refine ov (v := .string xs[k]) (xloadz Try.isAgg9 rfl (h27) rfl) rfl rfl rfl ?_
      refine ov (xmove rfl) rfl rfl rfl ?_
      refine ov (xseql rfl rfl _ rfl) rfl rfl rfl ?_
      refine ods (fun c30 => ?_) (fun c30 => ?_)
      ·
        refine ov (xpick_t rfl rfl) rfl rfl rfl ?_
        refine ops_nil ?_
        refine run_cond_t rfl ?_
        refine run_seq ?_
        refine run_region ?_
        refine ov (xmove rfl) rfl rfl rfl ?_
        refine ov (xassign rfl) rfl rfl rfl ?_
        refine ops_nil ?_
        refine run_ret Try.func71 (res1 rfl rfl) ?_
        have he : insT xs x = xs := by rw [hins (fun h => by first | assumption | omega), if_pos ⟨by omega, c30⟩]
        exact ⟨_, rfl, E, _, _, _, rfl, by rw [he]; exact G.wide (by omega) (by omega)⟩
      ·
        refine ov (xpick_t rfl rfl) rfl rfl rfl ?_
        refine ops_nil ?_
        refine run_cond_f rfl ?_
        refine run_skip ?_
        refine run_seq ?_
        have RE := E
        refine run_held (ι := Option Addr × Nat) (fun x_ w' => match x_ with | (q, d) => Ext wr w' ∧ Ow strc 1 9 w' wr.heap.size w'.heap.size q (k + 1 + (n - k)) d (xs.take k ++ [x] ++ xs.drop k)) (fun x_ => match x_ with | (q, d) => [(4, .slice q (k + 1 + (n - k)) d)]) (by kernel_rfl) ?_ ?_
        · intro w0_ F
          have z0_ := F.size
          have E := E.trans F
          replace G := G.ext F
          refine h_take 1 rfl (by kernel_rfl) (by kernel_rfl) (by kernel_rfl) (fun w' x_ => xmove rfl) rfl rfl rfl F ?_
          refine h_take 2 rfl (by kernel_rfl) (by kernel_rfl) (by kernel_rfl) (fun w' x_ => xmove rfl) rfl rfl rfl F ?_
          refine h_take 3 rfl (by kernel_rfl) (by kernel_rfl) (by kernel_rfl) (fun w' x_ => xslice_h (k := k) Try.underlying48 Try.sizeOf9 rfl rfl rfl (by have := (G.sl).cap; omega)) rfl rfl rfl F ?_
          refine h_take 5 rfl (by kernel_rfl) (by kernel_rfl) (by kernel_rfl) (fun w' x_ => xmove rfl) rfl rfl rfl F ?_
          refine h_take 8 rfl (by kernel_rfl) (by kernel_rfl) (by kernel_rfl) (fun w' x_ => xmove rfl) rfl rfl rfl F ?_
          refine h_take 9 rfl (by kernel_rfl) (by kernel_rfl) (by kernel_rfl) (fun w' x_ => xmove rfl) rfl rfl rfl F ?_
          refine h_take 10 rfl (by kernel_rfl) (by kernel_rfl) (by kernel_rfl) (fun w' x_ => xslice_l (k := k) Try.underlying48 Try.sizeOf9 rfl rfl rfl (by omega)) rfl rfl rfl F ?_
          refine h_ready (rs := [0, 6]) (by kernel_rfl) (by decide) ⟨?_, ?_, trivial⟩
          ·
            refine hs_build (len := 0) (vs := []) (cs := []) (sz := 1) Try.underlying48 inf9 rfl rfl (by decide) (by rfl) (by rfl) (by simp [Value.cells]) rfl F rfl rfl rfl ?_
            intro b1 w1 e1 hb1 hz1 O1
            have E := E.trans e1
            replace G := G.ext e1
            have G1 : Ow strc 1 9 w1 b1 (b1 + 1) (some ⟨b1, 0, none⟩) 0 0 ([] : List ByteArray) := Own.ow (by simpa [strc] using O1) rfl (by omega) (Nat.le_refl _) (by omega) (by intro x hx; rfl)
            have F := F.trans e1
            refine h_ready (rs := [4, 6]) (by kernel_rfl) (by decide) ⟨?_, ?_, trivial⟩
            ·
              refine hs_app (bytes := 16) (nm := k) G1 (by rfl) (by rfl) elem9 ((G.sl).take (k := k) (by omega)) ((G.sl).take (k := k) (by omega)).nil (by intro y hy; rfl) (by intro y hy u hu; simp only [strc, List.mem_singleton] at hu; subst hu; rfl) (by omega) (by omega) (by omega) (by omega) F (by omega) rfl rfl rfl ?_
              intro p2 c2_ w2 m2 G2
              have hz2 := m2.size
              have E := m2.toExt E (by omega)
              have F := m2.toExt F (by omega)
              replace G := G.off m2 (by omega)
              refine h_ready (rs := [6]) (by kernel_rfl) (by decide) ⟨?_, trivial⟩
              ·
                refine hs_build (len := 1) (vs := [.string x]) (cs := [.string x]) (sz := 1) Try.underlying48 inf9 rfl rfl (by decide) (by rfl) (by rfl) (by simp [Value.cells]) rfl F rfl rfl rfl ?_
                intro b3 w3 e3 hb3 hz3 O3
                have E := E.trans e3
                replace G := G.ext e3
                replace G2 := G2.ext e3
                have F := F.trans e3
                refine h_ready (rs := [7]) (by kernel_rfl) (by decide) ⟨?_, trivial⟩
                ·
                  refine hs_app (bytes := 16) (nm := (k + 1)) G2 (by rfl) (by rfl) elem9 (Own.sl1 (y := x) O3) (by intro h; cases h) (by intro y hy; rfl) (by intro y hy u hu; rw [List.mem_singleton] at hy; subst hy; revert u; simp [Value.oneCell', strc]) (by omega) (by omega) (by omega) (by omega) F (by omega) rfl rfl rfl ?_
                  intro p4 c4_ w4 m4 G4
                  have hz4 := m4.size
                  have E := m4.toExt E (by omega)
                  have F := m4.toExt F (by omega)
                  replace G := G.off m4 (by omega)
                  try replace O3 := m4.own O3 (by omega)
                  refine h_ready (rs := [11]) (by kernel_rfl) (by decide) ⟨?_, trivial⟩
                  ·
                    refine hs_app (bytes := 16) (nm := ((k + 1) + (n - k))) G4 (by rfl) (by rfl) elem9 ((G.sl).drop (k := k) (by omega)) ((G.sl).drop (k := k) (by omega)).nil (by intro y hy; rfl) (by intro y hy u hu; simp only [strc, List.mem_singleton] at hu; subst hu; rfl) (by omega) (by omega) (by omega) (by omega) F (by omega) rfl rfl rfl ?_
                    intro p5 c5_ w5 m5 G5
                    have hz5 := m5.size
                    have E := m5.toExt E (by omega)
                    have F := m5.toExt F (by omega)
                    replace G := G.off m5 (by omega)
                    try replace O3 := m5.own O3 (by omega)
                    refine h_take 12 rfl (by kernel_rfl) (by kernel_rfl) (by kernel_rfl) (fun w' x_ => xassign rfl) rfl rfl rfl F ?_
                    refine h_done (by kernel_rfl) ?_
                    intro a_ ha_
                    exact ⟨(p5, c5_), ⟨F, (by simpa using G5.wide (by omega) (by omega))⟩, ha_.sub ⟨rfl, trivial⟩⟩
            ·
              refine hs_build (len := 1) (vs := [.string x]) (cs := [.string x]) (sz := 1) Try.underlying48 inf9 rfl rfl (by decide) (by rfl) (by rfl) (by simp [Value.cells]) rfl F rfl rfl rfl ?_
              intro b2 w2 e2 hb2 hz2 O2
              have E := E.trans e2
              replace G := G.ext e2
              replace G1 := G1.ext e2
              have F := F.trans e2
              refine h_ready (rs := [4]) (by kernel_rfl) (by decide) ⟨?_, trivial⟩
              ·
                refine hs_app (bytes := 16) (nm := k) G1 (by rfl) (by rfl) elem9 ((G.sl).take (k := k) (by omega)) ((G.sl).take (k := k) (by omega)).nil (by intro y hy; rfl) (by intro y hy u hu; simp only [strc, List.mem_singleton] at hu; subst hu; rfl) (by omega) (by omega) (by omega) (by omega) F (by omega) rfl rfl rfl ?_
                intro p3 c3_ w3 m3 G3
                have hz3 := m3.size
                have E := m3.toExt E (by omega)
                have F := m3.toExt F (by omega)
                replace G := G.off m3 (by omega)
                try replace O2 := m3.own O2 (by omega)
                refine h_ready (rs := [7]) (by kernel_rfl) (by decide) ⟨?_, trivial⟩
                ·
                  refine hs_app (bytes := 16) (nm := (k + 1)) G3 (by rfl) (by rfl) elem9 (Own.sl1 (y := x) O2) (by intro h; cases h) (by intro y hy; rfl) (by intro y hy u hu; rw [List.mem_singleton] at hy; subst hy; revert u; simp [Value.oneCell', strc]) (by omega) (by omega) (by omega) (by omega) F (by omega) rfl rfl rfl ?_
                  intro p4 c4_ w4 m4 G4
                  have hz4 := m4.size
                  have E := m4.toExt E (by omega)
                  have F := m4.toExt F (by omega)
                  replace G := G.off m4 (by omega)
                  try replace O2 := m4.own O2 (by omega)
                  refine h_ready (rs := [11]) (by kernel_rfl) (by decide) ⟨?_, trivial⟩
                  ·
                    refine hs_app (bytes := 16) (nm := ((k + 1) + (n - k))) G4 (by rfl) (by rfl) elem9 ((G.sl).drop (k := k) (by omega)) ((G.sl).drop (k := k) (by omega)).nil (by intro y hy; rfl) (by intro y hy u hu; simp only [strc, List.mem_singleton] at hu; subst hu; rfl) (by omega) (by omega) (by omega) (by omega) F (by omega) rfl rfl rfl ?_
                    intro p5 c5_ w5 m5 G5
                    have hz5 := m5.size
                    have E := m5.toExt E (by omega)
                    have F := m5.toExt F (by omega)
                    replace G := G.off m5 (by omega)
                    try replace O2 := m5.own O2 (by omega)
                    refine h_take 12 rfl (by kernel_rfl) (by kernel_rfl) (by kernel_rfl) (fun w' x_ => xassign rfl) rfl rfl rfl F ?_
                    refine h_done (by kernel_rfl) ?_
                    intro a_ ha_
                    exact ⟨(p5, c5_), ⟨F, (by simpa using G5.wide (by omega) (by omega))⟩, ha_.sub ⟨rfl, trivial⟩⟩
          ·
            refine hs_build (len := 1) (vs := [.string x]) (cs := [.string x]) (sz := 1) Try.underlying48 inf9 rfl rfl (by decide) (by rfl) (by rfl) (by simp [Value.cells]) rfl F rfl rfl rfl ?_
            intro b1 w1 e1 hb1 hz1 O1
            have E := E.trans e1
            replace G := G.ext e1
            have F := F.trans e1
            refine h_ready (rs := [0]) (by kernel_rfl) (by decide) ⟨?_, trivial⟩
            ·
              refine hs_build (len := 0) (vs := []) (cs := []) (sz := 1) Try.underlying48 inf9 rfl rfl (by decide) (by rfl) (by rfl) (by simp [Value.cells]) rfl F rfl rfl rfl ?_
              intro b2 w2 e2 hb2 hz2 O2
              have E := E.trans e2
              replace G := G.ext e2
              replace O1 := O1.ext e2
              have G2 : Ow strc 1 9 w2 b2 (b2 + 1) (some ⟨b2, 0, none⟩) 0 0 ([] : List ByteArray) := Own.ow (by simpa [strc] using O2) rfl (by omega) (Nat.le_refl _) (by omega) (by intro x hx; rfl)
              have F := F.trans e2
              refine h_ready (rs := [4]) (by kernel_rfl) (by decide) ⟨?_, trivial⟩
              ·
                refine hs_app (bytes := 16) (nm := k) G2 (by rfl) (by rfl) elem9 ((G.sl).take (k := k) (by omega)) ((G.sl).take (k := k) (by omega)).nil (by intro y hy; rfl) (by intro y hy u hu; simp only [strc, List.mem_singleton] at hu; subst hu; rfl) (by omega) (by omega) (by omega) (by omega) F (by omega) rfl rfl rfl ?_
                intro p3 c3_ w3 m3 G3
                have hz3 := m3.size
                have E := m3.toExt E (by omega)
                have F := m3.toExt F (by omega)
                replace G := G.off m3 (by omega)
                try replace O1 := m3.own O1 (by omega)
                refine h_ready (rs := [7]) (by kernel_rfl) (by decide) ⟨?_, trivial⟩
                ·
                  refine hs_app (bytes := 16) (nm := (k + 1)) G3 (by rfl) (by rfl) elem9 (Own.sl1 (y := x) O1) (by intro h; cases h) (by intro y hy; rfl) (by intro y hy u hu; rw [List.mem_singleton] at hy; subst hy; revert u; simp [Value.oneCell', strc]) (by omega) (by omega) (by omega) (by omega) F (by omega) rfl rfl rfl ?_
                  intro p4 c4_ w4 m4 G4
                  have hz4 := m4.size
                  have E := m4.toExt E (by omega)
                  have F := m4.toExt F (by omega)
                  replace G := G.off m4 (by omega)
                  try replace O1 := m4.own O1 (by omega)
                  refine h_ready (rs := [11]) (by kernel_rfl) (by decide) ⟨?_, trivial⟩
                  ·
                    refine hs_app (bytes := 16) (nm := ((k + 1) + (n - k))) G4 (by rfl) (by rfl) elem9 ((G.sl).drop (k := k) (by omega)) ((G.sl).drop (k := k) (by omega)).nil (by intro y hy; rfl) (by intro y hy u hu; simp only [strc, List.mem_singleton] at hu; subst hu; rfl) (by omega) (by omega) (by omega) (by omega) F (by omega) rfl rfl rfl ?_
                    intro p5 c5_ w5 m5 G5
                    have hz5 := m5.size
                    have E := m5.toExt E (by omega)
                    have F := m5.toExt F (by omega)
                    replace G := G.off m5 (by omega)
                    try replace O1 := m5.own O1 (by omega)
                    refine h_take 12 rfl (by kernel_rfl) (by kernel_rfl) (by kernel_rfl) (fun w' x_ => xassign rfl) rfl rfl rfl F ?_
                    refine h_done (by kernel_rfl) ?_
                    intro a_ ha_
                    exact ⟨(p5, c5_), ⟨F, (by simpa using G5.wide (by omega) (by omega))⟩, ha_.sub ⟨rfl, trivial⟩⟩
        · intro x_
          obtain ⟨q, d⟩ := x_
          rintro w1 ⟨e1, G6_⟩
          have z1 := e1.size
          have E := E.trans e1
          replace G := G.ext e1
          refine run_ret Try.func71 (res1 rfl rfl) ?_
          have hno : ¬ ∃ h : k < xs.length, xs[k] = x := by
            rintro ⟨h, e⟩; exact c30 e
          have he : insT xs x = xs.take k ++ [x] ++ xs.drop k := by rw [hins (fun h => by first | assumption | omega), if_neg hno]; simp
          exact ⟨_, rfl, E, _, _, _, rfl, by rw [he]; exact G6_.wide (by omega) (by omega)⟩
    ·
      refine ov (xmove rfl) rfl rfl rfl ?_
      refine og rfl rfl rfl ?_
      refine og rfl rfl rfl ?_
      refine og rfl rfl rfl ?_
      refine og rfl rfl rfl ?_
      refine og rfl rfl rfl ?_
      refine og rfl rfl rfl ?_
      refine ov (xpick_f rfl rfl) rfl rfl rfl ?_
      refine ops_nil ?_
      refine run_cond_f rfl ?_
      refine run_skip ?_
      refine run_seq ?_
      have RE := E
      refine run_held (ι := Option Addr × Nat) (fun x_ w' => match x_ with | (q, d) => Ext wr w' ∧ Ow strc 1 9 w' wr.heap.size w'.heap.size q (k + 1 + (n - k)) d (xs.take k ++ [x] ++ xs.drop k)) (fun x_ => match x_ with | (q, d) => [(4, .slice q (k + 1 + (n - k)) d)]) (by kernel_rfl) ?_ ?_
      · intro w0_ F
        have z0_ := F.size
        have E := E.trans F
        replace G := G.ext F
        refine h_take 1 rfl (by kernel_rfl) (by kernel_rfl) (by kernel_rfl) (fun w' x_ => xmove rfl) rfl rfl rfl F ?_
        refine h_take 2 rfl (by kernel_rfl) (by kernel_rfl) (by kernel_rfl) (fun w' x_ => xmove rfl) rfl rfl rfl F ?_
        refine h_take 3 rfl (by kernel_rfl) (by kernel_rfl) (by kernel_rfl) (fun w' x_ => xslice_h (k := k) Try.underlying48 Try.sizeOf9 rfl rfl rfl (by have := (G.sl).cap; omega)) rfl rfl rfl F ?_
        refine h_take 5 rfl (by kernel_rfl) (by kernel_rfl) (by kernel_rfl) (fun w' x_ => xmove rfl) rfl rfl rfl F ?_
        refine h_take 8 rfl (by kernel_rfl) (by kernel_rfl) (by kernel_rfl) (fun w' x_ => xmove rfl) rfl rfl rfl F ?_
        refine h_take 9 rfl (by kernel_rfl) (by kernel_rfl) (by kernel_rfl) (fun w' x_ => xmove rfl) rfl rfl rfl F ?_
        refine h_take 10 rfl (by kernel_rfl) (by kernel_rfl) (by kernel_rfl) (fun w' x_ => xslice_l (k := k) Try.underlying48 Try.sizeOf9 rfl rfl rfl (by omega)) rfl rfl rfl F ?_
        refine h_ready (rs := [0, 6]) (by kernel_rfl) (by decide) ⟨?_, ?_, trivial⟩
        ·
          refine hs_build (len := 0) (vs := []) (cs := []) (sz := 1) Try.underlying48 inf9 rfl rfl (by decide) (by rfl) (by rfl) (by simp [Value.cells]) rfl F rfl rfl rfl ?_
          intro b1 w1 e1 hb1 hz1 O1
          have E := E.trans e1
          replace G := G.ext e1
          have G1 : Ow strc 1 9 w1 b1 (b1 + 1) (some ⟨b1, 0, none⟩) 0 0 ([] : List ByteArray) := Own.ow (by simpa [strc] using O1) rfl (by omega) (Nat.le_refl _) (by omega) (by intro x hx; rfl)
          have F := F.trans e1
          refine h_ready (rs := [4, 6]) (by kernel_rfl) (by decide) ⟨?_, ?_, trivial⟩
          ·
            refine hs_app (bytes := 16) (nm := k) G1 (by rfl) (by rfl) elem9 ((G.sl).take (k := k) (by omega)) ((G.sl).take (k := k) (by omega)).nil (by intro y hy; rfl) (by intro y hy u hu; simp only [strc, List.mem_singleton] at hu; subst hu; rfl) (by omega) (by omega) (by omega) (by omega) F (by omega) rfl rfl rfl ?_
            intro p2 c2_ w2 m2 G2
            have hz2 := m2.size
            have E := m2.toExt E (by omega)
            have F := m2.toExt F (by omega)
            replace G := G.off m2 (by omega)
            refine h_ready (rs := [6]) (by kernel_rfl) (by decide) ⟨?_, trivial⟩
            ·
              refine hs_build (len := 1) (vs := [.string x]) (cs := [.string x]) (sz := 1) Try.underlying48 inf9 rfl rfl (by decide) (by rfl) (by rfl) (by simp [Value.cells]) rfl F rfl rfl rfl ?_
              intro b3 w3 e3 hb3 hz3 O3
              have E := E.trans e3
              replace G := G.ext e3
              replace G2 := G2.ext e3
              have F := F.trans e3
              refine h_ready (rs := [7]) (by kernel_rfl) (by decide) ⟨?_, trivial⟩
              ·
                refine hs_app (bytes := 16) (nm := (k + 1)) G2 (by rfl) (by rfl) elem9 (Own.sl1 (y := x) O3) (by intro h; cases h) (by intro y hy; rfl) (by intro y hy u hu; rw [List.mem_singleton] at hy; subst hy; revert u; simp [Value.oneCell', strc]) (by omega) (by omega) (by omega) (by omega) F (by omega) rfl rfl rfl ?_
                intro p4 c4_ w4 m4 G4
                have hz4 := m4.size
                have E := m4.toExt E (by omega)
                have F := m4.toExt F (by omega)
                replace G := G.off m4 (by omega)
                try replace O3 := m4.own O3 (by omega)
                refine h_ready (rs := [11]) (by kernel_rfl) (by decide) ⟨?_, trivial⟩
                ·
                  refine hs_app (bytes := 16) (nm := ((k + 1) + (n - k))) G4 (by rfl) (by rfl) elem9 ((G.sl).drop (k := k) (by omega)) ((G.sl).drop (k := k) (by omega)).nil (by intro y hy; rfl) (by intro y hy u hu; simp only [strc, List.mem_singleton] at hu; subst hu; rfl) (by omega) (by omega) (by omega) (by omega) F (by omega) rfl rfl rfl ?_
                  intro p5 c5_ w5 m5 G5
                  have hz5 := m5.size
                  have E := m5.toExt E (by omega)
                  have F := m5.toExt F (by omega)
                  replace G := G.off m5 (by omega)
                  try replace O3 := m5.own O3 (by omega)
                  refine h_take 12 rfl (by kernel_rfl) (by kernel_rfl) (by kernel_rfl) (fun w' x_ => xassign rfl) rfl rfl rfl F ?_
                  refine h_done (by kernel_rfl) ?_
                  intro a_ ha_
                  exact ⟨(p5, c5_), ⟨F, (by simpa using G5.wide (by omega) (by omega))⟩, ha_.sub ⟨rfl, trivial⟩⟩
          ·
            refine hs_build (len := 1) (vs := [.string x]) (cs := [.string x]) (sz := 1) Try.underlying48 inf9 rfl rfl (by decide) (by rfl) (by rfl) (by simp [Value.cells]) rfl F rfl rfl rfl ?_
            intro b2 w2 e2 hb2 hz2 O2
            have E := E.trans e2
            replace G := G.ext e2
            replace G1 := G1.ext e2
            have F := F.trans e2
            refine h_ready (rs := [4]) (by kernel_rfl) (by decide) ⟨?_, trivial⟩
            ·
              refine hs_app (bytes := 16) (nm := k) G1 (by rfl) (by rfl) elem9 ((G.sl).take (k := k) (by omega)) ((G.sl).take (k := k) (by omega)).nil (by intro y hy; rfl) (by intro y hy u hu; simp only [strc, List.mem_singleton] at hu; subst hu; rfl) (by omega) (by omega) (by omega) (by omega) F (by omega) rfl rfl rfl ?_
              intro p3 c3_ w3 m3 G3
              have hz3 := m3.size
              have E := m3.toExt E (by omega)
              have F := m3.toExt F (by omega)
              replace G := G.off m3 (by omega)
              try replace O2 := m3.own O2 (by omega)
              refine h_ready (rs := [7]) (by kernel_rfl) (by decide) ⟨?_, trivial⟩
              ·
                refine hs_app (bytes := 16) (nm := (k + 1)) G3 (by rfl) (by rfl) elem9 (Own.sl1 (y := x) O2) (by intro h; cases h) (by intro y hy; rfl) (by intro y hy u hu; rw [List.mem_singleton] at hy; subst hy; revert u; simp [Value.oneCell', strc]) (by omega) (by omega) (by omega) (by omega) F (by omega) rfl rfl rfl ?_
                intro p4 c4_ w4 m4 G4
                have hz4 := m4.size
                have E := m4.toExt E (by omega)
                have F := m4.toExt F (by omega)
                replace G := G.off m4 (by omega)
                try replace O2 := m4.own O2 (by omega)
                refine h_ready (rs := [11]) (by kernel_rfl) (by decide) ⟨?_, trivial⟩
                ·
                  refine hs_app (bytes := 16) (nm := ((k + 1) + (n - k))) G4 (by rfl) (by rfl) elem9 ((G.sl).drop (k := k) (by omega)) ((G.sl).drop (k := k) (by omega)).nil (by intro y hy; rfl) (by intro y hy u hu; simp only [strc, List.mem_singleton] at hu; subst hu; rfl) (by omega) (by omega) (by omega) (by omega) F (by omega) rfl rfl rfl ?_
                  intro p5 c5_ w5 m5 G5
                  have hz5 := m5.size
                  have E := m5.toExt E (by omega)
                  have F := m5.toExt F (by omega)
                  replace G := G.off m5 (by omega)
                  try replace O2 := m5.own O2 (by omega)
                  refine h_take 12 rfl (by kernel_rfl) (by kernel_rfl) (by kernel_rfl) (fun w' x_ => xassign rfl) rfl rfl rfl F ?_
                  refine h_done (by kernel_rfl) ?_
                  intro a_ ha_
                  exact ⟨(p5, c5_), ⟨F, (by simpa using G5.wide (by omega) (by omega))⟩, ha_.sub ⟨rfl, trivial⟩⟩
        ·
          refine hs_build (len := 1) (vs := [.string x]) (cs := [.string x]) (sz := 1) Try.underlying48 inf9 rfl rfl (by decide) (by rfl) (by rfl) (by simp [Value.cells]) rfl F rfl rfl rfl ?_
          intro b1 w1 e1 hb1 hz1 O1
          have E := E.trans e1
          replace G := G.ext e1
          have F := F.trans e1
          refine h_ready (rs := [0]) (by kernel_rfl) (by decide) ⟨?_, trivial⟩
          ·
            refine hs_build (len := 0) (vs := []) (cs := []) (sz := 1) Try.underlying48 inf9 rfl rfl (by decide) (by rfl) (by rfl) (by simp [Value.cells]) rfl F rfl rfl rfl ?_
            intro b2 w2 e2 hb2 hz2 O2
            have E := E.trans e2
            replace G := G.ext e2
            replace O1 := O1.ext e2
            have G2 : Ow strc 1 9 w2 b2 (b2 + 1) (some ⟨b2, 0, none⟩) 0 0 ([] : List ByteArray) := Own.ow (by simpa [strc] using O2) rfl (by omega) (Nat.le_refl _) (by omega) (by intro x hx; rfl)
            have F := F.trans e2
            refine h_ready (rs := [4]) (by kernel_rfl) (by decide) ⟨?_, trivial⟩
            ·
              refine hs_app (bytes := 16) (nm := k) G2 (by rfl) (by rfl) elem9 ((G.sl).take (k := k) (by omega)) ((G.sl).take (k := k) (by omega)).nil (by intro y hy; rfl) (by intro y hy u hu; simp only [strc, List.mem_singleton] at hu; subst hu; rfl) (by omega) (by omega) (by omega) (by omega) F (by omega) rfl rfl rfl ?_
              intro p3 c3_ w3 m3 G3
              have hz3 := m3.size
              have E := m3.toExt E (by omega)
              have F := m3.toExt F (by omega)
              replace G := G.off m3 (by omega)
              try replace O1 := m3.own O1 (by omega)
              refine h_ready (rs := [7]) (by kernel_rfl) (by decide) ⟨?_, trivial⟩
              ·
                refine hs_app (bytes := 16) (nm := (k + 1)) G3 (by rfl) (by rfl) elem9 (Own.sl1 (y := x) O1) (by intro h; cases h) (by intro y hy; rfl) (by intro y hy u hu; rw [List.mem_singleton] at hy; subst hy; revert u; simp [Value.oneCell', strc]) (by omega) (by omega) (by omega) (by omega) F (by omega) rfl rfl rfl ?_
                intro p4 c4_ w4 m4 G4
                have hz4 := m4.size
                have E := m4.toExt E (by omega)
                have F := m4.toExt F (by omega)
                replace G := G.off m4 (by omega)
                try replace O1 := m4.own O1 (by omega)
                refine h_ready (rs := [11]) (by kernel_rfl) (by decide) ⟨?_, trivial⟩
                ·
                  refine hs_app (bytes := 16) (nm := ((k + 1) + (n - k))) G4 (by rfl) (by rfl) elem9 ((G.sl).drop (k := k) (by omega)) ((G.sl).drop (k := k) (by omega)).nil (by intro y hy; rfl) (by intro y hy u hu; simp only [strc, List.mem_singleton] at hu; subst hu; rfl) (by omega) (by omega) (by omega) (by omega) F (by omega) rfl rfl rfl ?_
                  intro p5 c5_ w5 m5 G5
                  have hz5 := m5.size
                  have E := m5.toExt E (by omega)
                  have F := m5.toExt F (by omega)
                  replace G := G.off m5 (by omega)
                  try replace O1 := m5.own O1 (by omega)
                  refine h_take 12 rfl (by kernel_rfl) (by kernel_rfl) (by kernel_rfl) (fun w' x_ => xassign rfl) rfl rfl rfl F ?_
                  refine h_done (by kernel_rfl) ?_
                  intro a_ ha_
                  exact ⟨(p5, c5_), ⟨F, (by simpa using G5.wide (by omega) (by omega))⟩, ha_.sub ⟨rfl, trivial⟩⟩
      · intro x_
        obtain ⟨q, d⟩ := x_
        rintro w1 ⟨e1, G6_⟩
        have z1 := e1.size
        have E := E.trans e1
        replace G := G.ext e1
        refine run_ret Try.func71 (res1 rfl rfl) ?_
        have hno : ¬ ∃ h : k < xs.length, xs[k] = x := by
          rintro ⟨h, e⟩; omega
        have he : insT xs x = xs.take k ++ [x] ++ xs.drop k := by rw [hins (fun h => by first | assumption | omega), if_neg hno]; simp
        exact ⟨_, rfl, E, _, _, _, rfl, by rw [he]; exact G6_.wide (by omega) (by omega)⟩

theorem insAllT_step {st l : List ByteArray} {k : Nat} (hk : k < l.length) : insAllT st (l.take (k + 1)) = insT (insAllT st (l.take k)) l[k] := by
  rw [List.take_succ_eq_append_getElem hk, insAllT, List.foldl_append]; rfl

set_option maxHeartbeats 1000000 in
theorem l28Join_ok (p : Option Addr) (n c : Nat) (xs : List ByteArray) (q : Option Addr) (m d : Nat) (ys : List ByteArray) (lo hi : Nat) (w : World) (G : Ow strc 1 9 w lo hi p n c xs) (H : Sl strc 1 w q m d ys) (hh : hi ≤ w.heap.size) (hn2 : n + m ≤ 9000000) (hlo : lo ≤ w.heap.size) : Ret Try.prog 70 [.slice p n c, .slice q m d] w (fun v w' => Ext w w' ∧ ∃ q1 m1 d1, v = .slice q1 m1 d1 ∧ Ow strc 1 9 w' lo w'.heap.size q1 m1 d1 (insAllT xs ys)) := by
  refine ret_of_run (N := 19) Try.func70 rfl rfl rfl ?_
  have hn := G.len
  have hm := H.len
  have G0 := G.wide (Nat.le_refl lo) hh
  have E : Ext w w := Ext.refl w
  refine run_seq ?_
  refine run_region ?_
  refine ov (xassign rfl) rfl rfl rfl ?_
  refine ops_nil ?_
  refine run_seq ?_
  refine run_seq ?_
  refine run_region ?_
  refine ov (xassign rfl) rfl rfl rfl ?_
  refine ops_nil ?_
  refine run_block ?_
  refine run_loop (ι := Nat × Option Addr × Nat × Nat × List ByteArray × World) (fun x_ => match x_ with | (k, q_0, m_0, c_0, ys_0, wr) => (Ext w wr) ∧ (Ow strc 1 9 wr lo wr.heap.size q_0 m_0 c_0 ys_0) ∧ (lo ≤ wr.heap.size) ∧ (w.heap.size ≤ wr.heap.size) ∧ (k ≤ m) ∧ (ys_0 = insAllT xs (ys.take k)) ∧ (m_0 ≤ n + k)) (fun x_ => match x_ with | (k, q_0, m_0, c_0, ys_0, wr) => [(0, .slice q_0 m_0 c_0), (1, .slice q m d), (5, .int .i64 (k : Int))]) (fun x_ => match x_ with | (k, q_0, m_0, c_0, ys_0, wr) => wr) (fun x_ => match x_ with | (k, q_0, m_0, c_0, ys_0, wr) => m - k) ?_ (0, p, n, c, xs, w) (⟨E, G0.wide (by omega) (by omega), by omega, Nat.le_refl _, by omega, rfl, by omega⟩) ⟨rfl, rfl, rfl, trivial⟩ rfl
  intro i_ hI_ hback2
  obtain ⟨k, q_0, m_0, c_0, ys_0, wr⟩ := i_
  obtain ⟨E, G_0, lo_0, lz_wr, hk, hy, hml⟩ := hI_
  try dsimp only
  have zr := E.size
  have lg_0 := G_0.len
  have hil := insT_len ys_0
  refine run_seq ?_
  refine run_seq ?_
  refine run_region ?_
  refine ov (xmove rfl) rfl rfl rfl ?_
  refine ov (xmove rfl) rfl rfl rfl ?_
  refine ov (xlen Try.underlying48 rfl) rfl rfl rfl ?_
  refine ov (xlss rfl rfl _ rfl) rfl rfl rfl ?_
  refine ods (fun c9 => ?_) (fun c9 => ?_)
  ·
    refine ops_nil ?_
    refine run_cond_t rfl ?_
    refine run_skip ?_
    refine run_seq ?_
    refine run_block ?_
    refine run_region ?_
    refine ov (xmove rfl) rfl rfl rfl ?_
    refine ov (xmove rfl) rfl rfl rfl ?_
    refine ov (xmove rfl) rfl rfl rfl ?_
    have h15 := (H.ext E).at (i := k) (by omega)
    refine ov (xindexN (i := k) Try.underlying48 Try.sizeOf9 rfl rfl rfl ((H.ext E).p (i := k) (by omega)) (by have := (H.ext E).len; omega)) rfl rfl rfl ?_
    refine ov (v := .string ys[k]) (xloadz Try.isAgg9 rfl (h15) rfl) rfl rfl rfl ?_
    refine oc (xcall Try.call71 rfl) rfl rfl rfl (l13Insert_ok _ _ _ _ (ys[k]) _ _ _ G_0 (by omega) (by omega) (by omega)) ?_
    rintro _ w1 ⟨e1, q17, m17, d17, rfl, G17⟩
    have z1 := e1.size
    have E := E.trans e1
    replace G_0 := G_0.ext e1
    have lG17 := G17.len
    refine ov (xassign rfl) rfl rfl rfl ?_
    refine ops_nil ?_
    refine run_inBlock ?_
    refine run_region ?_
    refine ov (xmove rfl) rfl rfl rfl ?_
    refine ov (xadd rfl rfl (by unfold I64; omega)) rfl rfl rfl ?_
    refine ov (xassign rfl) rfl rfl rfl ?_
    refine ops_nil ?_
    refine run_sub ?_ (hback2 (k + 1, q17, m17, d17, (insT ys_0 ys[k]), w1) (⟨E, G17.wide (by omega) (by omega), by omega, by omega, by omega, by rw [hy, insAllT_step], by have := hil ys[k]; omega⟩) (by first | omega | (dsimp only; omega)))
    exact ⟨rfl, rfl, rfl, trivial⟩
  ·
    refine ops_nil ?_
    refine run_cond_f rfl ?_
    refine run_exit rfl ?_
    refine run_seq ?_
    refine run_region ?_
    refine ov (xmove rfl) rfl rfl rfl ?_
    refine ov (xassign rfl) rfl rfl rfl ?_
    refine ops_nil ?_
    refine run_ret Try.func70 (res1 rfl rfl) ?_
    obtain rfl : k = m := by omega
    have he : ys_0 = insAllT xs ys := by rw [hy, List.take_of_length_le (by omega)]
    exact ⟨_, rfl, E, _, _, _, rfl, by rw [← he]; exact G_0.wide (by omega) (by omega)⟩
end Go.Proofs.Ytgbedilaiefcbaa
