/-
  Sorting a slice of numbers, each number once, by the contracts of the library. No condition beyond those written in each theorem.
-/
import Derived.Test.YtinpkihmkfiidaaVerd
import Derived.Test.YtinpkihmkfiidaaRg2
import Derived.Shelf.SlGeneric
import Derived.Ground.SlgnProg
import Derived.Ground.SlgmProg
import Derived.Shelf.SlicesG.CompactI
import Derived.Shelf.SortM.Plain
namespace Go.Proofs.Ytinpkihmkfiidaa
open Go.RowKit Go.Shelf
set_option linter.unusedVariables false
set_option linter.unusedSimpArgs false
set_option linter.unusedSectionVars false
set_option maxRecDepth 4000

end Go.Proofs.Ytinpkihmkfiidaa
namespace Go.Proofs
open Go.Shelf
def Try.laysS_ren : Go.Shelf.Ren := ⟨fun | 5 => 145 | 8 => 148 | 7 => 147 | 19 => 158 | 20 => 159 | 10 => 149 | 11 => 150 | 12 => 151 | 13 => 152 | 14 => 153 | 15 => 154 | 16 => 155 | 17 => 156 | 18 => 157 | 30 => 160 | 31 => 161 | 32 => 162 | 33 => 163 | 34 => 164 | 35 => 165 | 40 => 166 | n => n, fun | 23 => 31 | 25 => 2 | 3 => 3 | 32 => 123 | 22 => 31 | 0 => 0 | 44 => 134 | 46 => 136 | 4 => 4 | 36 => 126 | 35 => 125 | 41 => 131 | 5 => 5 | 9 => 9 | 53 => 137 | 57 => 141 | 63 => 143 | 64 => 144 | n => n, fun | n => n⟩
theorem Try.laysS : Go.Proofs.SlLaysM.n5 Try.prog Try.laysS_ren := {
  mixed := by kernel_rfl
  f5 := ⟨Try.f145.name, by decide, Try.func145.trans (congrArg some (by kernel_rfl))⟩
  f7 := ⟨Try.f147.name, by decide, Try.func147.trans (congrArg some (by kernel_rfl))⟩
  f8 := Try.func148.trans (congrArg some (by kernel_rfl))
  f10 := ⟨Try.f149.name, by decide, Try.func149.trans (congrArg some (by kernel_rfl))⟩
  f11 := ⟨Try.f150.name, by decide, Try.func150.trans (congrArg some (by kernel_rfl))⟩
  f12 := ⟨Try.f151.name, by decide, Try.func151.trans (congrArg some (by kernel_rfl))⟩
  f13 := ⟨Try.f152.name, by decide, Try.func152.trans (congrArg some (by kernel_rfl))⟩
  f14 := ⟨Try.f153.name, by decide, Try.func153.trans (congrArg some (by kernel_rfl))⟩
  f15 := ⟨Try.f154.name, by decide, Try.func154.trans (congrArg some (by kernel_rfl))⟩
  f16 := ⟨Try.f155.name, by decide, Try.func155.trans (congrArg some (by kernel_rfl))⟩
  f17 := ⟨Try.f156.name, by decide, Try.func156.trans (congrArg some (by kernel_rfl))⟩
  f18 := ⟨Try.f157.name, by decide, Try.func157.trans (congrArg some (by kernel_rfl))⟩
  f19 := Try.func158.trans (congrArg some (by kernel_rfl))
  f20 := Try.func159.trans (congrArg some (by kernel_rfl))
  f30 := ⟨Try.f160.name, by decide, Try.func160.trans (congrArg some (by kernel_rfl))⟩
  f31 := Try.func161.trans (congrArg some (by kernel_rfl))
  f32 := Try.func162.trans (congrArg some (by kernel_rfl))
  f33 := ⟨Try.f163.name, by decide, Try.func163.trans (congrArg some (by kernel_rfl))⟩
  f34 := ⟨Try.f164.name, by decide, Try.func164.trans (congrArg some (by kernel_rfl))⟩
  f35 := ⟨Try.f165.name, by decide, Try.func165.trans (congrArg some (by kernel_rfl))⟩
  f40 := ⟨Try.f166.name, by decide, Try.func166.trans (congrArg some (by kernel_rfl))⟩
  t0 := Try.underlying0
  a0 := Try.isAgg0
  z0 := Try.sizeOf0
  v0 := Try.zeroValue0
  t3 := Try.underlying3
  a3 := Try.isAgg3
  z3 := Try.sizeOf3
  v3 := Try.zeroValue3
  t4 := Try.underlying4
  a4 := Try.isAgg4
  z4 := Try.sizeOf4
  v4 := Try.zeroValue4
  t5 := Try.underlying5
  a5 := Try.isAgg5
  z5 := Try.sizeOf5
  v5 := Try.zeroValue5
  t9 := Try.underlying9
  a9 := Try.isAgg9
  z9 := Try.sizeOf9
  v9 := Try.zeroValue9
  t22 := Try.underlying31
  a22 := Try.isAgg31
  z22 := Try.sizeOf31
  v22 := Try.zeroValue31
  t23 := Try.underlying31
  a23 := Try.isAgg31
  z23 := Try.sizeOf31
  v23 := Try.zeroValue31
  t25 := Try.underlying2
  a25 := Try.isAgg2
  z25 := Try.sizeOf2
  v25 := Try.zeroValue2
  t32 := Try.underlying123
  a32 := Try.isAgg123
  z32 := Try.sizeOf123
  v32 := Try.zeroValue123
  t35 := Try.underlying125
  a35 := Try.isAgg125
  z35 := Try.sizeOf125
  v35 := Try.zeroValue125
  t36 := Try.underlying126
  a36 := Try.isAgg126
  z36 := Try.sizeOf126
  v36 := Try.zeroValue126
  t41 := Try.underlying131
  a41 := Try.isAgg131
  z41 := Try.sizeOf131
  v41 := Try.zeroValue131
  t44 := Try.underlying134
  a44 := Try.isAgg134
  z44 := Try.sizeOf134
  v44 := Try.zeroValue134
  t46 := Try.underlying136
  a46 := Try.isAgg136
  z46 := Try.sizeOf136
  v46 := Try.zeroValue136
  t53 := Try.underlying137
  a53 := Try.isAgg137
  z53 := Try.sizeOf137
  v53 := Try.zeroValue137
  t57 := Try.underlying141
  a57 := Try.isAgg141
  z57 := Try.sizeOf141
  v57 := Try.zeroValue141
  t63 := Try.underlying143
  a63 := Try.isAgg143
  z63 := Try.sizeOf143
  v63 := Try.zeroValue143
  t64 := Try.underlying144
  a64 := Try.isAgg144
  z64 := Try.sizeOf144
  v64 := Try.zeroValue144 }
def Try.laysC_ren : Go.Shelf.Ren := ⟨fun | 43 => 146 | n => n, fun | 22 => 31 | 23 => 2 | 3 => 3 | 4 => 4 | 0 => 0 | n => n, fun | n => n⟩
theorem Try.laysC : Go.Proofs.SlLaysN.n43 Try.prog Try.laysC_ren := {
  mixed := by kernel_rfl
  f43 := ⟨Try.f146.name, by decide, Try.func146.trans (congrArg some (by kernel_rfl))⟩
  t0 := Try.underlying0
  a0 := Try.isAgg0
  z0 := Try.sizeOf0
  v0 := Try.zeroValue0
  t3 := Try.underlying3
  a3 := Try.isAgg3
  z3 := Try.sizeOf3
  v3 := Try.zeroValue3
  t4 := Try.underlying4
  a4 := Try.isAgg4
  z4 := Try.sizeOf4
  v4 := Try.zeroValue4
  t22 := Try.underlying31
  a22 := Try.isAgg31
  z22 := Try.sizeOf31
  v22 := Try.zeroValue31
  t23 := Try.underlying2
  a23 := Try.isAgg2
  z23 := Try.sizeOf2
  v23 := Try.zeroValue2
  i23 := by kernel_rfl }
end Go.Proofs
namespace Go.Proofs.Ytinpkihmkfiidaa

theorem flat_i64 (xs : List Int) : (xs.map i64c).flatten = xs.map (Value.int .i64) := by
  induction xs with
  | nil => rfl
  | cons x r ih => simp [i64c, ih]
theorem putCells_list (ys : List Int) (cs s : List Value) (hc : cs.length = ys.length) : Sort.putCells (Value.int .i64) 0 ys.toArray (cs ++ s).toArray = (ys.map (Value.int .i64) ++ s).toArray := by
  apply Array.ext_getElem?
  intro k
  simp only [Sort.putCells, Array.getElem?_mapIdx, List.getElem?_toArray, List.size_toArray]
  rcases Nat.lt_or_ge k ys.length with h | h
  · have h1 : k < cs.length := by omega
    have h2 : k < (ys.map (Value.int .i64)).length := by simpa using h
    rw [List.getElem?_append_left h1, List.getElem?_append_left h2, List.getElem?_eq_getElem h1, List.getElem?_eq_getElem h2]
    simp [h]
  · rw [List.getElem?_append_right (by omega), List.getElem?_append_right (by simpa using h), List.length_map, hc]
    cases s[k - ys.length]? with
    | none => rfl
    | some v => simp; intro h2; omega
theorem put_own {w : World} {b : Nat} {T : TypeId} {xs ys : List Int} {s : List Value} (h : Own w b ((xs.map i64c).flatten ++ s) T) (hl : ys.length = xs.length) (n : Nat) (os : Array Obj) :
    Own (Sort.grow (Sort.putRow (Value.int .i64) (Sort.ahead w n) b 0 ys.toArray) os) b ((ys.map i64c).flatten ++ s) T ∧ Mk b (b + 1) w (Sort.grow (Sort.putRow (Value.int .i64) (Sort.ahead w n) b 0 ys.toArray) os) := by
  have hlt := h.lt
  refine ⟨?_, rfl, rfl, rfl, by simp, fun j hj hn => ?_⟩
  · unfold Own at h ⊢
    rw [Sort.heap_grow_old _ _ (by simpa using hlt)]
    simp only [Sort.putRow, Sort.mapBlock, Array.getElem?_modify, if_true, Sort.heap_ahead, h, Option.map_some, Sort.onCells]
    rw [flat_i64, flat_i64, putCells_list ys _ s (by simp [hl])]
  · rw [Sort.heap_grow_old _ _ (by simpa using hj)]
    simp only [Sort.putRow, Sort.mapBlock, Array.getElem?_modify, Sort.heap_ahead]
    rw [if_neg (by omega)]
theorem own_holds {w : World} {b : Nat} {T : TypeId} {xs : List Int} {s : List Value} (h : Own w b ((xs.map i64c).flatten ++ s) T) : Sort.Holds (Value.int .i64) w b 0 xs.toArray := fun j hj => by
  have hj' : j < xs.length := by simpa using hj
  refine ⟨?_, ?_⟩
  · refine h.cells j _ ?_
    rw [flat_i64, List.getElem?_append_left (by simpa using hj')]
    simp [hj']
  · unfold Own at h; simp [World.frozen?, h]
theorem merge_len (xs : List Int) : (xs.mergeSort fun x y => decide (x ≤ y)).length = xs.length := List.length_mergeSort _
theorem sort_ok (p : Option Addr) (n c : Nat) (xs : List Int) (lo hi : Nat) (w : World) (G : Ow i64c 1 2 w lo hi p n c xs) (h0 : 0 < n) (h1 : n ≤ 1000000000) :
    Ret Try.prog 145 [.slice p n c] w (fun v w' => v = .tuple #[] ∧ Mk lo hi w w' ∧ Ow i64c 1 2 w' lo hi p n c (xs.mergeSort fun x y => decide (x ≤ y))) := by
  have hl := G.len; have hc := G.cap
  rcases G.row with ⟨_, h2⟩ | ⟨b, s, rfl, h3, h4, h5, h6⟩
  · omega
  · have key := AnyM.slices_Sort_int Try.laysS b 0 c xs w (own_holds h5) h5.lt (by omega)
    rw [← hl] at key
    refine Calls.mono key fun e w' he => ?_
    obtain ⟨he, q, os, rfl⟩ := he
    obtain ⟨k1, k2⟩ := put_own h5 (ys := xs.mergeSort fun x y => decide (x ≤ y)) (merge_len xs) q os
    exact ⟨_, he, rfl, k2.wide h3 (by omega), ⟨by rw [merge_len]; exact hl, hc, G.big, .inr ⟨b, s, rfl, h3, h4, k1, h6⟩, fun _ _ => rfl⟩⟩
theorem compact_ok (p : Option Addr) (n c : Nat) (xs : List Int) (lo hi : Nat) (w : World) (G : Ow i64c 1 2 w lo hi p n c xs) (h0 : 0 < n) (h1 : n ≤ 1000000000) :
    Ret Try.prog 146 [.slice p n c] w (fun v w' => ∃ m, v = .slice p m c ∧ m ≤ n ∧ Mk lo hi w w' ∧ Ow i64c 1 2 w' lo hi p m c (Lib.compact xs)) := by
  have hl := G.len; have hc := G.cap
  rcases G.row with ⟨_, h2⟩ | ⟨b, s, rfl, h3, h4, h5, h6⟩
  · omega
  · have key := AnyG.slices_Compact_int Try.laysC b 0 c xs w (own_holds h5) (by omega) (by omega)
    rw [← hl] at key
    have hle : (Lib.compact xs).length ≤ xs.length := by
      rw [Lib.compact, Lib.compactUpTo, List.length_map]
      refine Nat.le_trans (List.length_filter_le _ _) ?_
      simp
    refine Calls.mono key fun e w' he => ?_
    obtain ⟨he, q, rfl⟩ := he
    obtain ⟨k1, k2⟩ := put_own h5 (ys := Lib.compact xs ++ List.replicate (n - (Lib.compact xs).length) 0) (by simp; omega) q #[]
    rw [Sort.grow_empty] at k1 k2
    refine ⟨_, he, _, rfl, by omega, k2.wide h3 (by omega), ⟨rfl, by omega, G.big, .inr ⟨b, ((List.replicate (n - (Lib.compact xs).length) (0 : Int)).map i64c).flatten ++ s, rfl, h3, h4, ?_, ?_⟩, fun _ _ => rfl⟩⟩
    · rw [List.map_append, List.flatten_append, List.append_assoc] at k1; exact k1
    · rw [flat_i64]; simp; omega
end Go.Proofs.Ytinpkihmkfiidaa
