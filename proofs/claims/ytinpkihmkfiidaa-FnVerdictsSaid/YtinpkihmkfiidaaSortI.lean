/-
  Sorting a slice of numbers, each number once, by the contracts of the library. No condition beyond those written in each theorem.
-/
import Derived.Test.YtinpkihmkfiidaaVerd
import Derived.Test.YtinpkihmkfiidaaRg2
import Derived.Shelf.SlGeneric
import Derived.Ground.SlgnProg
import Derived.Ground.SlgmProg
import Derived.Shelf.SlicesG.CompactI
import Derived.Shelf.SortM.Plain
namespace Go.Proofs.Ytinpkihmkfiidaa
open Go.RowKit Go.Shelf
set_option linter.unusedVariables false
set_option linter.unusedSimpArgs false
set_option linter.unusedSectionVars false
set_option maxRecDepth 4000

end Go.Proofs.Ytinpkihmkfiidaa
namespace Go.Proofs
open Go.Shelf
shelf_lay_g SlLaysM.n5 Slgm 5 at Try 145 as Try.laysS
shelf_lay_g SlLaysN.n43 Slgn 43 at Try 146 as Try.laysC
end Go.Proofs
namespace Go.Proofs.Ytinpkihmkfiidaa

theorem flat_i64 (xs : List Int) : (xs.map i64c).flatten = xs.map (Value.int .i64) := by
  induction xs with
  | nil => rfl
  | cons x r ih => simp [i64c, ih]
theorem putCells_list (ys : List Int) (cs s : List Value) (hc : cs.length = ys.length) : Sort.putCells (Value.int .i64) 0 ys.toArray (cs ++ s).toArray = (ys.map (Value.int .i64) ++ s).toArray := by
  apply Array.ext_getElem?
  intro k
  simp only [Sort.putCells, Array.getElem?_mapIdx, List.getElem?_toArray, List.size_toArray]
  rcases Nat.lt_or_ge k ys.length with h | h
  · have h1 : k < cs.length := by omega
    have h2 : k < (ys.map (Value.int .i64)).length := by simpa using h
    rw [List.getElem?_append_left h1, List.getElem?_append_left h2, List.getElem?_eq_getElem h1, List.getElem?_eq_getElem h2]
    simp [h]
  · rw [List.getElem?_append_right (by omega), List.getElem?_append_right (by simpa using h), List.length_map, hc]
    cases s[k - ys.length]? with
    | none => rfl
    | some v => simp; intro h2; omega
theorem put_own {w : World} {b : Nat} {T : TypeId} {xs ys : List Int} {s : List Value} (h : Own w b ((xs.map i64c).flatten ++ s) T) (hl : ys.length = xs.length) (n : Nat) (os : Array Obj) :
    Own (Sort.grow (Sort.putRow (Value.int .i64) (Sort.ahead w n) b 0 ys.toArray) os) b ((ys.map i64c).flatten ++ s) T ∧ Mk b (b + 1) w (Sort.grow (Sort.putRow (Value.int .i64) (Sort.ahead w n) b 0 ys.toArray) os) := by
  have hlt := h.lt
  refine ⟨?_, rfl, rfl, rfl, by simp, fun j hj hn => ?_⟩
  · unfold Own at h ⊢
    rw [Sort.heap_grow_old _ _ (by simpa using hlt)]
    simp only [Sort.putRow, Sort.mapBlock, Array.getElem?_modify, if_true, Sort.heap_ahead, h, Option.map_some, Sort.onCells]
    rw [flat_i64, flat_i64, putCells_list ys _ s (by simp [hl])]
  · rw [Sort.heap_grow_old _ _ (by simpa using hj)]
    simp only [Sort.putRow, Sort.mapBlock, Array.getElem?_modify, Sort.heap_ahead]
    rw [if_neg (by omega)]
theorem own_holds {w : World} {b : Nat} {T : TypeId} {xs : List Int} {s : List Value} (h : Own w b ((xs.map i64c).flatten ++ s) T) : Sort.Holds (Value.int .i64) w b 0 xs.toArray := fun j hj => by
  have hj' : j < xs.length := by simpa using hj
  refine ⟨?_, ?_⟩
  · refine h.cells j _ ?_
    rw [flat_i64, List.getElem?_append_left (by simpa using hj')]
    simp [hj']
  · unfold Own at h; simp [World.frozen?, h]
theorem merge_len (xs : List Int) : (xs.mergeSort fun x y => decide (x ≤ y)).length = xs.length := List.length_mergeSort _
theorem sort_ok (p : Option Addr) (n c : Nat) (xs : List Int) (lo hi : Nat) (w : World) (G : Ow i64c 1 2 w lo hi p n c xs) (h0 : 0 < n) (h1 : n ≤ 1000000000) :
    Ret Try.prog 145 [.slice p n c] w (fun v w' => v = .tuple #[] ∧ Mk lo hi w w' ∧ Ow i64c 1 2 w' lo hi p n c (xs.mergeSort fun x y => decide (x ≤ y))) := by
  have hl := G.len; have hc := G.cap
  rcases G.row with ⟨_, h2⟩ | ⟨b, s, rfl, h3, h4, h5, h6⟩
  · omega
  · have key := AnyM.slices_Sort_int Try.laysS b 0 c xs w (own_holds h5) h5.lt (by omega)
    rw [← hl] at key
    refine Calls.mono key fun e w' he => ?_
    obtain ⟨he, q, os, rfl⟩ := he
    obtain ⟨k1, k2⟩ := put_own h5 (ys := xs.mergeSort fun x y => decide (x ≤ y)) (merge_len xs) q os
    exact ⟨_, he, rfl, k2.wide h3 (by omega), ⟨by rw [merge_len]; exact hl, hc, G.big, .inr ⟨b, s, rfl, h3, h4, k1, h6⟩, fun _ _ => rfl⟩⟩
theorem compact_ok (p : Option Addr) (n c : Nat) (xs : List Int) (lo hi : Nat) (w : World) (G : Ow i64c 1 2 w lo hi p n c xs) (h0 : 0 < n) (h1 : n ≤ 1000000000) :
    Ret Try.prog 146 [.slice p n c] w (fun v w' => ∃ m, v = .slice p m c ∧ m ≤ n ∧ Mk lo hi w w' ∧ Ow i64c 1 2 w' lo hi p m c (Lib.compact xs)) := by
  have hl := G.len; have hc := G.cap
  rcases G.row with ⟨_, h2⟩ | ⟨b, s, rfl, h3, h4, h5, h6⟩
  · omega
  · have key := AnyG.slices_Compact_int Try.laysC b 0 c xs w (own_holds h5) (by omega) (by omega)
    rw [← hl] at key
    have hle : (Lib.compact xs).length ≤ xs.length := by
      rw [Lib.compact, Lib.compactUpTo, List.length_map]
      refine Nat.le_trans (List.length_filter_le _ _) ?_
      simp
    refine Calls.mono key fun e w' he => ?_
    obtain ⟨he, q, rfl⟩ := he
    obtain ⟨k1, k2⟩ := put_own h5 (ys := Lib.compact xs ++ List.replicate (n - (Lib.compact xs).length) 0) (by simp; omega) q #[]
    rw [Sort.grow_empty] at k1 k2
    refine ⟨_, he, _, rfl, by omega, k2.wide h3 (by omega), ⟨rfl, by omega, G.big, .inr ⟨b, ((List.replicate (n - (Lib.compact xs).length) (0 : Int)).map i64c).flatten ++ s, rfl, h3, h4, ?_, ?_⟩, fun _ _ => rfl⟩⟩
    · rw [List.map_append, List.flatten_append, List.append_assoc] at k1; exact k1
    · rw [flat_i64]; simp; omega
end Go.Proofs.Ytinpkihmkfiidaa
