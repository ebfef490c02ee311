/-
  The questions and verdicts to which ways lead: the walks. No condition beyond those written in each theorem.
-/
import Derived.Test.YtchblgaklknkcaaGreatPollP
import Derived.Test.YtchblgaklknkcaaGreatRg2
import Derived.Shelf.SlGeneric
import Derived.Ground.SlgnProg
import Derived.Ground.SlgmProg
import Derived.Shelf.SlicesG.CompactI
import Derived.Shelf.SortM.Plain
import Derived.Ground.SlgfProg
import Derived.Shelf.SlicesE.DeleteFunc
import Derived.Test.YtchblgaklknkcaaGreatCountW
namespace Go.Proofs.YtchblgaklknkcaaGreat
open Go.RowKit Go.Shelf
set_option linter.unusedVariables false
set_option linter.unusedSimpArgs false
set_option linter.unusedSectionVars false
set_option maxRecDepth 4000
end Go.Proofs.YtchblgaklknkcaaGreat
namespace Go.Proofs
open Go.Shelf
def Tryz.laysS_ren : Go.Shelf.Ren := ⟨fun | 5 => 110 | 8 => 128 | 7 => 127 | 19 => 149 | 20 => 150 | 10 => 140 | 11 => 141 | 12 => 142 | 13 => 143 | 14 => 144 | 15 => 145 | 16 => 146 | 17 => 147 | 18 => 148 | 30 => 155 | 31 => 156 | 32 => 157 | 33 => 158 | 34 => 159 | 35 => 160 | 40 => 164 | n => n, fun | 23 => 24 | 25 => 2 | 3 => 3 | 32 => 138 | 22 => 24 | 0 => 0 | 44 => 156 | 46 => 158 | 4 => 4 | 36 => 148 | 35 => 147 | 41 => 153 | 5 => 5 | 9 => 9 | 53 => 160 | 57 => 164 | 63 => 168 | 64 => 169 | n => n, fun | n => n⟩
theorem Tryz.laysS : Go.Proofs.SlLaysM.n5 Tryz.prog Tryz.laysS_ren := {
  mixed := by kernel_rfl
  f5 := ⟨Tryz.f110.name, by decide, Tryz.func110.trans (congrArg some (by kernel_rfl))⟩
  f7 := ⟨Tryz.f127.name, by decide, Tryz.func127.trans (congrArg some (by kernel_rfl))⟩
  f8 := Tryz.func128.trans (congrArg some (by kernel_rfl))
  f10 := ⟨Tryz.f140.name, by decide, Tryz.func140.trans (congrArg some (by kernel_rfl))⟩
  f11 := ⟨Tryz.f141.name, by decide, Tryz.func141.trans (congrArg some (by kernel_rfl))⟩
  f12 := ⟨Tryz.f142.name, by decide, Tryz.func142.trans (congrArg some (by kernel_rfl))⟩
  f13 := ⟨Tryz.f143.name, by decide, Tryz.func143.trans (congrArg some (by kernel_rfl))⟩
  f14 := ⟨Tryz.f144.name, by decide, Tryz.func144.trans (congrArg some (by kernel_rfl))⟩
  f15 := ⟨Tryz.f145.name, by decide, Tryz.func145.trans (congrArg some (by kernel_rfl))⟩
  f16 := ⟨Tryz.f146.name, by decide, Tryz.func146.trans (congrArg some (by kernel_rfl))⟩
  f17 := ⟨Tryz.f147.name, by decide, Tryz.func147.trans (congrArg some (by kernel_rfl))⟩
  f18 := ⟨Tryz.f148.name, by decide, Tryz.func148.trans (congrArg some (by kernel_rfl))⟩
  f19 := Tryz.func149.trans (congrArg some (by kernel_rfl))
  f20 := Tryz.func150.trans (congrArg some (by kernel_rfl))
  f30 := ⟨Tryz.f155.name, by decide, Tryz.func155.trans (congrArg some (by kernel_rfl))⟩
  f31 := Tryz.func156.trans (congrArg some (by kernel_rfl))
  f32 := Tryz.func157.trans (congrArg some (by kernel_rfl))
  f33 := ⟨Tryz.f158.name, by decide, Tryz.func158.trans (congrArg some (by kernel_rfl))⟩
  f34 := ⟨Tryz.f159.name, by decide, Tryz.func159.trans (congrArg some (by kernel_rfl))⟩
  f35 := ⟨Tryz.f160.name, by decide, Tryz.func160.trans (congrArg some (by kernel_rfl))⟩
  f40 := ⟨Tryz.f164.name, by decide, Tryz.func164.trans (congrArg some (by kernel_rfl))⟩
  t0 := Tryz.underlying0
  a0 := Tryz.isAgg0
  z0 := Tryz.sizeOf0
  v0 := Tryz.zeroValue0
  t3 := Tryz.underlying3
  a3 := Tryz.isAgg3
  z3 := Tryz.sizeOf3
  v3 := Tryz.zeroValue3
  t4 := Tryz.underlying4
  a4 := Tryz.isAgg4
  z4 := Tryz.sizeOf4
  v4 := Tryz.zeroValue4
  t5 := Tryz.underlying5
  a5 := Tryz.isAgg5
  z5 := Tryz.sizeOf5
  v5 := Tryz.zeroValue5
  t9 := Tryz.underlying9
  a9 := Tryz.isAgg9
  z9 := Tryz.sizeOf9
  v9 := Tryz.zeroValue9
  t22 := Tryz.underlying24
  a22 := Tryz.isAgg24
  z22 := Tryz.sizeOf24
  v22 := Tryz.zeroValue24
  t23 := Tryz.underlying24
  a23 := Tryz.isAgg24
  z23 := Tryz.sizeOf24
  v23 := Tryz.zeroValue24
  t25 := Tryz.underlying2
  a25 := Tryz.isAgg2
  z25 := Tryz.sizeOf2
  v25 := Tryz.zeroValue2
  t32 := Tryz.underlying138
  a32 := Tryz.isAgg138
  z32 := Tryz.sizeOf138
  v32 := Tryz.zeroValue138
  t35 := Tryz.underlying147
  a35 := Tryz.isAgg147
  z35 := Tryz.sizeOf147
  v35 := Tryz.zeroValue147
  t36 := Tryz.underlying148
  a36 := Tryz.isAgg148
  z36 := Tryz.sizeOf148
  v36 := Tryz.zeroValue148
  t41 := Tryz.underlying153
  a41 := Tryz.isAgg153
  z41 := Tryz.sizeOf153
  v41 := Tryz.zeroValue153
  t44 := Tryz.underlying156
  a44 := Tryz.isAgg156
  z44 := Tryz.sizeOf156
  v44 := Tryz.zeroValue156
  t46 := Tryz.underlying158
  a46 := Tryz.isAgg158
  z46 := Tryz.sizeOf158
  v46 := Tryz.zeroValue158
  t53 := Tryz.underlying160
  a53 := Tryz.isAgg160
  z53 := Tryz.sizeOf160
  v53 := Tryz.zeroValue160
  t57 := Tryz.underlying164
  a57 := Tryz.isAgg164
  z57 := Tryz.sizeOf164
  v57 := Tryz.zeroValue164
  t63 := Tryz.underlying168
  a63 := Tryz.isAgg168
  z63 := Tryz.sizeOf168
  v63 := Tryz.zeroValue168
  t64 := Tryz.underlying169
  a64 := Tryz.isAgg169
  z64 := Tryz.sizeOf169
  v64 := Tryz.zeroValue169 }
def Tryz.laysC_ren : Go.Shelf.Ren := ⟨fun | 43 => 111 | n => n, fun | 22 => 24 | 23 => 2 | 3 => 3 | 4 => 4 | 0 => 0 | n => n, fun | n => n⟩
theorem Tryz.laysC : Go.Proofs.SlLaysN.n43 Tryz.prog Tryz.laysC_ren := {
  mixed := by kernel_rfl
  f43 := ⟨Tryz.f111.name, by decide, Tryz.func111.trans (congrArg some (by kernel_rfl))⟩
  t0 := Tryz.underlying0
  a0 := Tryz.isAgg0
  z0 := Tryz.sizeOf0
  v0 := Tryz.zeroValue0
  t3 := Tryz.underlying3
  a3 := Tryz.isAgg3
  z3 := Tryz.sizeOf3
  v3 := Tryz.zeroValue3
  t4 := Tryz.underlying4
  a4 := Tryz.isAgg4
  z4 := Tryz.sizeOf4
  v4 := Tryz.zeroValue4
  t22 := Tryz.underlying24
  a22 := Tryz.isAgg24
  z22 := Tryz.sizeOf24
  v22 := Tryz.zeroValue24
  t23 := Tryz.underlying2
  a23 := Tryz.isAgg2
  z23 := Tryz.sizeOf2
  v23 := Tryz.zeroValue2
  i23 := by kernel_rfl }
end Go.Proofs
namespace Go.Proofs.YtchblgaklknkcaaGreat
theorem flat_i64 (xs : List Int) : (xs.map i64c).flatten = xs.map (Value.int .i64) := by
 induction xs with
 | nil => rfl
 | cons x r ih => simp [i64c, ih]
theorem putCells_list (ys : List Int) (cs s : List Value) (hc : cs.length = ys.length) : Sort.putCells (Value.int .i64) 0 ys.toArray (cs ++ s).toArray = (ys.map (Value.int .i64) ++ s).toArray := by
 apply Array.ext_getElem?
 intro k
 simp only [Sort.putCells, Array.getElem?_mapIdx, List.getElem?_toArray, List.size_toArray]
 rcases Nat.lt_or_ge k ys.length with h | h
 · have h1 : k < cs.length := by omega
   have h2 : k < (ys.map (Value.int .i64)).length := by simpa using h
   rw [List.getElem?_append_left h1, List.getElem?_append_left h2, List.getElem?_eq_getElem h1, List.getElem?_eq_getElem h2]
   simp [h]
 · rw [List.getElem?_append_right (by omega), List.getElem?_append_right (by simpa using h), List.length_map, hc]
   cases s[k - ys.length]? with
   | none => rfl
   | some v => simp; intro h2; omega
theorem put_own {w : World} {b : Nat} {T : TypeId} {xs ys : List Int} {s : List Value} (h : Own w b ((xs.map i64c).flatten ++ s) T) (hl : ys.length = xs.length) (n : Nat) (os : Array Obj) :
    Own (Sort.grow (Sort.putRow (Value.int .i64) (Sort.ahead w n) b 0 ys.toArray) os) b ((ys.map i64c).flatten ++ s) T ∧ Mk b (b + 1) w (Sort.grow (Sort.putRow (Value.int .i64) (Sort.ahead w n) b 0 ys.toArray) os) := by
  have hlt := h.lt
  refine ⟨?_, rfl, rfl, rfl, by simp, fun j hj hn => ?_⟩
  · unfold Own at h ⊢
    rw [Sort.heap_grow_old _ _ (by simpa using hlt)]
    simp only [Sort.putRow, Sort.mapBlock, Array.getElem?_modify, if_true, Sort.heap_ahead, h, Option.map_some, Sort.onCells]
    rw [flat_i64, flat_i64, putCells_list ys _ s (by simp [hl])]
  · rw [Sort.heap_grow_old _ _ (by simpa using hj)]
    simp only [Sort.putRow, Sort.mapBlock, Array.getElem?_modify, Sort.heap_ahead]
    rw [if_neg (by omega)]
theorem own_holds {w : World} {b : Nat} {T : TypeId} {xs : List Int} {s : List Value} (h : Own w b ((xs.map i64c).flatten ++ s) T) : Sort.Holds (Value.int .i64) w b 0 xs.toArray := fun j hj => by
  have hj' : j < xs.length := by simpa using hj
  refine ⟨?_, ?_⟩
  · refine h.cells j _ ?_
    rw [flat_i64, List.getElem?_append_left (by simpa using hj')]
    simp [hj']
  · unfold Own at h; simp [World.frozen?, h]
theorem merge_len (xs : List Int) : (xs.mergeSort fun x y => decide (x ≤ y)).length = xs.length := List.length_mergeSort _
theorem sort_ok (p : Option Addr) (n c : Nat) (xs : List Int) (lo hi : Nat) (w : World) (G : Ow i64c 1 2 w lo hi p n c xs) (h0 : 0 < n) (h1 : n ≤ 1000000000) :
    Ret Tryz.prog 110 [.slice p n c] w (fun v w' => v = .tuple #[] ∧ Mk lo hi w w' ∧ Ow i64c 1 2 w' lo hi p n c (xs.mergeSort fun x y => decide (x ≤ y))) := by
  have hl := G.len; have hc := G.cap
  rcases G.row with ⟨_, h2⟩ | ⟨b, s, rfl, h3, h4, h5, h6⟩
  · omega
  · have key := AnyM.slices_Sort_int Tryz.laysS b 0 c xs w (own_holds h5) h5.lt (by omega)
    rw [← hl] at key
    refine Calls.mono key fun e w' he => ?_
    obtain ⟨he, q, os, rfl⟩ := he
    obtain ⟨k1, k2⟩ := put_own h5 (ys := xs.mergeSort fun x y => decide (x ≤ y)) (merge_len xs) q os
    exact ⟨_, he, rfl, k2.wide h3 (by omega), ⟨by rw [merge_len]; exact hl, hc, G.big, .inr ⟨b, s, rfl, h3, h4, k1, h6⟩, fun _ _ => rfl⟩⟩
theorem compact_ok (p : Option Addr) (n c : Nat) (xs : List Int) (lo hi : Nat) (w : World) (G : Ow i64c 1 2 w lo hi p n c xs) (h0 : 0 < n) (h1 : n ≤ 1000000000) :
    Ret Tryz.prog 111 [.slice p n c] w (fun v w' => ∃ m, v = .slice p m c ∧ m ≤ n ∧ Mk lo hi w w' ∧ Ow i64c 1 2 w' lo hi p m c (Lib.compact xs)) := by
  have hl := G.len; have hc := G.cap
  rcases G.row with ⟨_, h2⟩ | ⟨b, s, rfl, h3, h4, h5, h6⟩
  · omega
  · have key := AnyG.slices_Compact_int Tryz.laysC b 0 c xs w (own_holds h5) (by omega) (by omega)
    rw [← hl] at key
    have hle : (Lib.compact xs).length ≤ xs.length := by
      rw [Lib.compact, Lib.compactUpTo, List.length_map]
      refine Nat.le_trans (List.length_filter_le _ _) ?_
      simp
    refine Calls.mono key fun e w' he => ?_
    obtain ⟨he, q, rfl⟩ := he
    obtain ⟨k1, k2⟩ := put_own h5 (ys := Lib.compact xs ++ List.replicate (n - (Lib.compact xs).length) 0) (by simp; omega) q #[]
    rw [Sort.grow_empty] at k1 k2
    refine ⟨_, he, _, rfl, by omega, k2.wide h3 (by omega), ⟨rfl, by omega, G.big, .inr ⟨b, ((List.replicate (n - (Lib.compact xs).length) (0 : Int)).map i64c).flatten ++ s, rfl, h3, h4, ?_, ?_⟩, fun _ _ => rfl⟩⟩
    · rw [List.map_append, List.flatten_append, List.append_assoc] at k1; exact k1
    · rw [flat_i64]; simp; omega
end Go.Proofs.YtchblgaklknkcaaGreat
namespace Go.Proofs.YtchblgaklknkcaaGreat
open Go.RowKit Go.Shelf
set_option linter.unusedVariables false
set_option linter.unusedSimpArgs false
set_option linter.unusedSectionVars false
set_option maxRecDepth 4000
end Go.Proofs.YtchblgaklknkcaaGreat
namespace Go.Proofs
open Go.Shelf
def Tryz.laysD_ren : Go.Shelf.Ren := ⟨fun | 10 => 35 | 6 => 77 | n => n, fun | 22 => 24 | 23 => 2 | 25 => 67 | 3 => 3 | 4 => 4 | 0 => 0 | n => n, fun | n => n⟩
theorem Tryz.laysD : Go.Proofs.SlLaysH.n10 Tryz.prog Tryz.laysD_ren := {
  mixed := by kernel_rfl
  f6 := ⟨Tryz.f77.name, by decide, Tryz.func77.trans (congrArg some (by kernel_rfl))⟩
  f10 := ⟨Tryz.f35.name, by decide, Tryz.func35.trans (congrArg some (by kernel_rfl))⟩
  t0 := Tryz.underlying0
  a0 := Tryz.isAgg0
  z0 := Tryz.sizeOf0
  v0 := Tryz.zeroValue0
  t3 := Tryz.underlying3
  a3 := Tryz.isAgg3
  z3 := Tryz.sizeOf3
  v3 := Tryz.zeroValue3
  t4 := Tryz.underlying4
  a4 := Tryz.isAgg4
  z4 := Tryz.sizeOf4
  v4 := Tryz.zeroValue4
  t22 := Tryz.underlying24
  a22 := Tryz.isAgg24
  z22 := Tryz.sizeOf24
  v22 := Tryz.zeroValue24
  a23 := Tryz.isAgg2
  z23 := Tryz.sizeOf2
  t25 := Tryz.underlying67
  a25 := Tryz.isAgg67
  z25 := Tryz.sizeOf67
  v25 := Tryz.zeroValue67 }
end Go.Proofs
namespace Go.Proofs.YtchblgaklknkcaaGreat
set_option maxHeartbeats 400000 in
theorem VerdictsOf1_ok (x : Int) (w : World) : Ret Tryz.prog 37 [.int .i64 x] w (Ps w (.bool (decide (0 ≤ x)))) := by
 refine ret_of_run (N := 5) Tryz.func37 rfl rfl rfl ?_
 have E : Ext w w := Ext.refl w
 refine sr_ ?_
 refine vn_ rfl rfl rfl ?_
 refine sr_ ?_
 refine vm_ rfl rfl rfl ?_
 refine oz_ (xgeq rfl rfl _ rfl) rfl rfl ?_
 refine vn_ rfl rfl rfl ?_
 refine run_ret Tryz.func37 (res1 rfl rfl) ?_
 exact ⟨_, rfl, rfl, rfl⟩
theorem negs_eq (xs : List Int) : (xs.filter fun x => !decide (0 ≤ x)) = negs xs := by
 unfold negs; congr 1; funext x; by_cases h : 0 ≤ x <;> simp [h] <;> omega
theorem gives1 (x : Int) (W : World) : FnGives Tryz.prog 37 #[] #[.int .i64 x] (.bool (decide (0 ≤ x))) W := by
 refine Calls.mono (VerdictsOf1_ok x W) fun e w' he => ?_
 obtain ⟨v, he, hv, hw⟩ := he
 subst hv; subst hw
 exact ⟨he, 0, rfl⟩
theorem delete_ok (p : Option Addr) (n c : Nat) (xs : List Int) (lo hi : Nat) (w : World) (G : Ow i64c 1 2 w lo hi p n c xs) (h0 : 0 < n) (h1 : n ≤ 1000000000) :
    Ret Tryz.prog 35 [.slice p n c, .func (.func 37) #[] #[]] w (fun v w' => ∃ m, v = .slice p m c ∧ m ≤ n ∧ Mk lo hi w w' ∧ Ow i64c 1 2 w' lo hi p m c (negs xs)) := by
  have hl := G.len; have hc := G.cap
  rcases G.row with ⟨_, h2⟩ | ⟨b, s, rfl, h3, h4, h5, h6⟩
  · omega
  · have key := AnyE.slices_DeleteFunc Tryz.laysD (Value.int .i64) (fun _ => rfl) (fun x => decide (0 ≤ x)) 37 #[] Tryz.call37 0 Tryz.zeroValue2 b 0 c xs.toArray w
      (fun W x _ => gives1 x W) (fun _ _ _ x _ => gives1 x _) (own_holds h5) (by simp; omega) (by simp; omega)
    simp only [negs_eq, List.size_toArray] at key
    rw [← hl] at key
    have hle : (negs xs).length ≤ xs.length := List.length_filter_le _ _
    refine Calls.mono key fun e w' he => ?_
    obtain ⟨he, q, rfl⟩ := he
    obtain ⟨k1, k2⟩ := put_own h5 (ys := negs xs ++ List.replicate (n - (negs xs).length) 0) (by simp; omega) q #[]
    rw [Sort.grow_empty] at k1 k2
    refine ⟨_, he, _, rfl, by omega, k2.wide h3 (by omega), ⟨rfl, by omega, G.big, .inr ⟨b, ((List.replicate (n - (negs xs).length) (0 : Int)).map i64c).flatten ++ s, rfl, h3, h4, ?_, ?_⟩, fun _ _ => rfl⟩⟩
    · rw [List.map_append, List.flatten_append, List.append_assoc] at k1; exact k1
    · rw [flat_i64]; simp; omega
end Go.Proofs.YtchblgaklknkcaaGreat
namespace Go.Proofs.YtchblgaklknkcaaGreat
open Go.RowKit
set_option linter.unusedVariables false
set_option linter.unusedSimpArgs false
set_option linter.unusedSectionVars false
set_option maxRecDepth 4000
theorem srt_pos (xs : List Question) : 0 < (srt (usedL xs)).length := by
 have h : (0 : Int) ∈ srt (usedL xs) := srt_mem.2 (usedT_mono (k := 0) (by simp [usedT]) _ (Nat.zero_le _))
 exact List.length_pos_of_mem h
set_option maxHeartbeats 400000 in
theorem sortedSet_ok (p : Option Addr) (n c : Nat) (xs : List Int) (lo hi : Nat) (w : World) (G : Ow i64c 1 2 w lo hi p n c xs) (h0 : 0 < n) (h1 : n ≤ 1000000000) : Ret Tryz.prog 78 [.slice p n c] w (fun v w' => ∃ m, v = .slice p m c ∧ m ≤ n ∧ Mk lo hi w w' ∧ Ow i64c 1 2 w' lo hi p m c (srt xs)) := by
 refine ret_of_run (N := 7) Tryz.func78 rfl rfl rfl ?_
 have E : Mk lo hi w w := Mk.refl _ _ _
 refine sr_ ?_
 refine vn_ rfl rfl rfl ?_
 refine sr_ ?_
 refine vm_ rfl rfl rfl ?_
 refine oc (xcall Tryz.call110 rfl) rfl rfl rfl (sort_ok _ _ _ _ _ _ _ G h0 h1) ?_
 rintro _ w1 ⟨rfl, m1, g1⟩
 have z1 := m1.size
 have E := E.trans m1
 replace G := g1
 refine ops_nil ?_
 refine sr_ ?_
 refine vm_ rfl rfl rfl ?_
 refine oc (xcall Tryz.call111 rfl) rfl rfl rfl (compact_ok _ _ _ _ _ _ _ G h0 h1) ?_
 rintro _ w2 ⟨mz, rfl, hmz, m2, g2⟩
 have z2 := m2.size
 have E := E.trans m2
 replace G := g2
 refine vn_ rfl rfl rfl ?_
 refine run_ret Tryz.func78 (res1 rfl rfl) ?_
 exact ⟨_, rfl, _, rfl, hmz, E, G⟩
set_option maxHeartbeats 1000000 in
theorem reached_ok (p : Option Addr) (n c : Nat) (xs : List Question) (w : World) (H : Sl Question.cells 3 w p n c xs) (hx : ∀ x ∈ xs, x.Label.size ≤ 9223372036854775807) (hl : xs.length ≤ 10) : Ret Tryz.prog 36 [.slice p n c] w (fun v w' => Ext w w' ∧ ∃ q m d, v = .slice q m d ∧ Ow i64c 1 2 w' w.heap.size w'.heap.size q m d (srt (usedL xs))) := by
 refine ret_of_run (N := 27) Tryz.func36 rfl rfl rfl ?_
 have hn := H.len
 have hn6 := H.n64
 have E : Ext w w := Ext.refl w
 refine sr_ ?_
 refine vn_ rfl rfl rfl ?_
 refine sr_ ?_
 refine obuild (cs := [.int .i64 0]) (sz := 1) Tryz.underlying24 inf2 rfl rfl (by decide) rfl rfl (by simp [Value.cells]) rfl rfl rfl ?_
 intro b1 w1 e1 hb1 hz1 O1
 have E := E.trans e1
 have G1 : Ow i64c 1 2 w1 b1 (b1 + 1) (some ⟨b1, 0, none⟩) 1 1 ([0] : List Int) := Own.ow (by simpa [i64c] using O1) rfl (by omega) (Nat.le_refl _) (by omega) (by intro x hx; rfl)
 refine vn_ rfl rfl rfl ?_
 refine run_seq ?_
 refine sr_ ?_
 refine vm_ rfl rfl rfl ?_
 refine oz_ (xlen Tryz.underlying35 rfl) rfl rfl ?_
 refine vm_ rfl rfl rfl ?_
 refine ops_nil ?_
 refine run_block ?_
 refine run_loop (ι := Nat × Option Addr × Nat × Nat × List Int × World) (fun x_ => match x_ with | (k, q_3, m_3, c_3, ys_3, wr) => (Ext w wr) ∧ (Ow i64c 1 2 wr b1 wr.heap.size q_3 m_3 c_3 ys_3) ∧ (b1 ≤ wr.heap.size) ∧ (w1.heap.size ≤ wr.heap.size) ∧ (k ≤ n) ∧ (ys_3 = usedT xs k) ∧ (1 ≤ m_3)) (fun x_ => match x_ with | (k, q_3, m_3, c_3, ys_3, wr) => [(3, .slice q_3 m_3 c_3), (7, .slice p n c), (8, .int .i64 (n : Int)), (9, .int .i64 (k : Int))]) (fun x_ => match x_ with | (k, q_3, m_3, c_3, ys_3, wr) => wr) (fun x_ => match x_ with | (k, q_3, m_3, c_3, ys_3, wr) => n - k) ?_ (0, (some ⟨b1, 0, none⟩), 1, 1, [0], w1) (⟨E, G1.wide (by omega) (by omega), by omega, Nat.le_refl _, by omega, rfl, by omega⟩) ⟨rfl, rfl, rfl, rfl, trivial⟩ rfl
 intro i_ hI_ hback3
 obtain ⟨k, q_3, m_3, c_3, ys_3, wr⟩ := i_
 obtain ⟨E, G_3, lo_3, lz_wr, hk, hy, hm1⟩ := hI_
 try dsimp only
 have zr := E.size
 have lg_3 := G_3.len
 have hul := usedT_len xs k
 rw [← hy] at hul
 refine sr_ ?_
 refine oz_ (xlss rfl rfl _ rfl) rfl rfl ?_
 refine ods (fun c10 => ?_) (fun c10 => ?_)
 rotate_left
 ·
  refine ops_nil ?_
  refine run_seq ?_
  refine run_cond_f rfl ?_
  refine run_exit rfl ?_
  refine sr_ ?_
  refine vm_ rfl rfl rfl ?_
  refine oc (xcall Tryz.call78 rfl) rfl rfl rfl (sortedSet_ok _ _ _ _ _ _ _ G_3 (by omega) (by omega)) ?_
  rintro _ w2 ⟨mz, rfl, hmz, m2, g2⟩
  have z2 := m2.size
  have E := m2.toExt E (by omega)
  replace G_3 := g2
  refine vn_ rfl rfl rfl ?_
  refine run_ret Tryz.func36 (res1 rfl rfl) ?_
  obtain rfl : k = n := by omega
  exact ⟨_, rfl, E, _, _, _, rfl, by rw [usedL, ← hn, ← hy]; exact G_3.wide (by omega) (by omega)⟩
 refine ops_nil ?_
 refine run_seq ?_
 refine run_cond_t rfl ?_
 refine run_skip ?_
 refine run_seq ?_
 refine run_block ?_
 refine sr_ ?_
 refine vm_ rfl rfl rfl ?_
 have h12 := (H.ext E).at (i := k) (by omega)
 refine oz_ (xindexN (i := k) Tryz.underlying35 Tryz.sizeOf99 rfl rfl rfl ((H.ext E).p (i := k) (by omega)) (by have := (H.ext E).len; omega)) rfl rfl ?_
 refine oz_ (v := .agg #[.string xs[k].Label, .int .i64 xs[k].Yes, .int .i64 xs[k].No]) (xloadN Tryz.isAgg99 Tryz.sizeOf99 rfl (h12) rfl) rfl rfl ?_
 refine oalloc Tryz.zeroValue99 rfl rfl ?_
 intro b2 w2 e2 hb2 hz2 O2
 have E := E.trans e2
 replace G_3 := G_3.ext e2
 replace O2 : Own w2 b2 [.string ⟨#[]⟩, .int .i64 0, .int .i64 0] 99 := O2
 refine va_ rfl rfl rfl ?_
 refine ostoreN (vs := _) Tryz.sizeOf99 rfl rfl O2 rfl (by simp) (by simp [Value.oneCell']) rfl ?_
 intro w3 on3 O3
 have hz3 := on3.size
 have E := on3.ext E (by omega)
 replace G_3 := G_3.only on3 (by omega)
 replace O3 : Own w3 b2 [.string xs[k].Label, .int .i64 xs[k].Yes, .int .i64 xs[k].No] 99 := O3
 refine ops_nil ?_
 refine sr_ ?_
 refine vm_ rfl rfl rfl ?_
 refine vm_ rfl rfl rfl ?_
 refine oc (xcall Tryz.call41 rfl) rfl rfl rfl (hasI_ok _ _ _ _ ((k : Int)) _ (G_3.sl)) ?_
 rintro _ w4 ⟨rfl, e4⟩
 have z4 := e4.size
 have E := E.trans e4
 replace G_3 := G_3.ext e4
 replace O3 := O3.ext e4
 refine obs (fun c16 => ?_) (fun c16 => ?_)
 rotate_left
 ·
  refine cf_ rfl ?_
  refine run_inBlock ?_
  refine run_region ?_
  refine oz_ (xadd rfl rfl (by unfold I64; omega)) rfl rfl ?_
  refine vm_ rfl rfl rfl ?_
  refine ops_nil ?_
  refine run_sub ?_ (hback3 (k + 1, q_3, m_3, c_3, ys_3, w4) (⟨E, G_3.wide (by omega) (by omega), by omega, by omega, by omega, by rw [usedT_f (by omega) (by rw [← hy]; exact c16)]; exact hy, by omega⟩) (by first | omega | (dsimp only; omega)))
  exact ⟨rfl, rfl, rfl, rfl, trivial⟩
 refine ct_ rfl ?_
 refine run_region ?_
 refine vm_ rfl rfl rfl ?_
 refine oz_ (xfieldAddr fo99f1 rfl) rfl rfl ?_
 refine oz_ (v := .int .i64 xs[k].Yes) (xload1 Tryz.isAgg2 rfl (O3.cells) rfl) rfl rfl ?_
 refine oz_ (xfieldAddr fo99f2 rfl) rfl rfl ?_
 refine oz_ (v := .int .i64 xs[k].No) (xload1 Tryz.isAgg2 rfl (O3.cells) rfl) rfl rfl ?_
 refine obuild (cs := [.int .i64 xs[k].Yes, .int .i64 xs[k].No]) (sz := 1) Tryz.underlying24 inf2 rfl rfl (by decide) rfl rfl (by simp [Value.cells]) rfl rfl rfl ?_
 intro b5 w5 e5 hb5 hz5 O5
 have E := E.trans e5
 replace G_3 := G_3.ext e5
 have G5 : Ow i64c 1 2 w5 b5 (b5 + 1) (some ⟨b5, 0, none⟩) 2 2 ([xs[k].Yes, xs[k].No] : List Int) := Own.ow (by simpa [i64c] using O5) rfl (by omega) (Nat.le_refl _) (by omega) (by intro x hx; rfl)
 refine oapp (bytes := 8) (nm := (m_3 + 2)) G_3 rfl rfl elem2 (G5.sl) (ow_nil G5) (by intro y hy; rfl) (by intro y hy u hu; simp only [i64c, List.mem_singleton] at hu; subst hu; rfl) (by omega) (by omega) (by omega) (by omega) rfl rfl ?_
 intro p6 c6_ w6 m6 G6
 have hz6 := m6.size
 have E := m6.toExt E (by omega)
 refine vn_ rfl rfl rfl ?_
 refine run_inBlock ?_
 refine run_region ?_
 refine oz_ (xadd rfl rfl (by unfold I64; omega)) rfl rfl ?_
 refine vm_ rfl rfl rfl ?_
 refine ops_nil ?_
 refine run_sub ?_ (hback3 (k + 1, p6, (m_3 + 2), c6_, (ys_3 ++ [xs[k].Yes, xs[k].No]), w6) (⟨E, G6.wide (by omega) (by omega), by omega, by omega, by omega, by rw [usedT_t (by omega) (by rw [← hy]; exact c16), ← hy], by omega⟩) (by first | omega | (dsimp only; omega)))
 exact ⟨rfl, rfl, rfl, rfl, trivial⟩
set_option maxHeartbeats 1000000 in
theorem VerdictsOf_ok (p : Option Addr) (n c : Nat) (xs : List Question) (w : World) (H : Sl Question.cells 3 w p n c xs) (hx : ∀ x ∈ xs, x.Label.size ≤ 9223372036854775807) : Ret Tryz.prog 14 [.slice p n c] w (fun v w' => Ext w w' ∧ ∃ q m d, v = .tuple #[.slice q m d, .int .i64 (verdictsOf xs).2] ∧ Ow i64c 1 2 w' w.heap.size w'.heap.size q m d (verdictsOf xs).1) := by
 refine ret_of_run (N := 10) Tryz.func14 rfl rfl rfl ?_
 have hn := H.len
 have hn6 := H.n64
 have E : Ext w w := Ext.refl w
 refine sr_ ?_
 refine va_ rfl rfl rfl ?_
 refine vn_ rfl rfl rfl ?_
 refine run_seq ?_
 refine sr_ ?_
 refine vm_ rfl rfl rfl ?_
 refine oc (xcall Tryz.call34 rfl) rfl rfl rfl (IsForm_ok _ _ _ _ _ (H.ext E) (by assumption)) ?_
 rintro _ w1 ⟨rfl, e1⟩
 have z1 := e1.size
 have E := E.trans e1
 refine obs (fun c5 => ?_) (fun c5 => ?_)
 rotate_left
 ·
  refine oz_ (xnot rfl) rfl rfl ?_
  refine ct_ rfl ?_
  refine sr_ ?_
  refine va_ rfl rfl rfl ?_
  refine vn_ rfl rfl rfl ?_
  refine run_ret Tryz.func14 (res2 rfl rfl rfl) ?_
  have he : verdictsOf xs = ([], 1) := by rw [verdictsOf, if_pos c5]
  exact ⟨_, rfl, E, none, 0, 0, by rw [he], by rw [he]; exact Ow.none _ _ _ _ _ _⟩
 have hl := isForm_len c5
 have hsp := srt_pos xs
 have hsl := srt_len (usedL xs)
 have hul := usedT_len xs xs.length
 have hue : (usedL xs).length = (usedT xs xs.length).length := rfl
 refine oz_ (xnot rfl) rfl rfl ?_
 refine cf_ rfl ?_
 refine sr_ ?_
 refine vm_ rfl rfl rfl ?_
 refine oc (xcall Tryz.call36 rfl) rfl rfl rfl (reached_ok _ _ _ _ _ (H.ext E) (by assumption) (by omega)) ?_
 rintro _ w2 ⟨e2, q8, m8, d8, rfl, G8⟩
 have z2 := e2.size
 have E := E.trans e2
 have lG8 := G8.len
 refine oc (xcall Tryz.call35 rfl) rfl rfl rfl (delete_ok _ _ _ _ _ _ _ G8 (by omega) (by omega)) ?_
 rintro _ w3 ⟨mz, rfl, hmz, m3, g3⟩
 have z3 := m3.size
 have E := m3.toExt E (by omega)
 replace G8 := g3
 refine va_ rfl rfl rfl ?_
 refine vn_ rfl rfl rfl ?_
 refine run_ret Tryz.func14 (res2 rfl rfl rfl) ?_
 have he : verdictsOf xs = (negs (srt (usedL xs)), 0) := by rw [verdictsOf, if_neg (by simp [c5])]
 exact ⟨_, rfl, E, _, _, _, by rw [he], by rw [he]; exact G8.wide (by omega) (by omega)⟩
end Go.Proofs.YtchblgaklknkcaaGreat
