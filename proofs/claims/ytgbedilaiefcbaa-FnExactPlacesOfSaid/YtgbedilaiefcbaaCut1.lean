/-
  strings.Cut at one byte, by the contract on it. No condition beyond those written in each theorem.
-/
import Derived.Test.YtgbedilaiefcbaaTmplF
import Derived.Test.YtgbedilaiefcbaaAny5
import Derived.Ground.NamesProg
import Derived.Shelf.Lay
import Derived.Shelf.Strings.Cut
import Derived.Lib.Index
namespace Go.Proofs.Ytgbedilaiefcbaa
open Go.RowKit Go.Shelf
set_option linter.unusedVariables false
set_option linter.unusedSimpArgs false
set_option linter.unusedSectionVars false
set_option maxRecDepth 4000

end Go.Proofs.Ytgbedilaiefcbaa
namespace Go.Proofs
open Go.Shelf
def Try.lays145_ren : Go.Shelf.Ren := ⟨fun | 145 => 72 | 220 => 84 | 219 => 92 | 217 => 104 | 225 => 91 | 224 => 90 | 267 => 105 | 266 => 112 | 314 => 113 | n => n, fun | 9 => 9 | 4 => 4 | 59 => 87 | 3 => 3 | 5 => 5 | 46 => 107 | 146 => 131 | 51 => 122 | n => n, fun | 1 => 0 | n => n⟩
theorem Try.lays145 : Go.Proofs.Lays.n145 Try.prog Try.lays145_ren := {
  mixed := by kernel_rfl
  f145 := Try.func72.trans (congrArg some (by kernel_rfl))
  f217 := Try.func104.trans (congrArg some (by kernel_rfl))
  f219 := Try.func92.trans (congrArg some (by kernel_rfl))
  f220 := Try.func84.trans (congrArg some (by kernel_rfl))
  f224 := Try.func90.trans (congrArg some (by kernel_rfl))
  f225 := Try.func91.trans (congrArg some (by kernel_rfl))
  f266 := Try.func112.trans (congrArg some (by kernel_rfl))
  f267 := Try.func105.trans (congrArg some (by kernel_rfl))
  f314 := Try.func113.trans (congrArg some (by kernel_rfl))
  t3 := Try.underlying3
  a3 := Try.isAgg3
  z3 := Try.sizeOf3
  v3 := Try.zeroValue3
  t4 := Try.underlying4
  a4 := Try.isAgg4
  z4 := Try.sizeOf4
  v4 := Try.zeroValue4
  t5 := Try.underlying5
  a5 := Try.isAgg5
  z5 := Try.sizeOf5
  v5 := Try.zeroValue5
  t9 := Try.underlying9
  a9 := Try.isAgg9
  z9 := Try.sizeOf9
  v9 := Try.zeroValue9
  t46 := Try.underlying107
  a46 := Try.isAgg107
  z46 := Try.sizeOf107
  v46 := Try.zeroValue107
  t51 := Try.underlying122
  a51 := Try.isAgg122
  z51 := Try.sizeOf122
  v51 := Try.zeroValue122
  t59 := Try.underlying87
  a59 := Try.isAgg87
  z59 := Try.sizeOf87
  v59 := Try.zeroValue87
  t146 := Try.underlying131
  a146 := Try.isAgg131
  z146 := Try.sizeOf131
  v146 := Try.zeroValue131
  g1 := by kernel_rfl }
end Go.Proofs
namespace Go.Proofs.Ytgbedilaiefcbaa
open Go.Shelf

/-- strings.Cut at one byte -/
def cutT (s : ByteArray) (b : Nat) : ByteArray × ByteArray × Bool := if at1 (isB b) s < s.size then (s.extract 0 (at1 (isB b) s), tail1 s (at1 (isB b) s), true) else (s, ⟨#[]⟩, false)
theorem occ1 {s : ByteArray} {c : UInt8} {j : Nat} (hj : j < s.size) : Lib.occAt s.data.toList [c] j = isB c.toNat (bAt s j) := by
  obtain ⟨b, hb, e⟩ := get_bAt hj
  obtain ⟨h1, h2⟩ := List.getElem?_eq_some_iff.1 hb
  rw [Lib.occAt, List.drop_eq_getElem_cons h1, h2, isB, e]
  simp only [List.isPrefixOf, Bool.and_true]
  rw [Bool.eq_iff_iff, beq_iff_eq, decide_eq_true_iff]
  exact ⟨fun h => by rw [h], fun h => UInt8.toNat_inj.1 h.symm⟩
theorem occ1_end {s : ByteArray} {c : UInt8} : Lib.occAt s.data.toList [c] s.size = false := by
  rw [Lib.occAt, List.drop_of_length_le (by simp)]; rfl
theorem index1 (s : ByteArray) (c : UInt8) : Lib.index s.data.toList [c] = if at1 (isB c.toNat) s < s.size then ((at1 (isB c.toNat) s : Nat) : Int) else -1 := by
  have hl : s.data.toList.length = s.size := by simp
  by_cases h : at1 (isB c.toNat) s < s.size
  · rw [if_pos h]
    exact Lib.index_first (by omega) (by rw [occ1 h]; exact at1_hit h) (fun j hj => by rw [occ1 (by omega)]; exact at1_min hj)
  · rw [if_neg h]
    refine Lib.index_none fun j hj => ?_
    rcases Nat.lt_or_ge j s.size with h2 | h2
    · rw [occ1 h2]; exact at1_min (by omega)
    · have : j = s.size := by omega
      subst this; exact occ1_end
theorem cut1 (s : ByteArray) (c : UInt8) : (⟨(Lib.cut s.data.toList [c]).1.toArray⟩ : ByteArray) = (cutT s c.toNat).1 ∧ (⟨(Lib.cut s.data.toList [c]).2.1.toArray⟩ : ByteArray) = (cutT s c.toNat).2.1 ∧ (Lib.cut s.data.toList [c]).2.2 = (cutT s c.toNat).2.2 := by
  rw [Lib.cut, index1, cutT]
  by_cases h : at1 (isB c.toNat) s < s.size
  · rw [if_pos h, if_pos (by omega), if_pos h]
    refine ⟨?_, ?_, rfl⟩
    · apply ByteArray.ext
      apply Array.ext'
      simp only [ByteArray.data_extract, Int.toNat_natCast, Array.toList_extract, List.extract_eq_take_drop, List.drop_zero, Nat.sub_zero]
    · apply ByteArray.ext
      apply Array.ext'
      simp only [tail1, ByteArray.data_extract, Int.toNat_natCast, List.length_singleton, Array.toList_extract, List.extract_eq_take_drop]
      rw [List.take_of_length_le (by simp)]
  · rw [if_neg h, if_neg (by omega), if_neg h]
    exact ⟨by simp, rfl, rfl⟩


theorem Cut1_ok (s : ByteArray) (c : UInt8) (w : World) (hs : s.size ≤ 1000000) (hm : ∃ m, w.cell? ⟨0, 0, none⟩ = some (.int .i64 m)) :
    Ret Try.prog 72 [.string s, .string ⟨#[c]⟩] w (Pv w (.tuple #[.string (cutT s c.toNat).1, .string (cutT s c.toNat).2.1, .bool (cutT s c.toNat).2.2])) := by
  obtain ⟨m, hm⟩ := hm
  have h := Any.strings_Cut Try.lays145 s ⟨#[c]⟩ m w (by omega) hm
  obtain ⟨e1, e2, e3⟩ := cut1 s c
  refine Calls.mono h fun e w' he => ⟨_, he.1, ?_, ?_⟩
  · show Value.tuple #[.string ⟨(Lib.cut s.data.toList [c]).1.toArray⟩, .string ⟨(Lib.cut s.data.toList [c]).2.1.toArray⟩, .bool (Lib.cut s.data.toList [c]).2.2] = _
    rw [e1, e2, e3]
  · obtain ⟨n, rfl⟩ := he.2
    exact ⟨rfl, rfl, rfl, Nat.le_refl _, fun _ _ => rfl⟩
end Go.Proofs.Ytgbedilaiefcbaa
