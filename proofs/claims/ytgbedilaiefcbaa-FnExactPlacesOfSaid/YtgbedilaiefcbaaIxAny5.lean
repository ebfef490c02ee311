/-
  strings.IndexAny with the five, by the contract on it. No condition beyond those written in each theorem.
-/
import Derived.Test.YtgbedilaiefcbaaCut1
import Derived.Shelf.Strings.IndexAnyAll
namespace Go.Proofs.Ytgbedilaiefcbaa
open Go.RowKit Go.Shelf
set_option linter.unusedVariables false
set_option linter.unusedSimpArgs false
set_option linter.unusedSectionVars false
set_option maxRecDepth 4000

end Go.Proofs.Ytgbedilaiefcbaa
namespace Go.Proofs
open Go.Shelf
def Try.lays153_ren : Go.Shelf.Ren := ⟨fun | 153 => 67 | 152 => 79 | 226 => 80 | 227 => 81 | 228 => 82 | 137 => 88 | 119 => 89 | 224 => 90 | 225 => 91 | 217 => 104 | 266 => 112 | n => n, fun | 9 => 9 | 3 => 3 | 4 => 4 | 5 => 5 | 21 => 21 | 117 => 100 | 116 => 99 | 0 => 0 | 46 => 107 | 124 => 112 | n => n, fun | n => n⟩
theorem Try.lays153 : Go.Proofs.Lays.n153 Try.prog Try.lays153_ren := {
  mixed := by kernel_rfl
  f119 := Try.func89.trans (congrArg some (by kernel_rfl))
  f137 := Try.func88.trans (congrArg some (by kernel_rfl))
  f152 := Try.func79.trans (congrArg some (by kernel_rfl))
  f153 := Try.func67.trans (congrArg some (by kernel_rfl))
  f217 := Try.func104.trans (congrArg some (by kernel_rfl))
  f224 := Try.func90.trans (congrArg some (by kernel_rfl))
  f225 := Try.func91.trans (congrArg some (by kernel_rfl))
  f226 := Try.func80.trans (congrArg some (by kernel_rfl))
  f227 := Try.func81.trans (congrArg some (by kernel_rfl))
  f228 := Try.func82.trans (congrArg some (by kernel_rfl))
  f266 := Try.func112.trans (congrArg some (by kernel_rfl))
  t0 := Try.underlying0
  a0 := Try.isAgg0
  z0 := Try.sizeOf0
  v0 := Try.zeroValue0
  t3 := Try.underlying3
  a3 := Try.isAgg3
  z3 := Try.sizeOf3
  v3 := Try.zeroValue3
  t4 := Try.underlying4
  a4 := Try.isAgg4
  z4 := Try.sizeOf4
  v4 := Try.zeroValue4
  t5 := Try.underlying5
  a5 := Try.isAgg5
  z5 := Try.sizeOf5
  v5 := Try.zeroValue5
  t9 := Try.underlying9
  a9 := Try.isAgg9
  z9 := Try.sizeOf9
  v9 := Try.zeroValue9
  t21 := Try.underlying21
  a21 := Try.isAgg21
  z21 := Try.sizeOf21
  v21 := Try.zeroValue21
  t46 := Try.underlying107
  a46 := Try.isAgg107
  z46 := Try.sizeOf107
  v46 := Try.zeroValue107
  t116 := Try.underlying99
  a116 := Try.isAgg99
  z116 := Try.sizeOf99
  t117 := Try.underlying100
  a117 := Try.isAgg100
  z117 := Try.sizeOf100
  v117 := Try.zeroValue100
  t124 := Try.underlying112
  a124 := Try.isAgg112
  z124 := Try.sizeOf112
  v124 := Try.zeroValue112 }
theorem Try.set153 : (Try.prog.info? (Try.lays153_ren.t 116)).map (fun i => (i.zero, i.size)) = some (some (.agg (Array.replicate 256 (.bool false))), 256) := by kernel_rfl
end Go.Proofs
namespace Go.Proofs.Ytgbedilaiefcbaa
open Go.Shelf
theorem indexAny5 (s : ByteArray) : Lib.indexAny s.data.toList chars5 = if at1 sp5 s < s.size then ((at1 sp5 s : Nat) : Int) else -1 := by
  have hno : Lib.NoAny s.data.toList chars5 (at1 sp5 s) := fun j b hj hb => by
    obtain ⟨h1, h2⟩ := bAt_get hb
    rw [chars5_has, ← h2]; exact at1_min hj
  by_cases h : at1 sp5 s < s.size
  · rw [if_pos h]
    obtain ⟨b, hb, e⟩ := get_bAt h
    exact Lib.indexAny_hit hno hb (by rw [chars5_has, ← e]; exact at1_hit h)
  · rw [if_neg h]
    have he : at1 sp5 s = s.data.toList.length := by have := at1_le sp5 s; simp; omega
    rw [he] at hno
    exact Lib.indexAny_none hno
theorem IndexAny5_ok (s : ByteArray) (w : World) (hs : s.size ≤ 1000000) (hp : allB s.size (fun i => inR 32 126 (bAt s i)) = true) :
    Ret Try.prog 67 [.string s, .string ⟨#[123, 125, 91, 93, 124]⟩] w (Pv w (.int .i64 (if at1 sp5 s < s.size then ((at1 sp5 s : Nat) : Int) else -1))) := by
  have h := Any.strings_IndexAny_laid Try.lays153 Try.set153 s ⟨#[123, 125, 91, 93, 124]⟩ w (by omega) (by decide) (fun j b hb => by
    obtain ⟨h1, h2⟩ := bAt_get hb
    have := inR_iff.1 (allB_iff.1 hp j h1)
    omega) (fun j b hb => by
    have : b ∈ chars5 := List.mem_of_getElem? hb
    have : ∀ x ∈ chars5, x.toNat < 128 := by decide
    exact this b (by assumption))
  refine Calls.mono h fun e w' he => ⟨_, he.1, ?_, he.2⟩
  rw [← indexAny5]; rfl
end Go.Proofs.Ytgbedilaiefcbaa
