/-
  strings.IndexAny with the five, by the contract on it. No condition beyond those written in each theorem.
-/
import Derived.Test.YtgbedilaiefcbaaCut1
import Derived.Shelf.Strings.IndexAnyAll
namespace Go.Proofs.Ytgbedilaiefcbaa
open Go.RowKit Go.Shelf
set_option linter.unusedVariables false
set_option linter.unusedSimpArgs false
set_option linter.unusedSectionVars false
set_option maxRecDepth 4000

end Go.Proofs.Ytgbedilaiefcbaa
namespace Go.Proofs
open Go.Shelf
shelf_lay Lays.n153 Nm 153 at Try as Try.lays153
theorem Try.set153 : (Try.prog.info? (Try.lays153_ren.t 116)).map (fun i => (i.zero, i.size)) = some (some (.agg (Array.replicate 256 (.bool false))), 256) := by kernel_rfl
end Go.Proofs
namespace Go.Proofs.Ytgbedilaiefcbaa
open Go.Shelf
theorem indexAny5 (s : ByteArray) : Lib.indexAny s.data.toList chars5 = if at1 sp5 s < s.size then ((at1 sp5 s : Nat) : Int) else -1 := by
  have hno : Lib.NoAny s.data.toList chars5 (at1 sp5 s) := fun j b hj hb => by
    obtain ⟨h1, h2⟩ := bAt_get hb
    rw [chars5_has, ← h2]; exact at1_min hj
  by_cases h : at1 sp5 s < s.size
  · rw [if_pos h]
    obtain ⟨b, hb, e⟩ := get_bAt h
    exact Lib.indexAny_hit hno hb (by rw [chars5_has, ← e]; exact at1_hit h)
  · rw [if_neg h]
    have he : at1 sp5 s = s.data.toList.length := by have := at1_le sp5 s; simp; omega
    rw [he] at hno
    exact Lib.indexAny_none hno
theorem IndexAny5_ok (s : ByteArray) (w : World) (hs : s.size ≤ 1000000) (hp : allB s.size (fun i => inR 32 126 (bAt s i)) = true) :
    Ret Try.prog 67 [.string s, .string ⟨#[123, 125, 91, 93, 124]⟩] w (Pv w (.int .i64 (if at1 sp5 s < s.size then ((at1 sp5 s : Nat) : Int) else -1))) := by
  have h := Any.strings_IndexAny_laid Try.lays153 Try.set153 s ⟨#[123, 125, 91, 93, 124]⟩ w (by omega) (by decide) (fun j b hb => by
    obtain ⟨h1, h2⟩ := bAt_get hb
    have := inR_iff.1 (allB_iff.1 hp j h1)
    omega) (fun j b hb => by
    have : b ∈ chars5 := List.mem_of_getElem? hb
    have : ∀ x ∈ chars5, x.toNat < 128 := by decide
    exact this b (by assumption))
  refine Calls.mono h fun e w' he => ⟨_, he.1, ?_, he.2⟩
  rw [← indexAny5]; rfl
end Go.Proofs.Ytgbedilaiefcbaa
